import PyProof.Rows.All
import Wide.All
import OpenK.AllK
import Wide.FinOn
import HandS.ForMost
import HandS.IsInst
import HandS.StrMore
import HandS.TupAny
import HandS.Deep
import HandS.Flow
import HandS.TupMul
import HandS.RaiseMore
import HandS.Walk
import HandS.Zip
import HandS.ExcOwn
import HandS.HeadHook1
import HandS.HeadHook2
import HandS.Head2
import HandS.HeadEnd
import HandS.Replace
import HandS.Codes
import HandS.Style
import HandS.TupLe
import HandS.Strs
import PySem.Challenge.RW_oncehome_k40_dates
set_option Elab.async false
set_option linter.all false
set_option maxRecDepth 100000
set_option maxHeartbeats 8000000
/-! BV1: values by content. Data (PyData) stand in an immutable part B of the abstract heap; lists, dicts, instances that change stand apart, owned by one slot each. -/
namespace BV
open PySem PySem.Spec PyProof.Rows L2

abbrev D := PyData
abbrev Fg := PySem.W.Frag
abbrev St := L2.St

theorem Same.seqT {K : Fg} {H H' : Hp} {a : Addr} {xs : List V} (e : Same H H') (h : SqT K H a xs) : SqT K H' a xs := by
  rcases h with (h | ⟨o, h⟩) | h
  · exact .inl (.inl (e _ _ h))
  · exact .inl (.inr ⟨o, e _ _ h⟩)
  · exact .inr h
mutual
/-- the value v is the data x in the part B that stays: its lists and tuples stand there (or a tuple of the module's) -/
inductive Dq (K : Fg) (B : Hp) : V → D → Prop
  | non : Dq K B .non .none
  | bl (b : Bool) : Dq K B (.bl b) (.bool b)
  | int (i : Int) : Dq K B (.int i) (.int i)
  | str (x : Str) : Dq K B (.str x) (.str x)
  | lst {a : Addr} {vs : List V} {ds : List D} : B a = some (.lst vs) → DqAll K B vs ds → Dq K B (.ref a) (.list ds)
  | tup {a : Addr} {vs : List V} {ds : List D} : SqT K B a vs → DqAll K B vs ds → Dq K B (.ref a) (.tuple ds)
inductive DqAll (K : Fg) (B : Hp) : List V → List D → Prop
  | nil : DqAll K B [] []
  | cons {v : V} {vs : List V} {d : D} {ds : List D} : Dq K B v d → DqAll K B vs ds → DqAll K B (v :: vs) (d :: ds)
end
mutual
theorem dq_dp {K : Fg} {B : Hp} : ∀ (x : D) (v : V), Dq K B v x → L2.Dp K B v x
  | .none, _, h => by cases h; exact .non
  | .bool _, _, h => by cases h; exact .bl _
  | .int _, _, h => by cases h; exact .int _
  | .str _, _, h => by cases h; exact .str _
  | .list xs, _, h => by
    cases h with
    | lst h1 h2 => exact .lst (SqL.of h1) (dqs_dps xs _ h2)
  | .tuple xs, _, h => by
    cases h with
    | tup h1 h2 => exact .tup h1 (dqs_dps xs _ h2)
  | .dict _, _, h => by cases h
theorem dqs_dps {K : Fg} {B : Hp} : ∀ (xs : List D) (vs : List V), DqAll K B vs xs → L2.DpAll K B vs xs
  | [], _, h => by cases h; exact .nil
  | x :: xs, _, h => by
    cases h with
    | cons h1 h2 => exact .cons (dq_dp x _ h1) (dqs_dps xs _ h2)
end
mutual
theorem dp_mono {K : Fg} {H H' : Hp} (e : Same H H') : ∀ (x : D) (v : V), Dq K H v x → Dq K H' v x
  | .none, _, h => by cases h; exact .non
  | .bool _, _, h => by cases h; exact .bl _
  | .int _, _, h => by cases h; exact .int _
  | .str _, _, h => by cases h; exact .str _
  | .list xs, _, h => by
    cases h with
    | lst h1 h2 => exact .lst (e _ _ h1) (dps_mono e xs _ h2)
  | .tuple xs, _, h => by
    cases h with
    | tup h1 h2 => exact .tup (Same.seqT e h1) (dps_mono e xs _ h2)
  | .dict _, _, h => by cases h
theorem dps_mono {K : Fg} {H H' : Hp} (e : Same H H') : ∀ (xs : List D) (vs : List V), DqAll K H vs xs → DqAll K H' vs xs
  | [], _, h => by cases h; exact .nil
  | x :: xs, _, h => by
    cases h with
    | cons h1 h2 => exact .cons (dp_mono e x _ h1) (dps_mono e xs _ h2)
end
theorem dps_length {K : Fg} {H : Hp} : ∀ {vs : List V} {xs : List D}, DqAll K H vs xs → vs.length = xs.length
  | _, _, .nil => rfl
  | _, _, .cons _ h => by rw [List.length_cons, List.length_cons, dps_length h]
theorem dps_get {K : Fg} {H : Hp} : ∀ {vs : List V} {xs : List D} (i : Nat) {x : D}, DqAll K H vs xs → xs[i]? = some x → ∃ v, vs[i]? = some v ∧ Dq K H v x
  | _, _, _, _, .nil, e => by simp at e
  | _, _, 0, _, .cons h _, e => by simp at e; subst e; exact ⟨_, rfl, h⟩
  | _, _, i + 1, _, .cons _ h, e => by
    obtain ⟨v, h1, h2⟩ := dps_get i h (by simpa using e)
    exact ⟨v, by simpa using h1, h2⟩
theorem dps_getV {K : Fg} {H : Hp} : ∀ {vs : List V} {xs : List D} (i : Nat) {v : V}, DqAll K H vs xs → vs[i]? = some v → ∃ x, xs[i]? = some x ∧ Dq K H v x
  | _, _, _, _, .nil, e => by simp at e
  | _, _, 0, _, .cons h _, e => by simp at e; subst e; exact ⟨_, rfl, h⟩
  | _, _, i + 1, _, .cons _ h, e => by
    obtain ⟨v, h1, h2⟩ := dps_getV i h (by simpa using e)
    exact ⟨v, by simpa using h1, h2⟩
theorem dps_app {K : Fg} {H : Hp} : ∀ {vs ws : List V} {xs ys : List D}, DqAll K H vs xs → DqAll K H ws ys → DqAll K H (vs ++ ws) (xs ++ ys)
  | _, _, _, _, .nil, h => h
  | _, _, _, _, .cons a b, h => .cons a (dps_app b h)
theorem dps_one {K : Fg} {H : Hp} {v : V} {x : D} (h : Dq K H v x) : DqAll K H [v] [x] := .cons h .nil
theorem dps_set {K : Fg} {H : Hp} : ∀ {vs : List V} {xs : List D} (i : Nat) {v : V} {x : D}, DqAll K H vs xs → Dq K H v x → DqAll K H (vs.set i v) (xs.set i x)
  | _, _, _, _, _, .nil, _ => .nil
  | _, _, 0, _, _, .cons _ b, h => .cons h b
  | _, _, i + 1, _, _, .cons a b, h => .cons a (dps_set i b h)
theorem dps_take {K : Fg} {H : Hp} : ∀ {vs : List V} {xs : List D} (n : Nat), DqAll K H vs xs → DqAll K H (vs.take n) (xs.take n)
  | _, _, 0, _ => by simp; exact .nil
  | _, _, _ + 1, .nil => by simp; exact .nil
  | _, _, n + 1, .cons a b => .cons a (dps_take n b)
theorem dps_drop {K : Fg} {H : Hp} : ∀ {vs : List V} {xs : List D} (n : Nat), DqAll K H vs xs → DqAll K H (vs.drop n) (xs.drop n)
  | _, _, 0, h => h
  | _, _, _ + 1, .nil => by simp; exact .nil
  | _, _, n + 1, .cons _ b => dps_drop n b

/-! ### what a slot holds -/
/-- un: nothing that is known; f: a def of the module, by its name; d: data; l, k, t, o: a list, a dict (keys ints and texts; tuples of them), an instance, that this slot alone holds -/
inductive Sl where
  | un
  | d (x : D)
  | l (xs : List D)
  | k (kvs : List (Key × D))
  | t (kvs : List (List Key × D))
  | o (c : Str) (fs : List (Str × Sl))
  | f (nm : Str)
abbrev Env := List Sl

/-- a value with the slots behind it; an exception of the class c with its argument; none of these: nothing is said -/
inductive RE (α : Type) where
  | ok (a : α) (e : Env)
  | ex (c : Str) (x : D) (e : Env)
  | no
def RE.bind {α β : Type} (r : RE α) (f : α → Env → RE β) : RE β :=
  match r with
  | .ok a e => f a e
  | .ex c x e => .ex c x e
  | .no => .no
/-- where a statement ends -/
inductive RS where
  | nx (e : Env)
  | rt (r : Sl) (e : Env)
  | bk (e : Env)
  | ct (e : Env)
  | ex (c : Str) (x : D) (e : Env)
  | no
/-- what a def gives: its answer, and what its parameters hold behind it -/
inductive RF where
  | ok (r : Sl) (outs : List Sl)
  | ex (c : Str) (x : D) (outs : List Sl)
  | no

structure Tb where
  K : Fg
  cls : Str → Option Addr
  pins : List Nat
  W : Option WX

/-- the pairs of a dict -/
inductive DpKV {κ : Type} (K : Fg) (H : Hp) : List (κ × V) → List (κ × D) → Prop
  | nil : DpKV K H [] []
  | cons {k : κ} {v : V} {x : D} {kvs : List (κ × V)} {kxs : List (κ × D)} : Dq K H v x → DpKV K H kvs kxs → DpKV K H ((k, v) :: kvs) ((k, x) :: kxs)
theorem dpkv_mono {κ : Type} {K : Fg} {H H' : Hp} (e : Same H H') : ∀ {kvs : List (κ × V)} {kxs : List (κ × D)}, DpKV K H kvs kxs → DpKV K H' kvs kxs
  | _, _, .nil => .nil
  | _, _, .cons a b => .cons (dp_mono e _ _ a) (dpkv_mono e b)

theorem ne_none_of {α : Type} {o : Option α} {x : α} (h : o = some x) : o ≠ none := fun z => by rw [h] at z; cases z
mutual
/-- the value v holds the content; A: the addresses that it owns -/
inductive Own (K : Fg) (cls : Str → Option Addr) (B H : Hp) : Sl → V → List Addr → Prop
  | d {x : D} {v : V} : Dq K B v x → Own K cls B H (.d x) v []
  | f {nm : Str} {a : Addr} : cls nm = some a → Own K cls B H (.f nm) (.ref a) []
  | l {xs : List D} {vs : List V} {p : Addr} : B p = none → H p = some (.lst vs) → DqAll K B vs xs → Own K cls B H (.l xs) (.ref p) [p]
  | k {xs : List (Key × D)} {vs : List (Key × V)} {p : Addr} : B p = none → H p = some (.dK vs) → DpKV K B vs xs → Own K cls B H (.k xs) (.ref p) [p]
  | t {xs : List (List Key × D)} {vs : List (List Key × V)} {p : Addr} : B p = none → H p = some (.dT vs) → DpKV K B vs xs → Own K cls B H (.t xs) (.ref p) [p]
  | o {c : Str} {C dx p : Addr} {fs : List (Str × Sl)} {vs : List (Str × V)} {A : List Addr} : cls c = some C → B p = none → H p = some (.ins C dx vs) → OwnF K cls B H fs vs A → Own K cls B H (.o c fs) (.ref p) (p :: A)
inductive OwnF (K : Fg) (cls : Str → Option Addr) (B H : Hp) : List (Str × Sl) → List (Str × V) → List Addr → Prop
  | nil : OwnF K cls B H [] [] []
  | cons {f : Str} {s : Sl} {v : V} {fs : List (Str × Sl)} {vs : List (Str × V)} {A1 A2 : List Addr} : Own K cls B H s v A1 → OwnF K cls B H fs vs A2 → OwnF K cls B H ((f, s) :: fs) ((f, v) :: vs) (A1 ++ A2)
end

/-- the slots -/
inductive EnvR (K : Fg) (cls : Str → Option Addr) (B H : Hp) : List (Option V) → Env → List Addr → Prop
  | nil : EnvR K cls B H [] [] []
  | un {s : Option V} {σ : List (Option V)} {env : Env} {A : List Addr} : EnvR K cls B H σ env A → EnvR K cls B H (s :: σ) (.un :: env) A
  | cons {v : V} {σ : List (Option V)} {e : Sl} {env : Env} {A1 A2 : List Addr} : Own K cls B H e v A1 → EnvR K cls B H σ env A2 → EnvR K cls B H (some v :: σ) (e :: env) (A1 ++ A2)

/-- from a state to a later one: what changed is owned (A), or new -/
structure Tr (B H : Hp) (A : List Addr) (B' H' : Hp) (A' : List Addr) : Prop where
  bb : Same B B'
  fr : ∀ a o, a ∉ A → H a = some o → H' a = some o
  st : ∀ a, H' a = none → H a = none
  nb : ∀ a, a ∉ A → H a ≠ none → B a = none → B' a = none
  na : ∀ a, a ∈ A' → a ∈ A ∨ H a = none
theorem Tr.refl {B H : Hp} {A : List Addr} : Tr B H A B H A := ⟨Same.refl B, fun _ _ _ h => h, fun _ h => h, fun _ _ _ h => h, fun _ h => .inl h⟩
theorem Tr.trans {B H B1 H1 B2 H2 : Hp} {A A1 A2 : List Addr} (a : Tr B H A B1 H1 A1) (b : Tr B1 H1 A1 B2 H2 A2) : Tr B H A B2 H2 A2 where
  bb := a.bb.trans b.bb
  fr := fun x o hx e => b.fr x o (fun h => (a.na x h).elim hx fun z => by rw [z] at e; cases e) (a.fr x o hx e)
  st := fun x h => a.st x (b.st x h)
  nb := fun x hx h z => b.nb x (fun q => (a.na x q).elim hx h) (fun q => h (a.st x q)) (a.nb x hx h z)
  na := fun x h => (b.na x h).elim (a.na x) fun z => .inr (a.st x z)
/-- the same with more that is owned, and left alone -/
theorem Tr.widen {B H B' H' : Hp} {A A' R : List Addr} (t : Tr B H A B' H' A') : Tr B H (A ++ R) B' H' (A' ++ R) where
  bb := t.bb
  fr := fun x o hx e => t.fr x o (fun h => hx (List.mem_append_left _ h)) e
  st := t.st
  nb := fun x hx h z => t.nb x (fun q => hx (List.mem_append_left _ q)) h z
  na := fun x h => (List.mem_append.mp h).elim (fun z => (t.na x z).elim (fun q => .inl (List.mem_append_left _ q)) .inr) fun z => .inl (List.mem_append_right _ z)
theorem Tr.widen0 {B H B' H' : Hp} {R : List Addr} (t : Tr B H [] B' H' []) : Tr B H R B' H' R := t.widen (R := R)
theorem Tr.less {B H B' H' : Hp} {A A' A2 : List Addr} (t : Tr B H A B' H' A') (h : ∀ a ∈ A2, a ∈ A') : Tr B H A B' H' A2 := ⟨t.bb, t.fr, t.st, t.nb, fun x q => t.na x (h x q)⟩
theorem Tr.perm {B H B' H' : Hp} {A A' A1 A2 : List Addr} (t : Tr B H A B' H' A') (h1 : ∀ a, a ∈ A ↔ a ∈ A1) (h2 : ∀ a ∈ A2, a ∈ A') : Tr B H A1 B' H' A2 :=
  ⟨t.bb, fun x o hx e => t.fr x o (fun h => hx ((h1 x).mp h)) e, t.st, fun x hx h z => t.nb x (fun q => hx ((h1 x).mp q)) h z, fun x q => (t.na x (h2 x q)).imp (h1 x).mp id⟩

section
variable {K : Fg} {cls : Str → Option Addr} {B H B' H' : Hp}
mutual
theorem own_known : ∀ {s : Sl} {v : V} {A : List Addr}, Own K cls B H s v A → ∀ a ∈ A, H a ≠ none ∧ B a = none
  | _, _, _, .d _, _, h => nomatch h
  | _, _, _, .f _, _, h => nomatch h
  | _, _, _, .l h1 h2 _, a, h => by
    obtain rfl := List.mem_singleton.mp h
    exact ⟨ne_none_of h2, h1⟩
  | _, _, _, .k h1 h2 _, a, h => by
    obtain rfl := List.mem_singleton.mp h
    exact ⟨ne_none_of h2, h1⟩
  | _, _, _, .t h1 h2 _, a, h => by
    obtain rfl := List.mem_singleton.mp h
    exact ⟨ne_none_of h2, h1⟩
  | _, _, _, .o _ h1 h2 h3, a, h => by
    rcases List.mem_cons.mp h with rfl | h
    · exact ⟨ne_none_of h2, h1⟩
    · exact ownF_known h3 a h
theorem ownF_known : ∀ {fs : List (Str × Sl)} {vs : List (Str × V)} {A : List Addr}, OwnF K cls B H fs vs A → ∀ a ∈ A, H a ≠ none ∧ B a = none
  | _, _, _, .nil, _, h => nomatch h
  | _, _, _, .cons h1 h2, a, h => (List.mem_append.mp h).elim (own_known h1 a) (ownF_known h2 a)
end
theorem env_known : ∀ {σ : List (Option V)} {env : Env} {A : List Addr}, EnvR K cls B H σ env A → ∀ a ∈ A, H a ≠ none ∧ B a = none
  | _, _, _, .nil, _, h => nomatch h
  | _, _, _, .un h1, a, h => env_known h1 a h
  | _, _, _, .cons h1 h2, a, h => (List.mem_append.mp h).elim (own_known h1 a) (env_known h2 a)

/-- what is owned and left alone stays -/
structure Keeps (B H B' H' : Hp) (A : List Addr) : Prop where
  bb : Same B B'
  fr : ∀ a o, a ∈ A → H a = some o → H' a = some o
  nb : ∀ a, a ∈ A → B a = none → B' a = none
theorem Tr.keeps {A A' R : List Addr} (t : Tr B H A B' H' A') (hd : ∀ a ∈ R, a ∉ A) (hk : ∀ a ∈ R, H a ≠ none) : Keeps B H B' H' R :=
  ⟨t.bb, fun a o h e => t.fr a o (hd a h) e, fun a h z => t.nb a (hd a h) (hk a h) z⟩
mutual
theorem own_keep : ∀ {s : Sl} {v : V} {A : List Addr}, Own K cls B H s v A → Keeps B H B' H' A → Own K cls B' H' s v A
  | _, _, _, .d h, k => .d (dp_mono k.bb _ _ h)
  | _, _, _, .f h, k => .f h
  | _, _, _, .l h1 h2 h3, k => .l (k.nb _ List.mem_cons_self h1) (k.fr _ _ List.mem_cons_self h2) (dps_mono k.bb _ _ h3)
  | _, _, _, .k h1 h2 h3, k => .k (k.nb _ List.mem_cons_self h1) (k.fr _ _ List.mem_cons_self h2) (dpkv_mono k.bb h3)
  | _, _, _, .t h1 h2 h3, k => .t (k.nb _ List.mem_cons_self h1) (k.fr _ _ List.mem_cons_self h2) (dpkv_mono k.bb h3)
  | _, _, _, .o h0 h1 h2 h3, k => .o h0 (k.nb _ List.mem_cons_self h1) (k.fr _ _ List.mem_cons_self h2) (ownF_keep h3 ⟨k.bb, fun a o h => k.fr a o (List.mem_cons_of_mem _ h), fun a h => k.nb a (List.mem_cons_of_mem _ h)⟩)
theorem ownF_keep : ∀ {fs : List (Str × Sl)} {vs : List (Str × V)} {A : List Addr}, OwnF K cls B H fs vs A → Keeps B H B' H' A → OwnF K cls B' H' fs vs A
  | _, _, _, .nil, _ => .nil
  | _, _, _, .cons h1 h2, k => .cons (own_keep h1 ⟨k.bb, fun a o h => k.fr a o (List.mem_append_left _ h), fun a h => k.nb a (List.mem_append_left _ h)⟩) (ownF_keep h2 ⟨k.bb, fun a o h => k.fr a o (List.mem_append_right _ h), fun a h => k.nb a (List.mem_append_right _ h)⟩)
end
theorem env_keep : ∀ {σ : List (Option V)} {env : Env} {A : List Addr}, EnvR K cls B H σ env A → Keeps B H B' H' A → EnvR K cls B' H' σ env A
  | _, _, _, .nil, _ => .nil
  | _, _, _, .un h, k => .un (env_keep h k)
  | _, _, _, .cons h1 h2, k => .cons (own_keep h1 ⟨k.bb, fun a o h => k.fr a o (List.mem_append_left _ h), fun a h => k.nb a (List.mem_append_left _ h)⟩) (env_keep h2 ⟨k.bb, fun a o h => k.fr a o (List.mem_append_right _ h), fun a h => k.nb a (List.mem_append_right _ h)⟩)
theorem env_len : ∀ {σ : List (Option V)} {env : Env} {A : List Addr}, EnvR K cls B H σ env A → σ.length = env.length
  | _, _, _, .nil => rfl
  | _, _, _, .un h => by rw [List.length_cons, List.length_cons, env_len h]
  | _, _, _, .cons _ h => by rw [List.length_cons, List.length_cons, env_len h]

/-- the slot i taken out -/
theorem env_at : ∀ {σ : List (Option V)} {env : Env} {A : List Addr} (i : Nat) {e : Sl}, EnvR K cls B H σ env A → env[i]? = some e → e ≠ .un →
    ∃ v A1 A2 A3, σ[i]? = some (some v) ∧ Own K cls B H e v A2 ∧ A = A1 ++ A2 ++ A3 ∧
      (∀ {B' H' : Hp} {s' : Option V} {e' : Sl} {A2' : List Addr}, (e' = .un ∧ A2' = [] ∨ ∃ v', s' = some v' ∧ Own K cls B' H' e' v' A2') → Keeps B H B' H' (A1 ++ A3) → EnvR K cls B' H' (σ.set i s') (env.set i e') (A1 ++ A2' ++ A3))
  | _, _, _, i, e, .nil, h, _ => by simp at h
  | _, _, _, 0, e, .un r, h, n => by simp at h; exact absurd h.symm n
  | _, _, _, 0, e, .cons (A1 := A1) (A2 := A2) o r, h, n => by
    simp at h
    subst h
    refine ⟨_, [], A1, A2, rfl, o, by simp, fun {B' H' s' e' A2'} ho k => ?_⟩
    have r' := env_keep (B' := B') (H' := H') r ⟨k.bb, fun a o h => k.fr a o (by simpa using h), fun a h => k.nb a (by simpa using h)⟩
    rcases ho with ⟨rfl, rfl⟩ | ⟨v', rfl, ho⟩
    · simpa using EnvR.un (s := s') r'
    · simpa using EnvR.cons ho r'
  | _, _, _, i + 1, e, .un (s := s) r, h, n => by
    obtain ⟨v, A1, A2, A3, h1, h2, h3, h4⟩ := env_at i r (by simpa using h) n
    exact ⟨v, A1, A2, A3, by simpa using h1, h2, h3, fun ho k => .un (h4 ho k)⟩
  | _, _, _, i + 1, e, .cons (A1 := Ah) (A2 := At) o r, h, n => by
    obtain ⟨v, A1, A2, A3, h1, h2, h3, h4⟩ := env_at i r (by simpa using h) n
    refine ⟨v, Ah ++ A1, A2, A3, by simpa using h1, h2, by rw [h3]; simp [List.append_assoc], fun {B' H' s' e' A2'} ho k => ?_⟩
    have q := h4 (B' := B') (H' := H') (s' := s') ho ⟨k.bb, fun a o h => k.fr a o (by rcases List.mem_append.mp h with h | h <;> simp [h]), fun a h => k.nb a (by rcases List.mem_append.mp h with h | h <;> simp [h])⟩
    have o' := own_keep (B' := B') (H' := H') o ⟨k.bb, fun a o h => k.fr a o (by simp [h]), fun a h => k.nb a (by simp [h])⟩
    have z := EnvR.cons o' q
    simpa [List.append_assoc] using z
/-- any slot set anew, what it held dropped -/
theorem env_set : ∀ {σ : List (Option V)} {env : Env} {A : List Addr} (i : Nat) {s' : Option V} {e' : Sl} {A2 : List Addr}, EnvR K cls B H σ env A → (e' = .un ∧ A2 = [] ∨ ∃ v', s' = some v' ∧ Own K cls B H e' v' A2) → (∀ a ∈ A2, a ∉ A) → A.Nodup → A2.Nodup →
    ∃ A', EnvR K cls B H (σ.set i s') (env.set i e') A' ∧ A'.Nodup ∧ ∀ a ∈ A', a ∈ A ∨ a ∈ A2
  | _, _, _, i, s', e', A2, .nil, _, _, _, _ => ⟨[], by simpa using EnvR.nil, List.nodup_nil, fun _ h => nomatch h⟩
  | _, _, _, 0, s', e', A2, .un r, ho, hd, hn, h2 => by
    rename_i A
    rcases ho with ⟨rfl, rfl⟩ | ⟨v', rfl, ho⟩
    · exact ⟨_, EnvR.un (s := s') r, hn, fun a h => .inl h⟩
    · exact ⟨_, EnvR.cons ho r, List.nodup_append.mpr ⟨h2, hn, fun a ha b hb q => hd a ha (q ▸ hb)⟩, fun a h => (List.mem_append.mp h).symm⟩
  | _, _, _, 0, s', e', A2, .cons (A1 := Ah) (A2 := At) o r, ho, hd, hn, h2 => by
    have hn' := (List.nodup_append.mp hn).2.1
    rcases ho with ⟨rfl, rfl⟩ | ⟨v', rfl, ho⟩
    · exact ⟨_, EnvR.un (s := s') r, hn', fun a h => .inl (List.mem_append_right _ h)⟩
    · exact ⟨_, EnvR.cons ho r, List.nodup_append.mpr ⟨h2, hn', fun a ha b hb q => hd a ha (q ▸ List.mem_append_right _ hb)⟩, fun a h => (List.mem_append.mp h).elim .inr fun z => .inl (List.mem_append_right _ z)⟩
  | _, _, _, i + 1, s', e', A2, .un r, ho, hd, hn, h2 => by
    obtain ⟨A', h3, h4, h5⟩ := env_set i r ho hd hn h2
    exact ⟨A', .un h3, h4, h5⟩
  | _, _, _, i + 1, s', e', A2, .cons (A1 := Ah) (A2 := At) o r, ho, hd, hn, h2 => by
    obtain ⟨n1, n2, n3⟩ := List.nodup_append.mp hn
    obtain ⟨A', h3, h4, h5⟩ := env_set i r ho (fun a h z => hd a h (List.mem_append_right _ z)) n2 h2
    refine ⟨_, .cons o h3, List.nodup_append.mpr ⟨n1, h4, fun a ha b hb q => ?_⟩, fun a h => (List.mem_append.mp h).elim (fun z => .inl (List.mem_append_left _ z)) fun z => (h5 a z).imp (List.mem_append_right _) id⟩
    rcases h5 b hb with z | z
    · exact n3 a ha b z q
    · exact hd b z (q ▸ List.mem_append_left _ ha)
end

structure Good (T : Tb) (B H : Hp) (σ : List (Option V)) (env : Env) (A : List Addr) : Prop where
  bh : Same B H
  er : EnvR T.K T.cls B H σ env A
  nd : A.Nodup
end BV

/-! BV2: the judgements: an expression's data, a new list's content, a test, arguments, a statement; the rule of sequence. -/
namespace BV
open PySem PySem.Spec PyProof.Rows L2

/-- the field that an error's argument is kept in -/
def fldOf (c : Str) : Str := if c = "TextError" then "at" else if c = "CommandError" then "line" else "reason"
/-- an exception of the class c with the argument x: its class, its own dict -/
def XcR (T : Tb) (B H : Hp) (cl : Value) (d : Option Addr) (c : Str) (x : D) : Prop :=
  ∃ C dd v, T.cls c = some C ∧ cl = .ref C ∧ d = some dd ∧ H dd = some (.xd [(fldOf c, v)]) ∧ Dq T.K B v x
def Pin (T : Tb) (σ σ' : St) : Prop := ∀ i ∈ T.pins, σ'[i]? = σ[i]?
theorem Pin.refl {T : Tb} {σ : St} : Pin T σ σ := fun _ _ => rfl
theorem Pin.trans {T : Tb} {σ σ1 σ2 : St} (a : Pin T σ σ1) (b : Pin T σ1 σ2) : Pin T σ σ2 := fun i h => (b i h).trans (a i h)

/-- v may be read as x: it is x in the part that stays, or a list that is owned, its items in the part that stays -/
def Pk (K : Fg) (B H : Hp) (v : V) (x : D) : Prop := Dq K B v x ∨ ∃ p vs xs, v = .ref p ∧ x = .list xs ∧ H p = some (.lst vs) ∧ DqAll K B vs xs
theorem Pk.dp {K : Fg} {B H : Hp} {v : V} {x : D} (e : Same B H) (h : Pk K B H v x) : L2.Dp K H v x := by
  rcases h with h | ⟨p, vs, xs, rfl, rfl, h1, h2⟩
  · exact dq_dp _ _ (dp_mono e _ _ h)
  · exact .lst (SqL.of h1) (dqs_dps _ _ (dps_mono e _ _ h2))
/-- a list's items -/
theorem Pk.items {K : Fg} {B H : Hp} {v : V} {xs : List D} (e : Same B H) (h : Pk K B H v (.list xs)) : ∃ p vs, v = .ref p ∧ H p = some (.lst vs) ∧ DqAll K B vs xs := by
  rcases h with h | ⟨p, vs, xs', rfl, e1, h1, h2⟩
  · cases h with
    | lst h1 h2 => exact ⟨_, _, rfl, e _ _ h1, h2⟩
  · cases e1
    exact ⟨p, vs, rfl, h1, h2⟩
theorem Pk.tup {K : Fg} {B H : Hp} {v : V} {xs : List D} (e : Same B H) (h : Pk K B H v (.tuple xs)) : ∃ p vs, v = .ref p ∧ SqT K H p vs ∧ DqAll K B vs xs := by
  rcases h with h | ⟨p, vs, xs', rfl, e1, h1, h2⟩
  · cases h with
    | tup h1 h2 => exact ⟨_, _, rfl, Same.seqT e h1, h2⟩
  · cases e1
theorem Pk.int {K : Fg} {B H : Hp} {v : V} {i : Int} (h : Pk K B H v (.int i)) : v = .int i := by
  rcases h with h | ⟨p, vs, xs', _, e1, _, _⟩
  · cases h; rfl
  · cases e1
theorem Pk.str {K : Fg} {B H : Hp} {v : V} {i : Str} (h : Pk K B H v (.str i)) : v = .str i := by
  rcases h with h | ⟨p, vs, xs', _, e1, _, _⟩
  · cases h; rfl
  · cases e1
theorem Pk.bool {K : Fg} {B H : Hp} {v : V} {i : Bool} (h : Pk K B H v (.bool i)) : v = .bl i := by
  rcases h with h | ⟨p, vs, xs', _, e1, _, _⟩
  · cases h; rfl
  · cases e1
theorem Pk.none {K : Fg} {B H : Hp} {v : V} (h : Pk K B H v .none) : v = .non := by
  rcases h with h | ⟨p, vs, xs', _, e1, _, _⟩
  · cases h; rfl
  · cases e1
inductive PkAll (K : Fg) (B H : Hp) : List V → List D → Prop
  | nil : PkAll K B H [] []
  | cons {v : V} {x : D} {vs : List V} {xs : List D} : Pk K B H v x → PkAll K B H vs xs → PkAll K B H (v :: vs) (x :: xs)
theorem pkall_of {K : Fg} {B H : Hp} : ∀ {vs : List V} {xs : List D}, DqAll K B vs xs → PkAll K B H vs xs
  | _, _, .nil => .nil
  | _, _, .cons a b => .cons (.inl a) (pkall_of b)

/-- an exception on the way -/
def exE (T : Tb) (σ : St) (B H : Hp) (A : List Addr) (c : Str) (x : D) (env : Env) : Prop :=
  ∃ W, T.W = some W ∧ ∀ cl d B' H' A', Tr B H A B' H' A' → Good T B' H' σ env A' → XcR T B' H' cl d c x → W cl d σ H'
theorem exE.trans {T : Tb} {σ : St} {B H B1 H1 : Hp} {A A1 : List Addr} {c : Str} {x : D} {env : Env} (t : Tr B H A B1 H1 A1) (h : exE T σ B H A c x env) : exE T σ B1 H1 A1 c x env := by
  obtain ⟨W, e, h⟩ := h
  exact ⟨W, e, fun cl d B' H' A' t' g x => h cl d B' H' A' (t.trans t') g x⟩

/-- what is wanted: R tells the value from the content -/
def ev {α β : Type} (T : Tb) (R : Hp → Hp → α → β → List Addr → Prop) (B H : Hp) (A : List Addr) (σ : St) (Q : β → Hp → Prop) : RE α → Prop
  | .ok x env' => ∀ v B' H' A' A2, Tr B H A B' H' (A' ++ A2) → Good T B' H' σ env' A' → R B' H' x v A2 → A2.Nodup → (∀ a ∈ A2, a ∉ A') → Q v H'
  | .ex c x env' => exE T σ B H A c x env'
  | .no => False
theorem ev.trans {α β : Type} {T : Tb} {R : Hp → Hp → α → β → List Addr → Prop} {B H B1 H1 : Hp} {A A1 : List Addr} {σ : St} {Q : β → Hp → Prop} {r : RE α} (t : Tr B H A B1 H1 A1) (h : ev T R B H A σ Q r) : ev T R B1 H1 A1 σ Q r := by
  cases r with
  | ok x env' => exact fun v B' H' A' A2 t' => h v B' H' A' A2 (t.trans t')
  | ex c x env' => exact exE.trans t h
  | no => exact h
theorem ev.imp {α β : Type} {T : Tb} {R R' : Hp → Hp → α → β → List Addr → Prop} {B H : Hp} {A : List Addr} {σ : St} {Q : β → Hp → Prop} {r : RE α} (h : ev T R B H A σ Q r) (i : ∀ B H x v A2, R' B H x v A2 → R B H x v A2) : ev T R' B H A σ Q r := by
  cases r with
  | ok x env' => exact fun v B' H' A' A2 t' g q => h v B' H' A' A2 t' g (i _ _ _ _ _ q)
  | ex c x env' => exact h
  | no => exact h

/-- .. with the part that stays told -/
def gB {α β : Type} (T : Tb) (R : Hp → Hp → α → β → List Addr → Prop) (m : Env → RE α) (B : Hp) (σ : St) (H : Hp) (Q : β → Hp → Prop) : Prop :=
  ∃ env A, Good T B H σ env A ∧ ev T R B H A σ Q (m env)
def gen {α β : Type} (T : Tb) (R : Hp → Hp → α → β → List Addr → Prop) (m : Env → RE α) (σ : St) (H : Hp) (Q : β → Hp → Prop) : Prop := ∃ B, gB T R m B σ H Q

def rD (K : Fg) : Hp → Hp → D → V → List Addr → Prop := fun B _ x v A2 => A2 = [] ∧ Dq K B v x
def rP (K : Fg) : Hp → Hp → D → V → List Addr → Prop := fun B H x v A2 => A2 = [] ∧ Pk K B H v x
def rN (T : Tb) : Hp → Hp → Sl → V → List Addr → Prop := fun B H s v A2 => Own T.K T.cls B H s v A2
def rT : Hp → Hp → Bool → Bool → List Addr → Prop := fun _ _ x v A2 => A2 = [] ∧ v = x
def rA (K : Fg) : Hp → Hp → List D → List V → List Addr → Prop := fun B _ xs vs A2 => A2 = [] ∧ DqAll K B vs xs
def rAP (K : Fg) : Hp → Hp → List D → List V → List Addr → Prop := fun B H xs vs A2 => A2 = [] ∧ PkAll K B H vs xs

/-- data; data or an owned list, read at once; a new thing; a test; arguments -/
def teD (T : Tb) (m : Env → RE D) : TE := fun σ H Q => gen T (rD T.K) m σ H Q
def teP (T : Tb) (m : Env → RE D) : TE := fun σ H Q => gen T (rP T.K) m σ H Q
def teN (T : Tb) (m : Env → RE Sl) : TE := fun σ H Q => gen T (rN T) m σ H Q
def ttD (T : Tb) (m : Env → RE Bool) : TT := fun σ H Q => gen T rT m σ H Q
def taD (T : Tb) (m : Env → RE (List D)) : TA := fun σ H Q => gen T (rA T.K) m σ H Q
def taP (T : Tb) (m : Env → RE (List D)) : TA := fun σ H Q => gen T (rAP T.K) m σ H Q

section
variable {X : Cx} {e : Expr} {t t' : TE}
theorem pew (h : PE X e t) (i : ∀ σ H Q, t' σ H Q → t σ H Q) : PE X e t' := ⟨fun pins s σ H Q I q => h.run pins s σ H Q I (i σ H Q q)⟩
theorem ptw {t t' : TT} (h : PT X e t) (i : ∀ σ H Q, t' σ H Q → t σ H Q) : PT X e t' := ⟨fun pins s σ H Q I q => h.run pins s σ H Q I (i σ H Q q)⟩
theorem pww {t t' : TT} (h : PW X e t) (i : ∀ σ H Q, t' σ H Q → t σ H Q) : PW X e t' := ⟨fun wh pins s σ H Q I q => h.run wh pins s σ H Q I (i σ H Q q)⟩
theorem paw {es : List Expr} {t t' : TA} (h : PA X es t) (i : ∀ σ H Q, t' σ H Q → t σ H Q) : PA X es t' := ⟨fun pos pins s σ H Q I q => h.run pos pins s σ H Q I (i σ H Q q)⟩
theorem psw {st : Stmt} {t t' : TS} (h : PS X st t) (i : ∀ D σ H, t' D σ H → t D σ H) : PS X st t' := ⟨fun pins s σ H D I q => h.run pins s σ H D I (i D σ H q)⟩
theorem pssw {st : List Stmt} {t t' : TS} (h : PSs X st t) (i : ∀ D σ H, t' D σ H → t D σ H) : PSs X st t' := ⟨fun pins s σ H D I q => h.run pins s σ H D I (i D σ H q)⟩
end

section
variable {T : Tb} {α β γ δ : Type} {R1 : Hp → Hp → γ → δ → List Addr → Prop} {R : Hp → Hp → α → β → List Addr → Prop} {σ : St} {B H : Hp} {Q : β → Hp → Prop} {m : Env → RE γ} {k : γ → Env → RE α}
/-- THE RULE of sequence: the first part, then the rest, where the first part owns nothing new -/
theorem seqB (h : gB T R (fun env => (m env).bind k) B σ H Q) (ho : ∀ B H x v A2, R1 B H x v A2 → A2 = []) :
    gB T R1 m B σ H (fun v H1 => ∃ x B1, Same B B1 ∧ R1 B1 H1 x v [] ∧ gB T R (k x) B1 σ H1 Q) := by
  obtain ⟨env, A, g, h⟩ := h
  refine ⟨env, A, g, ?_⟩
  cases e : m env with
  | ok x env1 =>
    simp only [e, RE.bind] at h
    intro v B1 H1 A1 A2 t g1 r n d
    obtain rfl := ho _ _ _ _ _ r
    rw [List.append_nil] at t
    exact ⟨x, B1, t.bb, r, env1, A1, g1, ev.trans t h⟩
  | ex c x env1 =>
    simp only [e, RE.bind] at h
    exact h
  | no =>
    simp only [e, RE.bind] at h
    exact h
theorem seqE (h : gen T R (fun env => (m env).bind k) σ H Q) (ho : ∀ B H x v A2, R1 B H x v A2 → A2 = []) :
    gen T R1 m σ H (fun v H1 => ∃ x B1, R1 B1 H1 x v [] ∧ gB T R (k x) B1 σ H1 Q) := by
  obtain ⟨B, h⟩ := h
  obtain ⟨env, A, g, h⟩ := seqB h ho
  refine ⟨B, env, A, g, ?_⟩
  cases e : m env with
  | ok x env1 =>
    rw [e] at h
    exact fun v B' H' A' A2 t g' r n d => let ⟨x, B1, _, a, b⟩ := h v B' H' A' A2 t g' r n d; ⟨x, B1, a, b⟩
  | ex c x env1 => rw [e] at h; exact h
  | no => rw [e] at h; exact h
/-- a step that is done at once -/
def lft {α : Type} (o : Option α) (env : Env) : RE α := match o with
  | some x => .ok x env
  | none => .no
/-- done: what the step made owns nothing new -/
theorem doneB {o : Option α} (h : gB T R (fun env => lft o env) B σ H Q) : ∃ x, o = some x ∧ Same B H ∧ ∀ v B' H', Tr B H [] B' H' [] → Same B' H' → R B' H' x v [] → Q v H' := by
  obtain ⟨env, A, g, h⟩ := h
  cases o with
  | none => exact h.elim
  | some x =>
    refine ⟨x, rfl, g.bh, fun v B' H' t s r => ?_⟩
    have k : Keeps B H B' H' A := t.keeps (fun _ _ => List.not_mem_nil) fun a ha => (env_known g.er a ha).1
    exact h v B' H' A [] (by simpa using t.widen0) ⟨s, env_keep g.er k, g.nd⟩ r List.nodup_nil fun _ z => nomatch z
/-- done: a new thing -/
theorem doneN {o : Option α} (h : gB T R (fun env => lft o env) B σ H Q) : ∃ x, o = some x ∧ Same B H ∧ ∀ v B' H' A2, Tr B H [] B' H' A2 → Same B' H' → R B' H' x v A2 → A2.Nodup → (∀ a ∈ A2, H a = none) → Q v H' := by
  obtain ⟨env, A, g, h⟩ := h
  cases o with
  | none => exact h.elim
  | some x =>
    refine ⟨x, rfl, g.bh, fun v B' H' A2 t s r n f => ?_⟩
    have k : Keeps B H B' H' A := t.keeps (fun _ _ => List.not_mem_nil) fun a ha => (env_known g.er a ha).1
    have w := t.widen (R := A)
    refine h v B' H' A A2 (w.perm (fun a => by simp) fun a ha => ?_) ⟨s, env_keep g.er k, g.nd⟩ r n fun a ha hb => (env_known g.er a hb).1 (f a ha)
    rcases List.mem_append.mp ha with z | z
    · exact List.mem_append_right _ z
    · exact List.mem_append_left _ z
end
theorem rD_nil {K : Fg} : ∀ B H x v A2, rD K B H x v A2 → A2 = [] := fun _ _ _ _ _ h => h.1
theorem rP_nil {K : Fg} : ∀ B H x v A2, rP K B H x v A2 → A2 = [] := fun _ _ _ _ _ h => h.1
theorem rT_nil : ∀ B H x v A2, rT B H x v A2 → A2 = [] := fun _ _ _ _ _ h => h.1
theorem rA_nil {K : Fg} : ∀ B H x v A2, rA K B H x v A2 → A2 = [] := fun _ _ _ _ _ h => h.1
theorem rAP_nil {K : Fg} : ∀ B H x v A2, rAP K B H x v A2 → A2 = [] := fun _ _ _ _ _ h => h.1

theorem gB_gen {α β : Type} {T : Tb} {R : Hp → Hp → α → β → List Addr → Prop} {m : Env → RE α} {B : Hp} {σ : St} {H : Hp} {Q : β → Hp → Prop} (h : gB T R m B σ H Q) : gen T R m σ H Q := ⟨B, h⟩

/-! ### from one mode to another -/
section
variable {X : Cx} {T : Tb} {e : Expr} {m : Env → RE D}
theorem bp_d (h : PE X e (teD T m)) : PE X e (teP T m) := pew h fun σ H Q ⟨B, env, A, g, q⟩ => ⟨B, env, A, g, q.imp fun _ _ _ _ _ r => ⟨r.1, .inl r.2⟩⟩
/-- a new list is frozen -/
def frz : RE Sl → RE D
  | .ok (.l xs) env => .ok (.list xs) env
  | .ok (.d x) env => .ok x env
  | .ok _ _ => .no
  | .ex c x env => .ex c x env
  | .no => .no
theorem frz_to {m : Env → RE Sl} : ∀ σ H Q, teD T (fun env => frz (m env)) σ H Q → teN T m σ H Q := fun σ H Q ⟨B, env, A, g, q⟩ => by
  refine ⟨B, env, A, g, ?_⟩
  cases em : m env with
  | ok s env' =>
    simp only [em] at q
    intro v B' H' A' A2 t g' r n d
    cases s with
    | d x =>
      cases r with
      | d hd => exact q v B' H' A' [] t g' ⟨rfl, hd⟩ n d
    | l xs =>
      cases r with
      | l h1 h2 h3 =>
        rename_i vs p
        have sb : Same B' (upd B' p (.lst vs)) := fun b o e => by rw [upd_ne (ne_of_none e h1)]; exact e
        have sh : Same (upd B' p (.lst vs)) H' := fun b o e => by
          by_cases hb : b = p
          · subst hb; rw [upd_same] at e; cases e; exact h2
          · rw [upd_ne hb] at e; exact g'.bh b o e
        have dis : ∀ a ∈ A', a ≠ p := fun a ha z => d p (List.mem_singleton.mpr rfl) (z ▸ ha)
        refine q (.ref p) (upd B' p (.lst vs)) H' A' [] ?_ ⟨sh, env_keep g'.er ⟨sb, fun _ _ _ e => e, fun a ha z => by rw [upd_ne (dis a ha)]; exact z⟩, g'.nd⟩ ⟨rfl, .lst upd_same (dps_mono sb _ _ h3)⟩ List.nodup_nil fun _ z => nomatch z
        refine ⟨t.bb.trans sb, t.fr, t.st, fun a ha hk hb => ?_, fun a ha => t.na a (List.mem_append_left _ (by simpa using ha))⟩
        have np : a ≠ p := fun z => (t.na p (List.mem_append_right _ (List.mem_singleton.mpr rfl))).elim (fun w => ha (z ▸ w)) fun w => hk (z ▸ w)
        rw [upd_ne np]
        exact t.nb a ha hk hb
    | un => exact q.elim
    | k _ => exact q.elim
    | t _ => exact q.elim
    | o _ _ => exact q.elim
    | f _ => exact q.elim
  | ex c x env' => simp only [em] at q; exact q
  | no => simp only [em] at q; exact q
theorem bd_n {m : Env → RE Sl} (h : PE X e (teN T m)) : PE X e (teD T fun env => frz (m env)) := pew h frz_to
end
end BV

/-! BV3: expressions. -/
namespace BV
open PySem PySem.Spec PyProof.Rows L2

theorem lim_eq : (sizeLine : Nat) = 16777216 := sizeLine_eq
theorem le_lim {n : Nat} (h : n ≤ 16777216) : n ≤ sizeLine := by rw [lim_eq]; exact h
theorem lt_lim {n : Nat} (h : n < 16777216) : n < sizeLine := by rw [lim_eq]; exact h

theorem ev.mono {α β : Type} {T : Tb} {R : Hp → Hp → α → β → List Addr → Prop} {B H : Hp} {A : List Addr} {σ : St} {Q Q' : β → Hp → Prop} {r : RE α} (h : ev T R B H A σ Q r) (i : ∀ v H, Q v H → Q' v H) : ev T R B H A σ Q' r := by
  cases r with
  | ok x env' => exact fun v B' H' A' A2 t' g q n d => i _ _ (h v B' H' A' A2 t' g q n d)
  | ex c x env' => exact h
  | no => exact h
theorem gen_mono {α β : Type} {T : Tb} {R : Hp → Hp → α → β → List Addr → Prop} {m : Env → RE α} {σ : St} {H : Hp} {Q Q' : β → Hp → Prop} (h : gen T R m σ H Q) (i : ∀ v H, Q v H → Q' v H) : gen T R m σ H Q' := by
  obtain ⟨B, env, A, g, h⟩ := h
  exact ⟨B, env, A, g, h.mono i⟩
theorem gB_mono {α β : Type} {T : Tb} {R : Hp → Hp → α → β → List Addr → Prop} {m : Env → RE α} {B : Hp} {σ : St} {H : Hp} {Q Q' : β → Hp → Prop} (h : gB T R m B σ H Q) (i : ∀ v H, Q v H → Q' v H) : gen T R m σ H Q' := by
  obtain ⟨env, A, g, h⟩ := h
  exact ⟨B, env, A, g, h.mono i⟩
/-- a new thing that stays -/
theorem tr_new {B H : Hp} {p : Addr} {o : HO} (hn : H p = none) (hb : Same B H) : Tr B H [] (upd B p o) (upd H p o) [] ∧ Same (upd B p o) (upd H p o) ∧ Same B (upd B p o) := by
  have bn : B p = none := hb.free hn
  have sb : Same B (upd B p o) := fun a u e => by rw [upd_ne (ne_of_none e bn)]; exact e
  refine ⟨⟨sb, fun a u _ e => by rw [upd_ne (ne_of_none e hn)]; exact e, fun a h => ?_, fun a _ h z => ?_, fun a h => nomatch h⟩, fun a u e => ?_, sb⟩
  · by_cases q : a = p
    · rw [q]; exact hn
    · rw [upd_ne q] at h; exact h
  · have q : a ≠ p := fun q => h (q ▸ hn)
    rw [upd_ne q]; exact z
  · by_cases q : a = p
    · rw [q, upd_same] at e; rw [q, upd_same]; exact e
    · rw [upd_ne q] at e ⊢; exact hb _ _ e
/-- a new thing that is owned -/
theorem tr_own {B H : Hp} {p : Addr} {o : HO} (hn : H p = none) (hb : Same B H) : Tr B H [] B (upd H p o) [p] ∧ Same B (upd H p o) ∧ B p = none := by
  have bn : B p = none := hb.free hn
  refine ⟨⟨Same.refl B, fun a u _ e => by rw [upd_ne (ne_of_none e hn)]; exact e, fun a h => ?_, fun a _ h z => z, fun a h => ?_⟩, fun a u e => ?_, bn⟩
  · by_cases q : a = p
    · rw [q]; exact hn
    · rw [upd_ne q] at h; exact h
  · rw [List.mem_singleton.mp h]; exact .inr hn
  · rw [upd_ne (ne_of_none e bn)]; exact hb _ _ e

/-! ### names, constants -/
theorem set_self {α : Type} : ∀ {l : List α} {i : Nat} {x : α}, l[i]? = some x → l.set i x = l
  | [], _, _, h => by simp at h
  | _ :: _, 0, _, h => by simp at h; subst h; rfl
  | a :: l, i + 1, x, h => by
    have := set_self (l := l) (i := i) (x := x) (by simpa using h)
    rw [List.set_cons_succ, this]
/-- the data in a slot; an owned list is frozen by it -/
def eVar (i : Nat) : Env → RE D := fun env => match env[i]? with
  | some (.d x) => .ok x env
  | some (.l xs) => .ok (.list xs) (env.set i (.d (.list xs)))
  | _ => .no
/-- .. read at once -/
def eOwn (i : Nat) : Env → RE D := fun env => match env[i]? with
  | some (.d x) => .ok x env
  | some (.l xs) => .ok (.list xs) env
  | _ => .no
def eC (x : D) : Env → RE D := fun env => .ok x env
section
variable {X : Cx} {T : Tb} {e : Expr}
theorem good_at {T : Tb} {B H : Hp} {σ : St} {env : Env} {A : List Addr} {i : Nat} {x : D} (g : Good T B H σ env A) (h : env[i]? = some (.d x)) : ∃ v, σ[i]? = some (some v) ∧ Dq T.K B v x := by
  obtain ⟨v, A1, A2, A3, h1, h2, _⟩ := env_at i g.er h (fun z => nomatch z)
  cases h2 with
  | d q => exact ⟨v, h1, q⟩
/-- an owned list is frozen -/
theorem good_frz {T : Tb} {B H : Hp} {σ : St} {env : Env} {A : List Addr} {i : Nat} {xs : List D} (g : Good T B H σ env A) (h : env[i]? = some (.l xs)) :
    ∃ v B' A', σ[i]? = some (some v) ∧ Dq T.K B' v (.list xs) ∧ Good T B' H σ (env.set i (.d (.list xs))) A' ∧ Tr B H A B' H A' := by
  obtain ⟨v, A1, A2, A3, h1, h2, h3, h4⟩ := env_at i g.er h (fun z => nomatch z)
  cases h2 with
  | l b1 b2 b3 =>
    rename_i vs p
    have sb : Same B (upd B p (.lst vs)) := fun b o e => by rw [upd_ne (ne_of_none e b1)]; exact e
    have nd : (A1 ++ [p] ++ A3).Nodup := h3 ▸ g.nd
    have dis : ∀ a ∈ A1 ++ A3, a ≠ p := fun a ha z => by
      subst z
      simp only [List.append_assoc, List.singleton_append] at nd
      have n2 := List.nodup_append.mp nd
      rcases List.mem_append.mp ha with q | q
      · exact n2.2.2 a q a (by simp) rfl
      · exact (List.nodup_cons.mp n2.2.1).1 q
    have d' : Dq T.K (upd B p (.lst vs)) (.ref p) (.list xs) := .lst upd_same (dps_mono sb _ _ b3)
    have er := h4 (B' := upd B p (.lst vs)) (H' := H) (s' := some (.ref p)) (e' := .d (.list xs)) (A2' := []) (.inr ⟨_, rfl, .d d'⟩) ⟨sb, fun _ _ _ e => e, fun a ha z => by rw [upd_ne (dis a ha)]; exact z⟩
    have eσ : σ.set i (some (.ref p)) = σ := set_self h1
    rw [eσ] at er
    refine ⟨_, _, _, h1, d', ⟨fun b o e => ?_, er, ?_⟩, sb, fun _ _ _ e => e, fun _ h => h, fun a ha hk z => ?_, fun a ha => ?_⟩
    · by_cases hb : b = p
      · subst hb; rw [upd_same] at e; cases e; exact b2
      · rw [upd_ne hb] at e; exact g.bh b o e
    · have := nd
      simp only [List.append_assoc, List.singleton_append] at this
      have n2 := List.nodup_append.mp this
      simp only [List.append_nil]
      exact List.nodup_append.mpr ⟨n2.1, (List.nodup_cons.mp n2.2.1).2, fun a ha b hb => n2.2.2 a ha b (List.mem_cons_of_mem _ hb)⟩
    · have : a ≠ p := fun q => ha (by rw [h3, q]; simp)
      rw [upd_ne this]; exact z
    · simp only [List.append_nil] at ha
      rw [h3]
      rcases List.mem_append.mp ha with q | q
      · exact .inl (by simp [q])
      · exact .inl (by simp [q])
theorem be_var (i : Nat) (h : PE X e (tVar i)) : PE X e (teD T (eVar i)) := pew h fun σ H Q ⟨B, env, A, g, q⟩ => by
  unfold eVar at q
  split at q
  · rename_i x hx
    obtain ⟨v, h1, h2⟩ := good_at g hx
    exact ⟨v, h1, q v B H A [] (by simpa using Tr.refl) g ⟨rfl, h2⟩ List.nodup_nil fun _ z => nomatch z⟩
  · rename_i xs hx
    obtain ⟨v, B', A', h1, h2, g', t⟩ := good_frz g hx
    exact ⟨v, h1, q v B' H A' [] (by simpa using t) g' ⟨rfl, h2⟩ List.nodup_nil fun _ z => nomatch z⟩
  · exact q.elim
theorem good_own {T : Tb} {B H : Hp} {σ : St} {env : Env} {A : List Addr} {i : Nat} {xs : List D} (g : Good T B H σ env A) (h : env[i]? = some (.l xs)) : ∃ p vs, σ[i]? = some (some (.ref p)) ∧ H p = some (.lst vs) ∧ DqAll T.K B vs xs := by
  obtain ⟨v, A1, A2, A3, h1, h2, _⟩ := env_at i g.er h (fun z => nomatch z)
  cases h2 with
  | l b1 b2 b3 => exact ⟨_, _, h1, b2, b3⟩
theorem bp_own (i : Nat) (h : PE X e (tVar i)) : PE X e (teP T (eOwn i)) := pew h fun σ H Q ⟨B, env, A, g, q⟩ => by
  unfold eOwn at q
  split at q
  · rename_i x hx
    obtain ⟨v, h1, h2⟩ := good_at g hx
    exact ⟨v, h1, q v B H A [] (by simpa using Tr.refl) g ⟨rfl, .inl h2⟩ List.nodup_nil fun _ z => nomatch z⟩
  · rename_i xs hx
    obtain ⟨p, vs, h1, h2, h3⟩ := good_own g hx
    exact ⟨_, h1, q (.ref p) B H A [] (by simpa using Tr.refl) g ⟨rfl, .inr ⟨p, vs, xs, rfl, rfl, h2, h3⟩⟩ List.nodup_nil fun _ z => nomatch z⟩
  · exact q.elim
/-- a constant, of the text or of the module -/
theorem be_c {v : V} {x : D} (h : PE X e (tC v)) (d : ∀ B, Dq T.K B v x) : PE X e (teD T (eC x)) := pew h fun σ H Q ⟨B, env, A, g, q⟩ =>
  q v B H A [] (by simpa using Tr.refl) g ⟨rfl, d B⟩ List.nodup_nil fun _ z => nomatch z
theorem be_int {i j pos} : PE X (.Constant (.int i) j pos) (teD T (eC (.int i))) := be_c pe_int fun _ => .int _
theorem be_bl {i j pos} : PE X (.Constant (.bool i) j pos) (teD T (eC (.bool i))) := be_c pe_bl fun _ => .bl _
theorem be_str {i j pos} : PE X (.Constant (.str i) j pos) (teD T (eC (.str i))) := be_c pe_str fun _ => .str _
theorem be_non {j pos} : PE X (.Constant .none j pos) (teD T (eC .none)) := be_c pe_non fun _ => .non
end

/-! ### operators -/
/-- the operation r on values does f on data (the second operand may be an owned list) -/
def DOp (K : Fg) (r : R2) (f : D → D → Option D) : Prop := ∀ (B H : Hp) (v u : V) (x y z : D) (Q : VK), Same B H → Dq K B v x → Pk K B H u y → f x y = some z →
  (∀ w B' H', Tr B H [] B' H' [] → Same B' H' → Dq K B' w z → Q w H') → r v u H Q
/-- the same for a truth value -/
def DOpB (K : Fg) (r : R2) (f : D → D → Option Bool) : Prop := ∀ (B H : Hp) (v u : V) (x y : D) (b : Bool) (Q : VK), Same B H → Dq K B v x → Pk K B H u y → f x y = some b → Q (.bl b) H → r v u H Q
def eBin (f : D → D → Option D) (a b : Env → RE D) : Env → RE D := fun env => (a env).bind fun x env => (b env).bind fun y env => lft (f x y) env
def eCmp (f : D → D → Option Bool) (a b : Env → RE D) : Env → RE D := fun env => (a env).bind fun x env => (b env).bind fun y env => lft ((f x y).map .bool) env
def tCmpD (f : D → D → Option Bool) (a b : Env → RE D) : Env → RE Bool := fun env => (a env).bind fun x env => (b env).bind fun y env => lft (f x y) env
/-- the first operand an owned list, read behind the second one -/
def eBinO (f : D → D → Option D) (i : Nat) (b : Env → RE D) : Env → RE D := fun env => (eOwn i env).bind fun _ env => (b env).bind fun y env => (eOwn i env).bind fun x env => lft (f x y) env
def tCmpO (f : D → D → Option Bool) (i : Nat) (b : Env → RE D) : Env → RE Bool := fun env => (eOwn i env).bind fun _ env => (b env).bind fun y env => (eOwn i env).bind fun x env => lft (f x y) env
section
variable {X : Cx} {T : Tb} {a b : Expr} {pos : Pos} {ma mb : Env → RE D}
theorem two {r : R2} {α β : Type} {R : Hp → Hp → α → β → List Addr → Prop} {f : D → D → Option α} {σ : St} {H : Hp} {Q : β → Hp → Prop} {Q' : VK}
    (h : gen T R (fun env => (ma env).bind fun x env => (mb env).bind fun y env => lft (f x y) env) σ H Q)
    (hr : ∀ (B H : Hp) (v u : V) (x y : D) (z : α), Same B H → Dq T.K B v x → Pk T.K B H u y → f x y = some z → (∀ w B' H', Tr B H [] B' H' [] → Same B' H' → R B' H' z w [] → Q w H') → r v u H Q') :
    tOp r (teD T ma) (teP T mb) σ H Q' := by
  refine gen_mono (seqE (R1 := rD T.K) h rD_nil) fun v H1 ⟨x, B1, ⟨_, hx⟩, h1⟩ => ?_
  refine gB_mono (seqB (R1 := rP T.K) h1 rP_nil) fun u H2 ⟨y, B2, sb, ⟨_, hy⟩, h2⟩ => ?_
  obtain ⟨z, e, s, k⟩ := doneB h2
  exact hr B2 H2 v u x y z s (dp_mono sb _ _ hx) hy e k
theorem be_bin {op : Operator} {r : R2} {f : D → D → Option D} (ho : OpR X (binaryOp op) r) (hr : DOp T.K r f) (ha : PE X a (teD T ma)) (hb : PE X b (teP T mb)) : PE X (.BinOp a op b pos) (teD T (eBin f ma mb)) :=
  pew (pe_op ho ha hb) fun σ H Q h => two h fun B H v u x y z s hx hy e k => hr B H v u x y z Q s hx hy e fun w B' H' t s' d => k w B' H' t s' ⟨rfl, d⟩
theorem be_cmp {op : CmpOp} {r : R2} {f : D → D → Option Bool} (ho : OpR X (compareOp op) r) (hr : DOpB T.K r f) (ha : PE X a (teD T ma)) (hb : PE X b (teP T mb)) (hm : behindInMarks op b = false) : PE X (.Compare a [op] [b] pos) (teD T (eCmp f ma mb)) :=
  pew (pe_cmpR ho ha hb hm) fun σ H Q h => two h fun B H v u x y z s hx hy e k => by
    obtain ⟨c, e1, e2⟩ := Option.map_eq_some_iff.mp e
    subst e2
    exact hr B H v u x y c Q s hx hy e1 (k _ B H Tr.refl s ⟨rfl, .bl _⟩)
theorem bt_cmp {op : CmpOp} {r : R2} {f : D → D → Option Bool} (ho : OpR X (compareOp op) r) (hr : DOpB T.K r f) (ha : PE X a (teD T ma)) (hb : PE X b (teP T mb)) (hm : behindInMarks op b = false) : PT X (.Compare a [op] [b] pos) (ttD T (tCmpD f ma mb)) :=
  ptw (pt_cmpR ho ha hb hm) fun σ H Q h => two (Q' := fun x H' => ∃ k, x = .bl k ∧ Q k H') h fun B H v u x y z s hx hy e k =>
    hr B H v u x y z _ s hx hy e ⟨z, rfl, k z B H Tr.refl s ⟨rfl, rfl⟩⟩
theorem own_at {B H : Hp} {σ : St} {env : Env} {A : List Addr} {i : Nat} {x : D} {env1 : Env} (g : Good T B H σ env A) (h : eOwn i env = .ok x env1) : env1 = env ∧ ∃ v, σ[i]? = some (some v) ∧ Pk T.K B H v x := by
  unfold eOwn at h
  split at h
  · rename_i x' hx
    cases h
    obtain ⟨v, h1, h2⟩ := good_at g hx
    exact ⟨rfl, v, h1, .inl h2⟩
  · rename_i xs hx
    cases h
    obtain ⟨p, vs, h1, h2, h3⟩ := good_own g hx
    exact ⟨rfl, _, h1, .inr ⟨p, vs, xs, rfl, rfl, h2, h3⟩⟩
  · cases h
theorem own_ex {i : Nat} {env env1 : Env} {c : Str} {x : D} (h : eOwn i env = .ex c x env1) : False := by
  unfold eOwn at h
  split at h <;> cases h
/-- DOp, the first operand an owned list too -/
def DOpO (K : Fg) (r : R2) (f : D → D → Option D) : Prop := ∀ (B H : Hp) (v u : V) (x y z : D) (Q : VK), Same B H → Pk K B H v x → Pk K B H u y → f x y = some z →
  (∀ w B' H', Tr B H [] B' H' [] → Same B' H' → Dq K B' w z → Q w H') → r v u H Q
def DOpBO (K : Fg) (r : R2) (f : D → D → Option Bool) : Prop := ∀ (B H : Hp) (v u : V) (x y : D) (b : Bool) (Q : VK), Same B H → Pk K B H v x → Pk K B H u y → f x y = some b → Q (.bl b) H → r v u H Q
theorem twoO {r : R2} {α β : Type} {R : Hp → Hp → α → β → List Addr → Prop} {f : D → D → Option α} {i : Nat} {σ : St} {H : Hp} {Q : β → Hp → Prop} {Q' : VK}
    (h : gen T R (fun env => (eOwn i env).bind fun _ env => (mb env).bind fun y env => (eOwn i env).bind fun x env => lft (f x y) env) σ H Q)
    (hr : ∀ (B H : Hp) (v u : V) (x y : D) (z : α), Same B H → Pk T.K B H v x → Pk T.K B H u y → f x y = some z → (∀ w B' H', Tr B H [] B' H' [] → Same B' H' → R B' H' z w [] → Q w H') → r v u H Q') :
    tOp r (tVar i) (teD T mb) σ H Q' := by
  obtain ⟨B, env, A, g, q⟩ := h
  cases e : eOwn i env with
  | ok x env1 =>
    obtain ⟨e1, v, hv, hp⟩ := own_at g e
    subst e1
    simp only [e, RE.bind] at q
    refine ⟨v, hv, ?_⟩
    refine gB_mono (seqB (R1 := rD T.K) (m := mb) (B := B) ⟨env1, A, g, q⟩ rD_nil) fun u H2 ⟨y, B2, sb, ⟨_, hy⟩, h2⟩ => ?_
    obtain ⟨env2, A2, g2, q2⟩ := h2
    cases e2 : eOwn i env2 with
    | ok x2 env3 =>
      obtain ⟨e1, v2, hv2, hp2⟩ := own_at g2 e2
      subst e1
      rw [hv] at hv2
      cases hv2
      simp only [e2, RE.bind] at q2
      obtain ⟨z, e, s, k⟩ := doneB (T := T) (R := R) (o := f x2 y) (B := B2) (σ := σ) (H := H2) (Q := Q) ⟨env3, A2, g2, q2⟩
      exact hr B2 H2 v u x2 y z s hp2 (.inl hy) e k
    | ex c x env1 => exact (own_ex e2).elim
    | no => simp only [e2, RE.bind] at q2; exact q2.elim
  | ex c x env1 => exact (own_ex e).elim
  | no => simp only [e, RE.bind] at q; exact q.elim
theorem be_binO {op : Operator} {r : R2} {f : D → D → Option D} {i : Nat} (ho : OpR X (binaryOp op) r) (hr : DOpO T.K r f) (ha : PE X a (tVar i)) (hb : PE X b (teD T mb)) : PE X (.BinOp a op b pos) (teD T (eBinO f i mb)) :=
  pew (pe_op ho ha hb) fun σ H Q h => twoO h fun B H v u x y z s hx hy e k => hr B H v u x y z Q s hx hy e fun w B' H' t s' d => k w B' H' t s' ⟨rfl, d⟩
theorem bt_cmpO {op : CmpOp} {r : R2} {f : D → D → Option Bool} {i : Nat} (ho : OpR X (compareOp op) r) (hr : DOpBO T.K r f) (ha : PE X a (tVar i)) (hb : PE X b (teD T mb)) (hm : behindInMarks op b = false) : PT X (.Compare a [op] [b] pos) (ttD T (tCmpO f i mb)) :=
  ptw (pt_cmpR ho ha hb hm) fun σ H Q h => twoO (Q' := fun x H' => ∃ k, x = .bl k ∧ Q k H') h fun B H v u x y z s hx hy e k =>
    hr B H v u x y z _ s hx hy e ⟨z, rfl, k z B H Tr.refl s ⟨rfl, rfl⟩⟩
/-- o[i], o an owned list -/
theorem be_ixO {r : R2} {f : D → D → Option D} {i : Nat} (ho : IxR X r) (hr : DOpO T.K r f) (ha : PE X a (tVar i)) (hb : PE X b (teD T mb)) (hs : PlainIx b) : PE X (.Subscript a b pos) (teD T (eBinO f i mb)) :=
  pew (pe_ix ho ha hb hs) fun σ H Q h => twoO h fun B H v u x y z s hx hy e k => hr B H v u x y z Q s hx hy e fun w B' H' t s' d => k w B' H' t s' ⟨rfl, d⟩
theorem be_ix {r : R2} {f : D → D → Option D} (ho : IxR X r) (hr : DOp T.K r f) (ha : PE X a (teD T ma)) (hb : PE X b (teP T mb)) (hs : PlainIx b) : PE X (.Subscript a b pos) (teD T (eBin f ma mb)) :=
  pew (pe_ix ho ha hb hs) fun σ H Q h => two h fun B H v u x y z s hx hy e k => hr B H v u x y z Q s hx hy e fun w B' H' t s' d => k w B' H' t s' ⟨rfl, d⟩
end

/-! ### tests -/
/-- a value's truth -/
def dTru : D → Option Bool
  | .none => some false
  | .bool b => some b
  | .int i => some (i != 0)
  | .str y => if y.length ≤ 16777216 then some ((y.length : Int) != 0) else none
  | .list xs => some (!xs.isEmpty)
  | .tuple xs => some (!xs.isEmpty)
  | .dict _ => none
theorem isEmpty_dqs {K : Fg} {B : Hp} {vs : List V} {xs : List D} (h : DqAll K B vs xs) : vs.isEmpty = xs.isEmpty := by cases h <;> rfl
theorem tru_of {K : Fg} {B H : Hp} {v : V} {x : D} {b : Bool} (s : Same B H) (h : Pk K B H v x) (e : dTru x = some b) : TruV K v H b := by
  cases x with
  | none => rw [h.none]; exact (Option.some.inj e).symm
  | bool c => rw [h.bool]; exact (Option.some.inj e).symm
  | int i => rw [h.int]; exact (Option.some.inj e).symm
  | str y =>
    rw [h.str]
    replace e : (if y.length ≤ 16777216 then some ((y.length : Int) != 0) else none) = some b := e
    split at e
    · rename_i hl; exact ⟨le_lim hl, (Option.some.inj e).symm⟩
    · cases e
  | list xs =>
    obtain ⟨p, vs, rfl, h1, h2⟩ := h.items s
    exact .inl ⟨vs, SqL.of h1, by rw [isEmpty_dqs h2]; exact (Option.some.inj e).symm⟩
  | tuple xs =>
    obtain ⟨p, vs, rfl, h1, h2⟩ := h.tup s
    exact .inr (.inl ⟨vs, h1, by rw [isEmpty_dqs h2]; exact (Option.some.inj e).symm⟩)
  | dict _ => cases e
def tTru (m : Env → RE D) : Env → RE Bool := fun env => (m env).bind fun x env => lft (dTru x) env
def tAndD (a b : Env → RE Bool) : Env → RE Bool := fun env => (a env).bind fun x env => if x then b env else .ok false env
def tOrD (a b : Env → RE Bool) : Env → RE Bool := fun env => (a env).bind fun x env => if x then .ok true env else b env
def tNotD (a : Env → RE Bool) : Env → RE Bool := fun env => (a env).bind fun x env => .ok (!x) env
def eIf (t : Env → RE Bool) (a b : Env → RE D) : Env → RE D := fun env => (t env).bind fun x env => if x then a env else b env
def nIf (t : Env → RE Bool) (a b : Env → RE Sl) : Env → RE Sl := fun env => (t env).bind fun x env => if x then a env else b env
/-- and, or, not as values -/
def eAnd (a b : Env → RE D) : Env → RE D := fun env => (a env).bind fun x env => (lft (dTru x) env).bind fun c env => if c then b env else .ok x env
def eOr (a b : Env → RE D) : Env → RE D := fun env => (a env).bind fun x env => (lft (dTru x) env).bind fun c env => if c then .ok x env else b env
def eNot (a : Env → RE D) : Env → RE D := fun env => (a env).bind fun x env => lft ((dTru x).map fun c => .bool (!c)) env
section
variable {X : Cx} {T : Tb} {a b c : Expr} {rest : List Expr} {pos : Pos} {ma mb : Env → RE D} {ta tb : Env → RE Bool}
theorem gB_ok {α β : Type} {T : Tb} {R : Hp → Hp → α → β → List Addr → Prop} {x : α} {v : β} {B : Hp} {σ : St} {H : Hp} {Q : β → Hp → Prop} (h : gB T R (fun env => .ok x env) B σ H Q) (r : R B H x v []) : Q v H := by
  obtain ⟨env, A, g, h⟩ := h
  exact h v B H A [] (by simpa using Tr.refl) g r List.nodup_nil fun _ z => nomatch z
theorem bt_tru (hK : T.K = X.K) (ha : PE X a (teP T ma)) (he : ∀ whole, isTrue a X.env whole = (do let v ← whole; standAt a.pos; holding [v] (truthy v)) := by intro _; rfl) : PT X a (ttD T (tTru ma)) :=
  ptw (pt_truth ha he) fun σ H Q h => gen_mono (seqE (R1 := rP T.K) h rP_nil) fun v H1 ⟨x, B1, ⟨_, hx⟩, h1⟩ => by
    obtain ⟨k, e, s, q⟩ := doneB h1
    exact ⟨k, hK ▸ tru_of s hx e, q k B1 H1 Tr.refl s ⟨rfl, rfl⟩⟩
theorem bw_and1 (ha : PT X a (ttD T ta)) : PW X (.BoolOp .And [a] pos) (ttD T ta) := pw_and1 ha
theorem bw_or1 (ha : PT X a (ttD T ta)) : PW X (.BoolOp .Or [a] pos) (ttD T ta) := pw_or1 ha
theorem bw_and (ha : PT X a (ttD T ta)) (hb : PW X (.BoolOp .And (b :: rest) pos) (ttD T tb)) : PW X (.BoolOp .And (a :: b :: rest) pos) (ttD T (tAndD ta tb)) :=
  pww (pw_and ha hb) fun σ H Q h => gen_mono (seqE (R1 := rT) h rT_nil) fun v H1 ⟨x, B1, ⟨_, hx⟩, h1⟩ => by
    subst hx
    cases v with
    | true => exact ⟨B1, h1⟩
    | false => exact gB_ok h1 ⟨rfl, rfl⟩
theorem bw_or (ha : PT X a (ttD T ta)) (hb : PW X (.BoolOp .Or (b :: rest) pos) (ttD T tb)) : PW X (.BoolOp .Or (a :: b :: rest) pos) (ttD T (tOrD ta tb)) :=
  pww (pw_or ha hb) fun σ H Q h => gen_mono (seqE (R1 := rT) h rT_nil) fun v H1 ⟨x, B1, ⟨_, hx⟩, h1⟩ => by
    subst hx
    cases v with
    | false => exact ⟨B1, h1⟩
    | true => exact gB_ok h1 ⟨rfl, rfl⟩
theorem bt_not (ha : PT X a (ttD T ta)) : PT X (.UnaryOp .Not a pos) (ttD T (tNotD ta)) :=
  ptw (pt_not ha) fun σ H Q h => gen_mono (seqE (R1 := rT) h rT_nil) fun v H1 ⟨x, B1, ⟨_, hx⟩, h1⟩ => by
    subst hx
    exact gB_ok h1 ⟨rfl, rfl⟩
theorem be_if (hc : PT X c (ttD T ta)) (ha : PE X a (teD T ma)) (hb : PE X b (teD T mb)) : PE X (.IfExp c a b pos) (teD T (eIf ta ma mb)) :=
  pew (pe_ifExp hc ha hb) fun σ H Q h => gen_mono (seqE (R1 := rT) h rT_nil) fun v H1 ⟨x, B1, ⟨_, hx⟩, h1⟩ => by
    subst hx
    cases v with
    | true => exact ⟨B1, h1⟩
    | false => exact ⟨B1, h1⟩
theorem bn_if {ma mb : Env → RE Sl} (hc : PT X c (ttD T ta)) (ha : PE X a (teN T ma)) (hb : PE X b (teN T mb)) : PE X (.IfExp c a b pos) (teN T (nIf ta ma mb)) :=
  pew (pe_ifExp hc ha hb) fun σ H Q h => gen_mono (seqE (R1 := rT) h rT_nil) fun v H1 ⟨x, B1, ⟨_, hx⟩, h1⟩ => by
    subst hx
    cases v with
    | true => exact ⟨B1, h1⟩
    | false => exact ⟨B1, h1⟩
theorem be_and (hK : T.K = X.K) (ha : PE X a (teD T ma)) (hb : PE X (.BoolOp .And (b :: rest) pos) (teD T mb)) : PE X (.BoolOp .And (a :: b :: rest) pos) (teD T (eAnd ma mb)) :=
  pew (pe_andT ha hb) fun σ H Q h => gen_mono (seqE (R1 := rD T.K) h rD_nil) fun v H1 ⟨x, B1, ⟨_, hx⟩, env, A, g, h1⟩ => by
    cases e : dTru x with
    | none => simp only [e, lft, RE.bind] at h1; exact h1.elim
    | some k =>
      simp only [e, lft, RE.bind] at h1
      refine ⟨k, hK ▸ tru_of g.bh (.inl hx) e, ?_⟩
      cases k with
      | true => exact ⟨B1, env, A, g, h1⟩
      | false => exact gB_ok (T := T) (R := rD T.K) (x := x) (B := B1) (σ := σ) ⟨env, A, g, h1⟩ ⟨rfl, hx⟩
theorem be_or (hK : T.K = X.K) (ha : PE X a (teD T ma)) (hb : PE X (.BoolOp .Or (b :: rest) pos) (teD T mb)) : PE X (.BoolOp .Or (a :: b :: rest) pos) (teD T (eOr ma mb)) :=
  pew (pe_orT ha hb) fun σ H Q h => gen_mono (seqE (R1 := rD T.K) h rD_nil) fun v H1 ⟨x, B1, ⟨_, hx⟩, env, A, g, h1⟩ => by
    cases e : dTru x with
    | none => simp only [e, lft, RE.bind] at h1; exact h1.elim
    | some k =>
      simp only [e, lft, RE.bind] at h1
      refine ⟨k, hK ▸ tru_of g.bh (.inl hx) e, ?_⟩
      cases k with
      | false => exact ⟨B1, env, A, g, h1⟩
      | true => exact gB_ok (T := T) (R := rD T.K) (x := x) (B := B1) (σ := σ) ⟨env, A, g, h1⟩ ⟨rfl, hx⟩
theorem be_not (hK : T.K = X.K) (ha : PE X a (teP T ma)) : PE X (.UnaryOp .Not a pos) (teD T (eNot ma)) :=
  pew (pe_notT ha) fun σ H Q h => gen_mono (seqE (R1 := rP T.K) h rP_nil) fun v H1 ⟨x, B1, ⟨_, hx⟩, h1⟩ => by
    obtain ⟨z, e, s, q⟩ := doneB h1
    obtain ⟨k, e1, e2⟩ := Option.map_eq_some_iff.mp e
    subst e2
    exact ⟨k, hK ▸ tru_of s hx e1, q _ B1 H1 Tr.refl s ⟨rfl, .bl _⟩⟩
end
end BV

/-! BV4: what the operators do on data. -/
namespace BV
open PySem PySem.Spec PyProof.Rows L2

theorem dop_of {K : Fg} {r : R2} {f : D → D → Option D} (h : DOpO K r f) : DOp K r f := fun B H v u x y z Q s hx hy e k => h B H v u x y z Q s (.inl hx) hy e k
theorem dopb_of {K : Fg} {r : R2} {f : D → D → Option Bool} (h : DOpBO K r f) : DOpB K r f := fun B H v u x y b Q s hx hy e k => h B H v u x y b Q s (.inl hx) hy e k
theorem tupD {K : Fg} {B H : Hp} {v : V} {xs : List D} (h : Pk K B H v (.tuple xs)) : Dq K B v (.tuple xs) := by
  rcases h with h | ⟨p, vs, xs', rfl, e1, h1, h2⟩
  · exact h
  · cases e1

/-! ### + -/
def dAdd : D → D → Option D
  | .int i, .int j => some (.int (i + j))
  | .str a, .str b => if a.length + b.length ≤ 16777216 then some (.str (a ++ b)) else none
  | .list xs, .list ys => if xs.length + ys.length ≤ 16777216 then some (.list (xs ++ ys)) else none
  | .tuple xs, .tuple ys => if xs.length + ys.length ≤ 16777216 then some (.tuple (xs ++ ys)) else none
  | _, _ => none
def rStrAdd : R2 := fun x y H Q => ∃ i j, x = .str i ∧ y = .str j ∧ i.length + j.length ≤ sizeLine ∧ Q (.str (i ++ j)) H
def rAddAll (K : Fg) : R2 := fun x y H Q => rI0 (fun i j => .int (i + j)) x y H Q ∨ rStrAdd x y H Q ∨ rCat x y H Q ∨ rCatA K x y H Q
theorem op_addAll {X : Cx} : OpR X (binaryOp .Add) (rAddAll X.K) := op_add.or (op_add_str.or (op_cat.or op_catA))
theorem dqs_nil {K : Fg} {B : Hp} {vs : List V} {xs : List D} (h : DqAll K B vs xs) : vs = [] ↔ xs = [] := by cases h <;> simp
theorem do_add {K : Fg} : DOpO K (rAddAll K) dAdd := by
  intro B H v u x y z Q s hx hy e k
  cases x with
  | int i =>
    cases y with
    | int j =>
      rw [hx.int, hy.int]
      cases e
      exact .inl ⟨i, j, rfl, rfl, k _ B H Tr.refl s (.int _)⟩
    | _ => cases e
  | str a =>
    cases y with
    | str b =>
      rw [hx.str, hy.str]
      replace e : (if a.length + b.length ≤ 16777216 then some (PyData.str (a ++ b)) else none) = some z := e
      split at e
      · rename_i hl
        cases e
        exact .inr (.inl ⟨a, b, rfl, rfl, le_lim hl, k _ B H Tr.refl s (.str _)⟩)
      · cases e
    | _ => cases e
  | list xs =>
    cases y with
    | list ys =>
      replace e : (if xs.length + ys.length ≤ 16777216 then some (PyData.list (xs ++ ys)) else none) = some z := e
      split at e
      · rename_i hl
        cases e
        obtain ⟨p, vs, rfl, h1, h2⟩ := hx.items s
        obtain ⟨q, ws, rfl, h3, h4⟩ := hy.items s
        refine .inr (.inr (.inl ⟨p, q, vs, ws, rfl, rfl, h1, h3, le_lim (by rw [dps_length h2, dps_length h4]; exact hl), fun a ha => ?_⟩))
        obtain ⟨t, s', sb⟩ := tr_new (o := .lst (vs ++ ws)) ha s
        exact k _ _ _ t s' (.lst upd_same (dps_mono sb _ _ (dps_app h2 h4)))
      · cases e
    | _ => cases e
  | tuple xs =>
    cases y with
    | tuple ys =>
      replace e : (if xs.length + ys.length ≤ 16777216 then some (PyData.tuple (xs ++ ys)) else none) = some z := e
      split at e
      · rename_i hl
        cases e
        have dx := tupD hx
        have dy := tupD hy
        obtain ⟨p, vs, rfl, h1, h2⟩ := hx.tup s
        obtain ⟨q, ws, rfl, h3, h4⟩ := hy.tup s
        refine .inr (.inr (.inr ⟨p, q, vs, ws, rfl, rfl, h1, h3, le_lim (by rw [dps_length h2, dps_length h4]; exact hl), fun h0 => ?_, fun _ h0 => ?_, fun _ _ a ha => ?_⟩))
        · obtain rfl := (dqs_nil h2).mp h0
          exact k _ B H Tr.refl s dy
        · obtain rfl := (dqs_nil h4).mp h0
          rw [List.append_nil] at k
          exact k _ B H Tr.refl s dx
        · obtain ⟨t, s', sb⟩ := tr_new (o := .tup (vs ++ ws)) ha s
          exact k _ _ _ t s' (.tup (SqT.of upd_same) (dps_mono sb _ _ (dps_app h2 h4)))
      · cases e
    | _ => cases e
  | _ => cases y <;> cases e

/-! ### ints -/
def dI (C : Int → Int → Bool) (g : Int → Int → Int) : D → D → Option D
  | .int i, .int j => if C i j then some (.int (g i j)) else none
  | _, _ => none
theorem do_int {K : Fg} {C : Int → Int → Prop} {c : Int → Int → Bool} {g : Int → Int → Int} (hc : ∀ i j, c i j = true → C i j) : DOpO K (rI C fun i j => .int (g i j)) (dI c g) := by
  intro B H v u x y z Q s hx hy e k
  cases x with
  | int i =>
    cases y with
    | int j =>
      rw [hx.int, hy.int]
      replace e : (if c i j = true then some (PyData.int (g i j)) else none) = some z := e
      split at e
      · rename_i h
        cases e
        exact ⟨i, j, rfl, rfl, hc i j h, k _ B H Tr.refl s (.int _)⟩
      · cases e
    | _ => cases e
  | _ => cases y <;> cases e
def dSub : D → D → Option D := dI (fun _ _ => true) fun i j => i - j
theorem op_subI {X : Cx} : OpR X (binaryOp .Sub) (rI (fun _ _ => True) fun i j => .int (i - j)) := fun pins s σ H x y v u Q I rx ry ⟨i, j, e1, e2, _, q⟩ => op_sub pins s σ H x y v u Q I rx ry ⟨i, j, e1, e2, q⟩
theorem do_sub {K : Fg} : DOpO K (rI (fun _ _ => True) fun i j => .int (i - j)) dSub := do_int fun _ _ _ => trivial
def dDiv : D → D → Option D := dI (fun _ j => decide (0 < j ∧ j < 1073741824)) fun i j => i / j
theorem do_div {K : Fg} : DOpO K (rI CDiv fun i j => .int (i / j)) dDiv := do_int fun i j h => show 0 < j ∧ j < 1073741824 from of_decide_eq_true h
def dMod : D → D → Option D := dI (fun _ j => decide (0 < j)) fun i j => i % j
theorem do_mod {K : Fg} : DOpO K (rI (fun _ j => 0 < j) fun i j => .int (i % j)) dMod := do_int fun _ _ h => of_decide_eq_true h
def dPow : D → D → Option D := dI (fun i j => decide (0 ≤ j ∧ j ≤ 1000000 ∧ i.natAbs < 2 ^ 64)) fun i j => i ^ j.toNat
theorem do_pow {K : Fg} : DOpO K (rI CPow fun i j => .int (i ^ j.toNat)) dPow := do_int fun i j h => show 0 ≤ j ∧ j ≤ 1000000 ∧ i.natAbs < 2 ^ 64 from of_decide_eq_true h

/-! ### * -/
def repS (z : Str) (k : Int) : Str := ⟨((List.replicate k.toNat z.cps.toList).flatten).toArray⟩
def rRepS : R2 := fun x y H Q => ∃ z k, x = .str z ∧ y = .int k ∧ -(2 ^ 63) ≤ k ∧ k < 2 ^ 63 ∧ z.length * k.toNat ≤ 16777216 ∧ Q (.str (repS z k)) H
theorem foldl_cps (z : Str) : ∀ (n : Nat) (acc : Array Nat), (List.replicate n z.cps).foldl (· ++ ·) acc = acc ++ ((List.replicate n z.cps.toList).flatten).toArray
  | 0, acc => by simp
  | n + 1, acc => by
    rw [List.replicate_succ, List.foldl_cons, foldl_cps z n, List.replicate_succ, List.flatten_cons]
    apply Array.ext'
    simp [List.append_assoc]
theorem op_repS {X : Cx} : OpR X (binaryOp .Mult) rRepS := by
  intro pins s σ H x y v u Q I rx ry h
  obtain ⟨z, k, rfl, rfl, h1, h2, hl, q⟩ := h
  obtain ⟨t, rfl⟩ := rx
  obtain ⟨t', rfl⟩ := ry
  have hsz : (repS z k).length = z.length * k.toNat := by
    show ((List.replicate k.toNat z.cps.toList).flatten).toArray.size = _
    rw [List.size_toArray, PyProof.Rows.lm_len_rep_flat, Array.length_toList, Nat.mul_comm]
    rfl
  have g1 : ¬ k < -(2 ^ 63 : Int) := Int.not_lt.mpr h1
  have g2 : ¬ k ≥ (2 ^ 63 : Int) := Int.not_le.mpr h2
  refine PySem.P.mul_str (by rw [decide_eq_false g1, decide_eq_false g2]; rfl) (fun a b c => ?_) (fun a b => ?_) ?_
  · have hz : 0 ≤ k := by omega
    have : (z.length : Int) * k ≤ 16777216 := by
      have : ((z.length * k.toNat : Nat) : Int) ≤ 16777216 := Int.ofNat_le.mpr hl
      rw [Int.natCast_mul, Int.toNat_of_nonneg hz] at this
      exact this
    have h3 : (2 ^ 63 - 1 : Int) / k * k > (2 ^ 63 - 1) - k := by
      have := Int.emod_add_mul_ediv (2 ^ 63 - 1) k
      have h4 := Int.emod_lt_of_pos (2 ^ 63 - 1 : Int) (show 0 < k by omega)
      have h5 : k * ((2 ^ 63 - 1 : Int) / k) = (2 ^ 63 - 1) / k * k := Int.mul_comm _ _
      omega
    have h6 : ((2 ^ 63 - 1 : Int) / k + 1) * k ≤ (z.length : Int) * k := Int.mul_le_mul_of_nonneg_right (by omega) hz
    rw [Int.add_mul, Int.one_mul] at h6
    omega
  · unfold PySem.Builtin.Str.tooLong
    exact decide_eq_false (by rw [lim_eq]; omega)
  · have fin : ∀ (w : Value) (tk : Nat), RelV (.str (repS z k)) w → EP X pins σ Q w { s with toks := tk } := fun w tk r => ⟨.str _, H, I.tok _, r, q⟩
    split
    · rename_i hn
      have e : repS z k = Str.empty := by
        unfold repS
        rw [Int.toNat_of_nonpos (by omega)]
        rfl
      exact ⟨by decide, e ▸ fin _ _ ⟨_, rfl⟩⟩
    · split
      · rename_i hn hc
        have e : repS z k = z := by
          rcases Bool.or_eq_true_iff.mp hc with c | c
          · obtain rfl : k = 1 := by simpa using c
            exact TL.ext_tl (by show ((List.replicate 1 z.cps.toList).flatten) = z.cps.toList; simp)
          · have z0 : z.cps.toList = [] := by
              have : z.length = 0 := by simpa using c
              unfold Str.length at this
              exact List.eq_nil_of_length_eq_zero (by simpa using this)
            exact TL.ext_tl (by show ((List.replicate k.toNat z.cps.toList).flatten) = z.cps.toList; rw [z0]; simp)
        exact fin (.str z t) s.toks ⟨t, by rw [e]⟩
      · have e : (⟨(List.replicate k.toNat z.cps).foldl (· ++ ·) #[]⟩ : Str) = repS z k := by
          unfold repS
          rw [foldl_cps]
          simp
        rw [e]
        exact ⟨by rw [hsz]; exact le_lim hl, fin _ _ ⟨_, rfl⟩⟩
def dMul : D → D → Option D
  | .int i, .int j => if decide ((-(2 ^ 64) < i ∧ i < 2 ^ 64) ∨ (-(2 ^ 64) < j ∧ j < 2 ^ 64)) then some (.int (i * j)) else none
  | .str a, .int k => if decide (-(2 ^ 63) ≤ k ∧ k < 2 ^ 63 ∧ a.length * k.toNat ≤ 16777216) then some (.str (repS a k)) else none
  | .list xs, .int k => if decide (-(2 ^ 63) ≤ k ∧ k < 2 ^ 63 ∧ xs.length * k.toNat ≤ 16777216) then some (.list (List.replicate k.toNat xs).flatten) else none
  | _, _ => none
def rMulAll : R2 := fun x y H Q => rI CMul (fun i j => .int (i * j)) x y H Q ∨ rRepS x y H Q ∨ rRep x y H Q
theorem op_mulAll {X : Cx} : OpR X (binaryOp .Mult) rMulAll := op_mul.or (op_repS.or op_rep)
theorem dqs_rep {K : Fg} {B : Hp} {vs : List V} {xs : List D} (h : DqAll K B vs xs) : ∀ n : Nat, DqAll K B (List.replicate n vs).flatten (List.replicate n xs).flatten
  | 0 => .nil
  | n + 1 => by
    rw [List.replicate_succ, List.replicate_succ, List.flatten_cons, List.flatten_cons]
    exact dps_app h (dqs_rep h n)
theorem do_mul {K : Fg} : DOpO K rMulAll dMul := by
  intro B H v u x y z Q s hx hy e k
  cases x with
  | int i =>
    cases y with
    | int j =>
      rw [hx.int, hy.int]
      replace e : (if decide ((-(2 ^ 64) < i ∧ i < 2 ^ 64) ∨ (-(2 ^ 64) < j ∧ j < 2 ^ 64)) = true then some (PyData.int (i * j)) else none) = some z := e
      split at e
      · rename_i h
        cases e
        exact .inl ⟨i, j, rfl, rfl, (show (-(2 ^ 64) < i ∧ i < 2 ^ 64) ∨ (-(2 ^ 64) < j ∧ j < 2 ^ 64) from of_decide_eq_true h), k _ B H Tr.refl s (.int _)⟩
      · cases e
    | _ => cases e
  | str a =>
    cases y with
    | int n =>
      rw [hx.str, hy.int]
      replace e : (if decide (-(2 ^ 63) ≤ n ∧ n < 2 ^ 63 ∧ a.length * n.toNat ≤ 16777216) = true then some (PyData.str (repS a n)) else none) = some z := e
      split at e
      · rename_i h
        cases e
        obtain ⟨h1, h2, h3⟩ := of_decide_eq_true h
        exact .inr (.inl ⟨a, n, rfl, rfl, h1, h2, h3, k _ B H Tr.refl s (.str _)⟩)
      · cases e
    | _ => cases e
  | list xs =>
    cases y with
    | int n =>
      replace e : (if decide (-(2 ^ 63) ≤ n ∧ n < 2 ^ 63 ∧ xs.length * n.toNat ≤ 16777216) = true then some (PyData.list (List.replicate n.toNat xs).flatten) else none) = some z := e
      split at e
      · rename_i h
        cases e
        obtain ⟨h1, h2, h3⟩ := of_decide_eq_true h
        obtain ⟨p, vs, rfl, g1, g2⟩ := hx.items s
        rw [hy.int]
        refine .inr (.inr ⟨p, n, vs, rfl, rfl, g1, h1, h2, le_lim (by rw [dps_length g2]; exact h3), fun a ha => ?_⟩)
        obtain ⟨t, s', sb⟩ := tr_new (o := .lst (List.replicate n.toNat vs).flatten) ha s
        exact k _ _ _ t s' (.lst upd_same (dps_mono sb _ _ (dqs_rep g2 _)))
      · cases e
    | _ => cases e
  | _ => cases y <;> cases e
end BV

/-! BV5: comparisons, membership, items, slices, arguments, built-in functions, methods, displays. -/
namespace BV
open PySem PySem.Spec PyProof.Rows L2

/-! ### ==, != -/
def dEqB : D → D → Option Bool
  | .str a, .str b => some (a == b)
  | x, y => if SeqAt.shaped x && SeqAt.shaped y then some (PyData.eqv x y) else none
def dNeB (x y : D) : Option Bool := (dEqB x y).map not
theorem dEqB_cases {x y : D} {c : Bool} (e : dEqB x y = some c) : (∃ a b, x = .str a ∧ y = .str b ∧ c = (a == b)) ∨ (SeqAt.shaped x = true ∧ SeqAt.shaped y = true ∧ c = PyData.eqv x y) := by
  have gen : (if SeqAt.shaped x && SeqAt.shaped y then some (PyData.eqv x y) else none) = some c → (SeqAt.shaped x = true ∧ SeqAt.shaped y = true ∧ c = PyData.eqv x y) := fun h => by
    split at h
    · rename_i g
      rw [Bool.and_eq_true] at g
      exact ⟨g.1, g.2, (Option.some.inj h).symm⟩
    · cases h
  cases x with
  | str a =>
    cases y with
    | str b => exact .inl ⟨a, b, rfl, rfl, (Option.some.inj e).symm⟩
    | _ => exact .inr (gen e)
  | _ => cases y <;> exact .inr (gen e)
def rEqAll (K : Fg) : R2 := fun x y H Q => rEq x y H Q ∨ rEqD K x y H Q
def rNeAll (K : Fg) : R2 := fun x y H Q => rNe x y H Q ∨ rNeD K x y H Q
theorem op_eqAll {X : Cx} (hu : X.A.units + 64 < cLine) : OpR X (compareOp .Eq) (rEqAll X.K) := op_eq.or (op_eqD hu)
theorem op_neAll {X : Cx} (hu : X.A.units + 64 < cLine) : OpR X (compareOp .NotEq) (rNeAll X.K) := op_ne.or (op_neD hu)
theorem do_eq {K : Fg} : DOpBO K (rEqAll K) dEqB := by
  intro B H v u x y c Q s hx hy e k
  rcases dEqB_cases e with ⟨a, b, rfl, rfl, rfl⟩ | ⟨h1, h2, rfl⟩
  · rw [hx.str, hy.str]
    exact .inl ⟨rfl, by rw [dec_str]; exact k⟩
  · exact .inr ⟨x, y, hx.dp s, hy.dp s, h1, h2, k⟩
theorem do_ne {K : Fg} : DOpBO K (rNeAll K) dNeB := by
  intro B H v u x y c Q s hx hy e k
  obtain ⟨c', e', rfl⟩ := Option.map_eq_some_iff.mp e
  rcases dEqB_cases e' with ⟨a, b, rfl, rfl, rfl⟩ | ⟨h1, h2, rfl⟩
  · rw [hx.str, hy.str]
    exact .inl ⟨rfl, by rw [dec_str]; exact k⟩
  · exact .inr ⟨x, y, hx.dp s, hy.dp s, h1, h2, k⟩

/-! ### order -/
def dOrd (f : Int → Int → Bool) (g : Str → Str → Bool) : D → D → Option Bool
  | .int i, .int j => some (f i j)
  | .str a, .str b => some (g a b)
  | _, _ => none
def rOrd (f : Int → Int → Bool) (g : Str → Str → Bool) : R2 := fun x y H Q => rI0 (fun i j => .bl (f i j)) x y H Q ∨ ∃ i j, x = .str i ∧ y = .str j ∧ Q (.bl (g i j)) H
theorem do_ord {K : Fg} {f : Int → Int → Bool} {g : Str → Str → Bool} : DOpBO K (rOrd f g) (dOrd f g) := by
  intro B H v u x y c Q s hx hy e k
  cases x with
  | int i =>
    cases y with
    | int j => rw [hx.int, hy.int]; cases e; exact .inl ⟨i, j, rfl, rfl, k⟩
    | _ => cases e
  | str a =>
    cases y with
    | str b => rw [hx.str, hy.str]; cases e; exact .inr ⟨a, b, rfl, rfl, k⟩
    | _ => cases e
  | _ => cases y <;> cases e
def sLt (a b : Str) : Bool := decide (a.cps.toList < b.cps.toList)
def dLtB : D → D → Option Bool := dOrd (fun i j => decide (i < j)) sLt
def dLeB : D → D → Option Bool := dOrd (fun i j => decide (i ≤ j)) fun a b => !sLt b a
def dGtB : D → D → Option Bool := dOrd (fun i j => decide (j < i)) fun a b => sLt b a
def dGeB : D → D → Option Bool := dOrd (fun i j => decide (j ≤ i)) fun a b => !sLt a b
theorem op_ltO {X : Cx} : OpR X (compareOp .Lt) (rOrd (fun i j => decide (i < j)) sLt) := op_lt.or op_lt_str
theorem op_leO {X : Cx} : OpR X (compareOp .LtE) (rOrd (fun i j => decide (i ≤ j)) fun a b => !sLt b a) := op_le.or op_le_str
theorem op_gtO {X : Cx} : OpR X (compareOp .Gt) (rOrd (fun i j => decide (j < i)) fun a b => sLt b a) := op_gt.or op_gt_str
theorem op_geO {X : Cx} : OpR X (compareOp .GtE) (rOrd (fun i j => decide (j ≤ i)) fun a b => !sLt a b) := op_ge.or op_ge_str

/-! ### is None -/
def isN : D → Bool
  | .none => true
  | _ => false
def dIsB (x y : D) : Option Bool := match y with
  | .none => some (isN x)
  | _ => none
def dIsNB (x y : D) : Option Bool := (dIsB x y).map not
theorem isnone_v {K : Fg} {B H : Hp} {v : V} {x : D} (h : Pk K B H v x) : decide (v = .non) = isN x := by
  rcases h with h | ⟨p, vs, xs, rfl, rfl, _, _⟩
  · cases h <;> rfl
  · rfl
theorem do_is {K : Fg} : DOpBO K (fun x y H Q => y = .non ∧ Q (.bl (decide (x = .non))) H) dIsB := by
  intro B H v u x y c Q s hx hy e k
  cases y with
  | none =>
    cases e
    exact ⟨hy.none, by rw [isnone_v hx]; exact k⟩
  | _ => cases e
theorem do_isN {K : Fg} : DOpBO K (fun x y H Q => y = .non ∧ Q (.bl (!decide (x = .non))) H) dIsNB := by
  intro B H v u x y c Q s hx hy e k
  cases y with
  | none =>
    cases e
    exact ⟨hy.none, by rw [isnone_v hx]; exact k⟩
  | _ => cases e

/-! ### in -/
def dInB : D → D → Option Bool
  | .str a, .str b => match a.cps.toList with
    | [c] => some (decide (c ∈ b.cps.toList))
    | _ => some (!(Builtin.Str.occurrences b a 0 b.length 1).isEmpty)
  | x, .list ys => if SeqAt.shaped x && SeqAt.shaped (.list ys) then some (ys.any fun z => PyData.eqv z x) else none
  | x, .tuple ys => if SeqAt.shaped x && SeqAt.shaped (.tuple ys) then some (ys.any fun z => PyData.eqv z x) else none
  | _, _ => none
def dNinB (x y : D) : Option Bool := (dInB x y).map not
def rInT (K : Fg) (n : Bool → Bool) : R2 := fun x y H Q => ∃ d ds, L2.Dp K H x d ∧ L2.Dp K H y (.tuple ds) ∧ SeqAt.shaped d = true ∧ SeqAt.shaped (.tuple ds) = true ∧ Q (.bl (n (ds.any fun z => PyData.eqv z d))) H
theorem room_tup {A : Around} {d : D} {ds : List D} (h : SeqAt.shaped d = true) (hu : A.units + 65 < cLine) : A.units + 1 + min (PyData.depthAll ds) d.depth < cLine := by
  have := SeqAt.depth_of_shaped h
  have := Nat.min_le_right (PyData.depthAll ds) d.depth
  omega
theorem op_inT {X : Cx} (hu : X.A.units + 65 < cLine) : OpR X (compareOp .In) (rInT X.K id) := by
  rintro pins s σ H x y v u Q I rx ry ⟨d, ds, hd, he, sd, se, q⟩
  obtain ⟨as, r1⟩ := Dp.reads I d x v hd rx
  obtain ⟨bs, r2⟩ := Dp.reads I (.tuple ds) y u he ry
  exact SeqAt.in_tuple_reads r2 r1 (SeqAt.canLay_of_shaped se) (SeqAt.canLay_of_shaped sd) (room_tup sd hu) ⟨.bl _, H, I, rfl, q⟩
theorem op_ninT {X : Cx} (hu : X.A.units + 65 < cLine) : OpR X (compareOp .NotIn) (rInT X.K not) := by
  rintro pins s σ H x y v u Q I rx ry ⟨d, ds, hd, he, sd, se, q⟩
  obtain ⟨as, r1⟩ := Dp.reads I d x v hd rx
  obtain ⟨bs, r2⟩ := Dp.reads I (.tuple ds) y u he ry
  exact SeqAt.notIn_tuple_reads r2 r1 (SeqAt.canLay_of_shaped se) (SeqAt.canLay_of_shaped sd) (room_tup sd hu) ⟨.bl _, H, I, rfl, q⟩
def rInAll (K : Fg) (n : Bool → Bool) (rl : R2) : R2 := fun x y H Q => (∃ (c : Nat) (z : Str), x = .str ⟨#[c]⟩ ∧ y = .str z ∧ Q (.bl (n (decide (c ∈ z.cps.toList)))) H) ∨
  (∃ i j, x = .str i ∧ y = .str j ∧ Q (.bl (n (!(Builtin.Str.occurrences j i 0 j.length 1).isEmpty))) H) ∨ rl x y H Q ∨ rInT K n x y H Q
theorem op_inAll {X : Cx} (hu : X.A.units + 65 < cLine) : OpR X (compareOp .In) (rInAll X.K id (rInD X.K)) := op_in_sign.or (op_in_str.or ((op_inD hu).or (op_inT hu)))
theorem op_ninAll {X : Cx} (hu : X.A.units + 65 < cLine) : OpR X (compareOp .NotIn) (rInAll X.K not (rNotInD X.K)) := op_notIn_sign.or (op_notin_str.or ((op_notInD hu).or (op_ninT hu)))
theorem do_inG {K : Fg} {n : Bool → Bool} {rl : R2} (hl : ∀ x y H Q d ds, L2.Dp K H x d → L2.Dp K H y (.list ds) → SeqAt.shaped d = true → SeqAt.shaped (.list ds) = true → Q (.bl (n (ds.any fun z => PyData.eqv z d))) H → rl x y H Q)
    {B H : Hp} {v u : V} {x y : D} {c : Bool} {Q : VK} (s : Same B H) (hx : Pk K B H v x) (hy : Pk K B H u y) (e : dInB x y = some c) (k : Q (.bl (n c)) H) : rInAll K n rl v u H Q := by
  cases y with
  | list ys =>
    have e' : (if SeqAt.shaped x && SeqAt.shaped (.list ys) then some (ys.any fun z => PyData.eqv z x) else none) = some c := by cases x <;> exact e
    split at e'
    · rename_i g
      rw [Bool.and_eq_true] at g
      cases e'
      exact .inr (.inr (.inl (hl v u H Q x ys (hx.dp s) (hy.dp s) g.1 g.2 k)))
    · cases e'
  | tuple ys =>
    have e' : (if SeqAt.shaped x && SeqAt.shaped (.tuple ys) then some (ys.any fun z => PyData.eqv z x) else none) = some c := by cases x <;> exact e
    split at e'
    · rename_i g
      rw [Bool.and_eq_true] at g
      cases e'
      exact .inr (.inr (.inr ⟨x, ys, hx.dp s, hy.dp s, g.1, g.2, k⟩))
    · cases e'
  | str b =>
    cases x with
    | str a =>
      rw [hx.str, hy.str]
      replace e : (match a.cps.toList with | [c] => some (decide (c ∈ b.cps.toList)) | _ => some (!(Builtin.Str.occurrences b a 0 b.length 1).isEmpty)) = some c := e
      split at e
      · rename_i c0 hc
        cases e
        have : a = ⟨#[c0]⟩ := TL.ext_tl hc
        exact .inl ⟨c0, b, by rw [this], rfl, k⟩
      · cases e
        exact .inr (.inl ⟨a, b, rfl, rfl, k⟩)
    | _ => cases e
  | _ => cases x <;> cases e
theorem do_in {K : Fg} : DOpBO K (rInAll K id (rInD K)) dInB := fun B H v u x y c Q s hx hy e k =>
  do_inG (fun x y H Q d ds h1 h2 h3 h4 q => ⟨d, ds, h1, h2, h3, h4, q⟩) s hx hy e k
theorem do_nin {K : Fg} : DOpBO K (rInAll K not (rNotInD K)) dNinB := fun B H v u x y c Q s hx hy e k => by
  obtain ⟨c', e', rfl⟩ := Option.map_eq_some_iff.mp e
  exact do_inG (fun x y H Q d ds h1 h2 h3 h4 q => ⟨d, ds, h1, h2, h3, h4, q⟩) s hx hy e' k

/-! ### items, slices -/
def dIx : D → D → Option D
  | .list xs, .int i => atI xs i
  | .tuple xs, .int i => atI xs i
  | .str z, .int i => if z.length ≤ 16777216 then (atI z.cps.toList i).map fun c => .str ⟨#[c]⟩ else none
  | _, _ => none
theorem atI_dqs {K : Fg} {B : Hp} {vs : List V} {xs : List D} {i : Int} {x : D} (h : DqAll K B vs xs) (e : atI xs i = some x) : ∃ v, atI vs i = some v ∧ Dq K B v x := by
  unfold atI at e ⊢
  rw [dps_length h]
  obtain ⟨j, e1, e2⟩ := Option.bind_eq_some_iff.mp e
  obtain ⟨v, h1, h2⟩ := dps_get j h e2
  exact ⟨v, by rw [e1]; exact h1, h2⟩
theorem do_ix {K : Fg} : DOpO K (rIx K) dIx := by
  intro B H v u x y z Q s hx hy e k
  cases y with
  | int i =>
    rw [hy.int]
    cases x with
    | list xs =>
      obtain ⟨p, vs, rfl, h1, h2⟩ := hx.items s
      obtain ⟨w, e1, e2⟩ := atI_dqs h2 e
      exact .inl ⟨p, vs, i, w, rfl, rfl, SqL.of h1, e1, k w B H Tr.refl s e2⟩
    | tuple xs =>
      obtain ⟨p, vs, rfl, h1, h2⟩ := hx.tup s
      obtain ⟨w, e1, e2⟩ := atI_dqs h2 e
      exact .inr (.inl ⟨p, vs, i, w, rfl, rfl, h1, e1, k w B H Tr.refl s e2⟩)
    | str a =>
      rw [hx.str]
      replace e : (if a.length ≤ 16777216 then (atI a.cps.toList i).map fun c => PyData.str ⟨#[c]⟩ else none) = some z := e
      split at e
      · rename_i hl
        obtain ⟨c, e1, rfl⟩ := Option.map_eq_some_iff.mp e
        exact .inr (.inr ⟨a, i, c, rfl, rfl, le_lim hl, e1, k _ B H Tr.refl s (.str _)⟩)
      · cases e
    | _ => cases e
  | _ => cases x <;> cases e
/-- the cut of a list -/
def cutD (xs : List D) (lo hi : Option Int) : List D := (xs.drop (HT.sIx xs.length 0 lo)).take (HT.sIx xs.length xs.length hi - HT.sIx xs.length 0 lo)
theorem cut_dqs {K : Fg} {B : Hp} {vs : List V} {xs : List D} (h : DqAll K B vs xs) (lo hi : Option Int) : DqAll K B (cutV vs lo hi) (cutD xs lo hi) := by
  unfold cutV cutD
  rw [dps_length h]
  exact dps_take _ (dps_drop _ h)
def dSl : D → Option Int → Option Int → Option D
  | .list xs, lo, hi => some (.list (cutD xs lo hi))
  | .tuple xs, lo, hi => some (.tuple (cutD xs lo hi))
  | .str z, lo, hi => if z.length ≤ 16777216 then some (.str (cutS z lo hi)) else none
  | _, _, _ => none
def rSlAll (K : Fg) : V → Option Int → Option Int → Hp → VK → Prop := fun x lo hi H Q => rSlL K x lo hi H Q ∨ rSlA K x lo hi H Q ∨ rSlS x lo hi H Q
theorem sl_all {X : Cx} : SlR X (rSlAll X.K) := sl_list.or (sl_tupA.or sl_str)
def rO : Hp → Hp → Option Int → Option Int → List Addr → Prop := fun _ _ x v A2 => A2 = [] ∧ v = x
theorem rO_nil : ∀ B H x v A2, rO B H x v A2 → A2 = [] := fun _ _ _ _ _ h => h.1
def toD (T : Tb) (m : Env → RE (Option Int)) : TO := fun σ H Q => gen T rO m σ H Q
def oNone : Env → RE (Option Int) := fun env => .ok none env
def oSome (m : Env → RE D) : Env → RE (Option Int) := fun env => (m env).bind fun x env => match x with
  | .int i => .ok (some i) env
  | _ => .no
def eSl (m : Env → RE D) (lo hi : Env → RE (Option Int)) : Env → RE D := fun env => (m env).bind fun x env => (lo env).bind fun l env => (hi env).bind fun h env => lft (dSl x l h) env
section
variable {X : Cx} {T : Tb} {a : Expr} {pos p2 : Pos} {m : Env → RE D} {ml mh : Env → RE (Option Int)} {lo hi : Option Expr}
theorem pow {e : Option Expr} {t t' : TO} (h : PO X e t) (i : ∀ σ H Q, t' σ H Q → t σ H Q) : PO X e t' := ⟨fun pins s σ H Q I q => h.run pins s σ H Q I (i σ H Q q)⟩
theorem bo_none : PO X none (toD T oNone) := pow po_none fun σ H Q ⟨B, h⟩ => gB_ok h ⟨rfl, rfl⟩
theorem bo_some (h : PE X a (teD T m)) : PO X (some a) (toD T (oSome m)) := pow (po_some h) fun σ H Q h => gen_mono (seqE (R1 := rD T.K) h rD_nil) fun v H1 ⟨x, B1, ⟨_, hx⟩, h1⟩ => by
  cases x with
  | int i =>
    cases hx
    exact ⟨i, rfl, gB_ok h1 ⟨rfl, rfl⟩⟩
  | _ => exact (let ⟨_, _, _, z⟩ := h1; z).elim
theorem be_sl (hK : T.K = X.K) (ha : PE X a (teD T m)) (hl : PO X lo (toD T ml)) (hh : PO X hi (toD T mh)) : PE X (.Subscript a (.Slice lo hi none p2) pos) (teD T (eSl m ml mh)) :=
  pew (pe_slice sl_all ha hl hh) fun σ H Q h => gen_mono (seqE (R1 := rD T.K) h rD_nil) fun v H1 ⟨x, B1, ⟨_, hx⟩, h1⟩ =>
    gB_mono (seqB (R1 := rO) h1 rO_nil) fun l H2 ⟨l', B2, sb, ⟨_, el⟩, h2⟩ => gB_mono (seqB (R1 := rO) h2 rO_nil) fun u H3 ⟨u', B3, sb2, ⟨_, eu⟩, h3⟩ => by
      subst el eu
      obtain ⟨z, e, s, k⟩ := doneB h3
      have dx := dp_mono sb2 _ _ (dp_mono sb _ _ hx)
      have px : Pk T.K B3 H3 v x := .inl dx
      rw [hK] at px dx
      cases x with
      | list xs =>
        cases e
        obtain ⟨p, vs, rfl, g1, g2⟩ := px.items s
        refine .inl ⟨p, vs, rfl, SqL.of g1, fun q hq => ?_⟩
        obtain ⟨t, s', sb⟩ := tr_new (o := .lst (cutV vs l u)) hq s
        exact k _ _ _ t s' ⟨rfl, hK ▸ .lst upd_same (dps_mono sb _ _ (cut_dqs g2 l u))⟩
      | tuple xs =>
        cases e
        obtain ⟨p, vs, rfl, g1, g2⟩ := px.tup s
        refine .inr (.inl ⟨p, vs, rfl, g1, fun hw => ?_, fun hw q hq => ?_⟩)
        · have ew : cutD xs l u = xs := by
            unfold cutD
            rw [← dps_length g2, hw.1, hw.2, dps_length g2]
            simp
          rw [ew] at k
          exact k _ _ _ Tr.refl s ⟨rfl, hK ▸ dx⟩
        · obtain ⟨t, s', sb⟩ := tr_new (o := .tup (cutV vs l u)) hq s
          exact k _ _ _ t s' ⟨rfl, hK ▸ .tup (SqT.of upd_same) (dps_mono sb _ _ (cut_dqs g2 l u))⟩
      | str a =>
        rw [px.str]
        replace e : (if a.length ≤ 16777216 then some (PyData.str (cutS a l u)) else none) = some z := e
        split at e
        · rename_i hl
          cases e
          exact .inr (.inr ⟨a, rfl, le_lim hl, k _ B3 H3 Tr.refl s ⟨rfl, .str _⟩⟩)
        · cases e
      | _ => cases e
end
end BV

/-! BV6: arguments, built-in functions, methods, displays, chains. -/
namespace BV
open PySem PySem.Spec PyProof.Rows L2

/-! ### arguments -/
def aNil : Env → RE (List D) := fun env => .ok [] env
def aCons (m : Env → RE D) (r : Env → RE (List D)) : Env → RE (List D) := fun env => (m env).bind fun x env => (r env).bind fun xs env => .ok (x :: xs) env
def aOne (m : Env → RE D) : Env → RE (List D) := fun env => (m env).bind fun x env => .ok [x] env
section
variable {X : Cx} {T : Tb} {e : Expr} {es : List Expr} {m : Env → RE D} {ms : Env → RE (List D)}
theorem gB_okB {α β : Type} {T : Tb} {R : Hp → Hp → α → β → List Addr → Prop} {x : α} {B : Hp} {σ : St} {H : Hp} {Q : β → Hp → Prop} (h : gB T R (fun env => .ok x env) B σ H Q) : Same B H ∧ ∀ v, R B H x v [] → Q v H := by
  obtain ⟨env, A, g, h⟩ := h
  exact ⟨g.bh, fun v r => h v B H A [] (by simpa using Tr.refl) g r List.nodup_nil fun _ z => nomatch z⟩
theorem ba_nil : PA X [] (taD T aNil) := paw pa_nil fun σ H Q ⟨B, h⟩ => gB_ok h ⟨rfl, .nil⟩
theorem ba_cons (h : PE X e (teD T m)) (hr : PA X es (taD T ms)) (hs : starEach (e :: es) X.env = (false, eval e X.env) :: starEach es X.env := by rfl) : PA X (e :: es) (taD T (aCons m ms)) :=
  paw (pa_cons h hr hs) fun σ H Q h => gen_mono (seqE (R1 := rD T.K) h rD_nil) fun v H1 ⟨x, B1, ⟨_, hx⟩, h1⟩ =>
    gB_mono (seqB (R1 := rA T.K) h1 rA_nil) fun vs H2 ⟨xs, B2, sb, ⟨_, hxs⟩, h2⟩ => gB_ok h2 ⟨rfl, .cons (dp_mono sb _ _ hx) hxs⟩
theorem ba_p (h : PA X es (taD T ms)) : PA X es (taP T ms) := paw h fun σ H Q ⟨B, env, A, g, q⟩ => ⟨B, env, A, g, q.imp fun _ _ _ _ _ r => ⟨r.1, pkall_of r.2⟩⟩
theorem ba_one (h : PE X e (teP T m)) (hs : starEach [e] X.env = (false, eval e X.env) :: starEach [] X.env := by rfl) : PA X [e] (taP T (aOne m)) :=
  paw (pa_cons h pa_nil hs) fun σ H Q h => gen_mono (seqE (R1 := rP T.K) h rP_nil) fun v H1 ⟨x, B1, ⟨_, hx⟩, h1⟩ => by
    exact gB_ok h1 ⟨rfl, .cons hx .nil⟩
end

/-! ### a built-in function, a method -/
/-- the call r on values gives the data f -/
def DCall (K : Fg) (r : List V → Hp → VK → Prop) (f : List D → Option D) : Prop := ∀ (B H : Hp) (vs : List V) (xs : List D) (z : D) (Q : VK), Same B H → PkAll K B H vs xs → f xs = some z →
  (∀ w B' H', Tr B H [] B' H' [] → Same B' H' → Dq K B' w z → Q w H') → r vs H Q
/-- .. a new list of data -/
def NCall (K : Fg) (r : List V → Hp → VK → Prop) (f : List D → Option (List D)) : Prop := ∀ (B H : Hp) (vs : List V) (xs : List D) (ys : List D) (Q : VK), Same B H → PkAll K B H vs xs → f xs = some ys →
  (∀ p ws, H p = none → DqAll K B ws ys → Q (.ref p) (upd H p (.lst ws))) → r vs H Q
def eCB (f : List D → Option D) (ms : Env → RE (List D)) : Env → RE D := fun env => (ms env).bind fun xs env => lft (f xs) env
def nCB (f : List D → Option (List D)) (ms : Env → RE (List D)) : Env → RE Sl := fun env => (ms env).bind fun xs env => lft ((f xs).map .l) env
/-- the type whose method it is -/
def tyD : D → String
  | .str _ => "str"
  | .list _ => "list"
  | .int _ => "int"
  | _ => ""
theorem tyV_of {K : Fg} {B H : Hp} {v : V} {x : D} {Ty : String} (s : Same B H) (h : Dq K B v x) (e : tyD x = Ty) (hn : Ty ≠ "") : tyV K Ty v H := by
  subst e
  cases h with
  | str y => rfl
  | int y => rfl
  | lst h1 _ => exact .inl ⟨rfl, _, SqL.of (s _ _ h1)⟩
  | _ => exact absurd rfl hn
def DMt (K : Fg) (r : V → List V → Hp → VK → Prop) (f : D → List D → Option D) : Prop := ∀ (B H : Hp) (v : V) (vs : List V) (x : D) (xs : List D) (z : D) (Q : VK), Same B H → Dq K B v x → PkAll K B H vs xs → f x xs = some z →
  (∀ w B' H', Tr B H [] B' H' [] → Same B' H' → Dq K B' w z → Q w H') → r v vs H Q
def NMt (K : Fg) (r : V → List V → Hp → VK → Prop) (f : D → List D → Option (List D)) : Prop := ∀ (B H : Hp) (v : V) (vs : List V) (x : D) (xs : List D) (ys : List D) (Q : VK), Same B H → Dq K B v x → PkAll K B H vs xs → f x xs = some ys →
  (∀ p ws, H p = none → DqAll K B ws ys → Q (.ref p) (upd H p (.lst ws))) → r v vs H Q
def tyChk (Ty : String) (x : D) (env : Env) : RE Unit := if tyD x = Ty then .ok () env else .no
def eBM (Ty : String) (f : D → List D → Option D) (o : Env → RE D) (ms : Env → RE (List D)) : Env → RE D := fun env => (o env).bind fun x env => (tyChk Ty x env).bind fun _ env => (ms env).bind fun xs env => lft (f x xs) env
def nBM (Ty : String) (f : D → List D → Option (List D)) (o : Env → RE D) (ms : Env → RE (List D)) : Env → RE Sl := fun env => (o env).bind fun x env => (tyChk Ty x env).bind fun _ env => (ms env).bind fun xs env => lft ((f x xs).map .l) env
section
variable {X : Cx} {T : Tb} {e : Expr} {m mo : Env → RE D} {ms : Env → RE (List D)} {Ty : String}
theorem be_cb {r : List V → Hp → VK → Prop} {f : List D → Option D} (h : PE X e (tCB r (taP T ms))) (hr : DCall T.K r f) : PE X e (teD T (eCB f ms)) :=
  pew h fun σ H Q h => gen_mono (seqE (R1 := rAP T.K) h rAP_nil) fun vs H1 ⟨xs, B1, ⟨_, hx⟩, h1⟩ => by
    obtain ⟨z, e, s, k⟩ := doneB h1
    exact hr B1 H1 vs xs z Q s hx e fun w B' H' t s' d => k w B' H' t s' ⟨rfl, d⟩
theorem bn_cb {r : List V → Hp → VK → Prop} {f : List D → Option (List D)} (h : PE X e (tCB r (taP T ms))) (hr : NCall T.K r f) : PE X e (teN T (nCB f ms)) :=
  pew h fun σ H Q h => gen_mono (seqE (R1 := rAP T.K) h rAP_nil) fun vs H1 ⟨xs, B1, ⟨_, hx⟩, h1⟩ => by
    obtain ⟨z, e, s, k⟩ := doneN h1
    obtain ⟨ys, e1, e2⟩ := Option.map_eq_some_iff.mp e
    subst e2
    refine hr B1 H1 vs xs ys Q s hx e1 fun p ws hp d => ?_
    obtain ⟨t, s', bn⟩ := tr_own (o := .lst ws) hp s
    exact k (.ref p) B1 _ [p] t s' (.l bn upd_same d) (by simp) fun a ha => by rw [List.mem_singleton.mp ha]; exact hp
theorem gB_chk {α β : Type} {R : Hp → Hp → α → β → List Addr → Prop} {x : D} {k : Env → RE α} {B : Hp} {σ : St} {H : Hp} {Q : β → Hp → Prop} (h : gB T R (fun env => (tyChk Ty x env).bind fun _ env => k env) B σ H Q) : tyD x = Ty ∧ gB T R k B σ H Q := by
  obtain ⟨env, A, g, h⟩ := h
  unfold tyChk at h
  split at h
  · rename_i q
    exact ⟨q, env, A, g, h⟩
  · exact h.elim
theorem be_bm {r : V → List V → Hp → VK → Prop} {f : D → List D → Option D} (hK : T.K = X.K) (h : PE X e (tBM X.K Ty r (teD T mo) (taP T ms))) (hr : DMt T.K r f) (hn : Ty ≠ "" := by decide) : PE X e (teD T (eBM Ty f mo ms)) :=
  pew h fun σ H Q h => gen_mono (seqE (R1 := rD T.K) h rD_nil) fun v H1 ⟨x, B1, ⟨_, hx⟩, h1⟩ => by
    obtain ⟨et, h2⟩ := gB_chk h1
    have sb : Same B1 H1 := let ⟨_, _, g, _⟩ := h2; g.bh
    refine ⟨hK ▸ tyV_of sb hx et hn, gB_mono (seqB (R1 := rAP T.K) h2 rAP_nil) fun vs H3 ⟨xs, B3, sb3, ⟨_, hxs⟩, h3⟩ => ?_⟩
    obtain ⟨z, e, s, k⟩ := doneB h3
    exact hr B3 H3 v vs x xs z Q s (dp_mono sb3 _ _ hx) hxs e fun w B' H' t s' d => k w B' H' t s' ⟨rfl, d⟩
theorem bn_bm {r : V → List V → Hp → VK → Prop} {f : D → List D → Option (List D)} (hK : T.K = X.K) (h : PE X e (tBM X.K Ty r (teD T mo) (taP T ms))) (hr : NMt T.K r f) (hn : Ty ≠ "" := by decide) : PE X e (teN T (nBM Ty f mo ms)) :=
  pew h fun σ H Q h => gen_mono (seqE (R1 := rD T.K) h rD_nil) fun v H1 ⟨x, B1, ⟨_, hx⟩, h1⟩ => by
    obtain ⟨et, h2⟩ := gB_chk h1
    have sb : Same B1 H1 := let ⟨_, _, g, _⟩ := h2; g.bh
    refine ⟨hK ▸ tyV_of sb hx et hn, gB_mono (seqB (R1 := rAP T.K) h2 rAP_nil) fun vs H3 ⟨xs, B3, sb3, ⟨_, hxs⟩, h3⟩ => ?_⟩
    obtain ⟨z, e, s, k⟩ := doneN h3
    obtain ⟨ys, e1, e2⟩ := Option.map_eq_some_iff.mp e
    subst e2
    refine hr B3 H3 v vs x xs ys Q s (dp_mono sb3 _ _ hx) hxs e1 fun p ws hp d => ?_
    obtain ⟨t, s', bn⟩ := tr_own (o := .lst ws) hp s
    exact k (.ref p) B3 _ [p] t s' (.l bn upd_same d) (by simp) fun a ha => by rw [List.mem_singleton.mp ha]; exact hp
/-- a method without arguments -/
def eBM0 (Ty : String) (f : D → List D → Option D) (o : Env → RE D) : Env → RE D := fun env => (o env).bind fun x env => (tyChk Ty x env).bind fun _ env => lft (f x []) env
def nBM0 (Ty : String) (f : D → List D → Option (List D)) (o : Env → RE D) : Env → RE Sl := fun env => (o env).bind fun x env => (tyChk Ty x env).bind fun _ env => lft ((f x []).map .l) env
theorem be_bm0 {r : V → List V → Hp → VK → Prop} {f : D → List D → Option D} (hK : T.K = X.K) (h : PE X e (tBM0 X.K Ty r (teD T mo))) (hr : DMt T.K r f) (hn : Ty ≠ "" := by decide) : PE X e (teD T (eBM0 Ty f mo)) :=
  pew h fun σ H Q h => gen_mono (seqE (R1 := rD T.K) h rD_nil) fun v H1 ⟨x, B1, ⟨_, hx⟩, h1⟩ => by
    obtain ⟨et, h2⟩ := gB_chk h1
    obtain ⟨z, e, s, k⟩ := doneB h2
    exact ⟨hK ▸ tyV_of s hx et hn, hr B1 H1 v [] x [] z Q s hx .nil e fun w B' H' t s' d => k w B' H' t s' ⟨rfl, d⟩⟩
theorem bn_bm0 {r : V → List V → Hp → VK → Prop} {f : D → List D → Option (List D)} (hK : T.K = X.K) (h : PE X e (tBM0 X.K Ty r (teD T mo))) (hr : NMt T.K r f) (hn : Ty ≠ "" := by decide) : PE X e (teN T (nBM0 Ty f mo)) :=
  pew h fun σ H Q h => gen_mono (seqE (R1 := rD T.K) h rD_nil) fun v H1 ⟨x, B1, ⟨_, hx⟩, h1⟩ => by
    obtain ⟨et, h2⟩ := gB_chk h1
    obtain ⟨z, e, s, k⟩ := doneN h2
    obtain ⟨ys, e1, e2⟩ := Option.map_eq_some_iff.mp e
    subst e2
    refine ⟨hK ▸ tyV_of s hx et hn, hr B1 H1 v [] x [] ys Q s hx .nil e1 fun p ws hp d => ?_⟩
    obtain ⟨t, s', bn⟩ := tr_own (o := .lst ws) hp s
    exact k (.ref p) B1 _ [p] t s' (.l bn upd_same d) (by simp) fun a ha => by rw [List.mem_singleton.mp ha]; exact hp

/-! ### displays -/
def eTup (ms : Env → RE (List D)) : Env → RE D := fun env => (ms env).bind fun xs env => if xs.length ≤ 16777216 then .ok (.tuple xs) env else .no
def nLst (ms : Env → RE (List D)) : Env → RE Sl := fun env => (ms env).bind fun xs env => lft (if xs.length ≤ 16777216 then some (.l xs) else none) env
theorem be_tup {es : List Expr} {x1 : Nat} {pos : Pos} (h : PA X es (taD T ms)) : PE X (.Tuple es x1 pos) (teD T (eTup ms)) :=
  pew (pe_tup h) fun σ H Q h => gen_mono (seqE (R1 := rA T.K) h rA_nil) fun vs H1 ⟨xs, B1, ⟨_, hx⟩, env, A, g, h1⟩ => by
    split at h1
    · rename_i hl
      refine ⟨le_lim (by rw [dps_length hx]; exact hl), fun p hp => ?_⟩
      obtain ⟨z, e, s, k⟩ := doneB (T := T) (R := rD T.K) (o := some (PyData.tuple xs)) (B := B1) (σ := σ) (H := H1) (Q := Q) ⟨env, A, g, h1⟩
      cases e
      obtain ⟨t, s', sb⟩ := tr_new (o := .tup vs) hp s
      exact k _ _ _ t s' ⟨rfl, .tup (SqT.of upd_same) (dps_mono sb _ _ hx)⟩
    · exact h1.elim
theorem bn_lst {es : List Expr} {pos : Pos} (h : PA X es (taD T ms)) : PE X (.List es pos) (teN T (nLst ms)) :=
  pew (pe_lst h) fun σ H Q h => gen_mono (seqE (R1 := rA T.K) h rA_nil) fun vs H1 ⟨xs, B1, ⟨_, hx⟩, h1⟩ => by
    obtain ⟨z, e, s, k⟩ := doneN h1
    split at e
    · rename_i hl
      cases e
      refine ⟨le_lim (by rw [dps_length hx]; exact hl), fun p hp => ?_⟩
      obtain ⟨t, s', bn⟩ := tr_own (o := .lst vs) hp s
      exact k (.ref p) B1 _ [p] t s' (.l bn upd_same hx) (by simp) fun a ha => by rw [List.mem_singleton.mp ha]; exact hp
    · cases e

/-! ### unary minus; a chain of two comparisons -/
def eNeg (m : Env → RE D) : Env → RE D := fun env => (m env).bind fun x env => match x with
  | .int i => .ok (.int (-i)) env
  | _ => .no
theorem be_neg {a : Expr} {pos : Pos} (h : PE X a (teD T m)) : PE X (.UnaryOp .USub a pos) (teD T (eNeg m)) :=
  pew (pe_un un_neg h) fun σ H Q h => gen_mono (seqE (R1 := rD T.K) h rD_nil) fun v H1 ⟨x, B1, ⟨_, hx⟩, h1⟩ => by
    cases x with
    | int i =>
      cases hx
      exact ⟨i, rfl, gB_ok h1 ⟨rfl, .int _⟩⟩
    | _ => exact (let ⟨_, _, _, z⟩ := h1; z).elim
def chainG {α : Type} (ret : Bool → α) (f g : D → D → Option Bool) (a b c : Env → RE D) : Env → RE α := fun env => (a env).bind fun x env => (b env).bind fun y env => (lft (f x y) env).bind fun k env =>
  if k then (c env).bind fun z env => lft ((g y z).map ret) env else .ok (ret false) env
def eChain := @chainG D PyData.bool
def tChainD := @chainG Bool id
theorem chain_go {r r' : R2} {f g : D → D → Option Bool} (hr : DOpB T.K r f) (hr' : DOpB T.K r' g) {α β : Type} {R : Hp → Hp → α → β → List Addr → Prop} {ret : Bool → α} {ma mb mc : Env → RE D} {σ : St} {H : Hp} {Q : β → Hp → Prop} {Q' : VK}
    (fin : ∀ B H c, (∀ v, R B H (ret c) v [] → Q v H) → Q' (.bl c) H)
    (h : gen T R (fun env => (ma env).bind fun x env => (mb env).bind fun y env => (lft (f x y) env).bind fun k env => if k then (mc env).bind fun z env => lft ((g y z).map ret) env else .ok (ret false) env) σ H Q) :
    tChain r r' (teD T ma) (teD T mb) (teD T mc) σ H Q' := by
  refine gen_mono (seqE (R1 := rD T.K) h rD_nil) fun v H1 ⟨x, B1, ⟨_, hx⟩, h1⟩ => ?_
  refine gB_mono (seqB (R1 := rD T.K) h1 rD_nil) fun u H2 ⟨y, B2, sb, ⟨_, hy⟩, env2, A2, g2, h2⟩ => ?_
  cases ef : f x y with
  | none => simp only [ef, lft, RE.bind] at h2; exact h2.elim
  | some k =>
    simp only [ef, lft, RE.bind] at h2
    refine hr B2 H2 v u x y k _ g2.bh (dp_mono sb _ _ hx) (.inl hy) ef ⟨k, rfl, ?_⟩
    cases k with
    | false => exact fin B2 H2 false fun v' r' => gB_ok (T := T) (R := R) (x := ret false) (B := B2) (σ := σ) ⟨env2, A2, g2, h2⟩ r'
    | true =>
      refine gB_mono (seqB (R1 := rD T.K) (m := mc) (k := fun z env => lft ((g y z).map ret) env) (B := B2) ⟨env2, A2, g2, h2⟩ rD_nil) fun w H3 ⟨z, B3, sb3, ⟨_, hz⟩, h3⟩ => ?_
      obtain ⟨c, e, s, k⟩ := doneB h3
      obtain ⟨c', e1, e2⟩ := Option.map_eq_some_iff.mp e
      subst e2
      exact hr' B3 H3 u w y z c' _ s (dp_mono sb3 _ _ hy) (.inl hz) e1 (fin B3 H3 c' fun v' r' => k v' B3 H3 Tr.refl s r')
theorem be_chain {r r' : R2} {f g : D → D → Option Bool} {op op' : CmpOp} {a b c : Expr} {pos : Pos} {ma mb mc : Env → RE D} (hr : DOpB T.K r f) (hr' : DOpB T.K r' g) (h : PE X (.Compare a [op, op'] [b, c] pos) (tChain r r' (teD T ma) (teD T mb) (teD T mc))) :
    PE X (.Compare a [op, op'] [b, c] pos) (teD T (eChain f g ma mb mc)) := pew h fun σ H Q h => chain_go hr hr' (fun B H c k => k _ ⟨rfl, .bl _⟩) h
theorem bt_chain {r r' : R2} {f g : D → D → Option Bool} {op op' : CmpOp} {a b c : Expr} {pos : Pos} {ma mb mc : Env → RE D} (hr : DOpB T.K r f) (hr' : DOpB T.K r' g) (h : PT X (.Compare a [op, op'] [b, c] pos) (tTest (tChain r r' (teD T ma) (teD T mb) (teD T mc)))) :
    PT X (.Compare a [op, op'] [b, c] pos) (ttD T (tChainD f g ma mb mc)) := ptw h fun σ H Q h => chain_go hr hr' (Q' := fun x H' => ∃ k, x = .bl k ∧ Q k H') (fun B H c k => ⟨c, rfl, k _ ⟨rfl, rfl⟩⟩) h
end

/-! ### what the built-in functions do -/
def asInts : List D → Option (List Int)
  | [] => some []
  | .int i :: r => (asInts r).map (i :: ·)
  | _ :: _ => none
def asBools : List D → Option (List Bool)
  | [] => some []
  | .bool i :: r => (asBools r).map (i :: ·)
  | _ :: _ => none
def asStrs : List D → Option (List Str)
  | [] => some []
  | .str i :: r => (asStrs r).map (i :: ·)
  | _ :: _ => none
theorem asInts_eq : ∀ {xs : List D} {ns : List Int}, asInts xs = some ns → xs = ns.map .int
  | [], ns, e => by cases e; rfl
  | .int i :: r, ns, e => by
    obtain ⟨ms, e1, rfl⟩ := Option.map_eq_some_iff.mp e
    rw [asInts_eq e1]; rfl
  | .none :: _, _, e => nomatch e
  | .bool _ :: _, _, e => nomatch e
  | .str _ :: _, _, e => nomatch e
  | .list _ :: _, _, e => nomatch e
  | .tuple _ :: _, _, e => nomatch e
  | .dict _ :: _, _, e => nomatch e
theorem asBools_eq : ∀ {xs : List D} {ns : List Bool}, asBools xs = some ns → xs = ns.map .bool
  | [], ns, e => by cases e; rfl
  | .bool i :: r, ns, e => by
    obtain ⟨ms, e1, rfl⟩ := Option.map_eq_some_iff.mp e
    rw [asBools_eq e1]; rfl
  | .none :: _, _, e => nomatch e
  | .int _ :: _, _, e => nomatch e
  | .str _ :: _, _, e => nomatch e
  | .list _ :: _, _, e => nomatch e
  | .tuple _ :: _, _, e => nomatch e
  | .dict _ :: _, _, e => nomatch e
theorem asStrs_eq : ∀ {xs : List D} {ns : List Str}, asStrs xs = some ns → xs = ns.map .str
  | [], ns, e => by cases e; rfl
  | .str i :: r, ns, e => by
    obtain ⟨ms, e1, rfl⟩ := Option.map_eq_some_iff.mp e
    rw [asStrs_eq e1]; rfl
  | .none :: _, _, e => nomatch e
  | .int _ :: _, _, e => nomatch e
  | .bool _ :: _, _, e => nomatch e
  | .list _ :: _, _, e => nomatch e
  | .tuple _ :: _, _, e => nomatch e
  | .dict _ :: _, _, e => nomatch e
theorem asInts_map (ns : List Int) : asInts (ns.map .int) = some ns := by
  induction ns with
  | nil => rfl
  | cons a r ih => simp [asInts, ih]
theorem asBools_map (ns : List Bool) : asBools (ns.map .bool) = some ns := by
  induction ns with
  | nil => rfl
  | cons a r ih => simp [asBools, ih]
theorem asStrs_map (ns : List Str) : asStrs (ns.map .str) = some ns := by
  induction ns with
  | nil => rfl
  | cons a r ih => simp [asStrs, ih]
theorem dqs_ints {K : Fg} {B : Hp} : ∀ {ns : List Int} {vs : List V}, DqAll K B vs (ns.map .int) → vs = ns.map V.int
  | [], _, h => by cases h; rfl
  | n :: ns, _, h => by
    cases h with
    | cons a b => cases a; rw [dqs_ints b]; rfl
theorem dqs_bools {K : Fg} {B : Hp} : ∀ {ns : List Bool} {vs : List V}, DqAll K B vs (ns.map .bool) → vs = ns.map V.bl
  | [], _, h => by cases h; rfl
  | n :: ns, _, h => by
    cases h with
    | cons a b => cases a; rw [dqs_bools b]; rfl
theorem dqs_strs {K : Fg} {B : Hp} : ∀ {ns : List Str} {vs : List V}, DqAll K B vs (ns.map .str) → vs = ns.map V.str
  | [], _, h => by cases h; rfl
  | n :: ns, _, h => by
    cases h with
    | cons a b => cases a; rw [dqs_strs b]; rfl
theorem ints_dqs {K : Fg} {B : Hp} : ∀ {ns : List Int}, DqAll K B (ns.map V.int) (ns.map .int)
  | [] => .nil
  | n :: ns => .cons (.int n) ints_dqs
theorem strs_dqs {K : Fg} {B : Hp} : ∀ {ns : List Str}, DqAll K B (ns.map V.str) (ns.map .str)
  | [] => .nil
  | n :: ns => .cons (.str n) strs_dqs
theorem pk1 {K : Fg} {B H : Hp} {vs : List V} {x : D} (h : PkAll K B H vs [x]) : ∃ v, vs = [v] ∧ Pk K B H v x := by
  cases h with
  | cons a b => cases b; exact ⟨_, rfl, a⟩
theorem pk2 {K : Fg} {B H : Hp} {vs : List V} {x y : D} (h : PkAll K B H vs [x, y]) : ∃ v u, vs = [v, u] ∧ Pk K B H v x ∧ Pk K B H u y := by
  cases h with
  | cons a b => cases b with
    | cons a' b' => cases b'; exact ⟨_, _, rfl, a, a'⟩
/-- a function of one argument -/
def d1 (f : D → Option D) : List D → Option D
  | [x] => f x
  | _ => none
def d2 (f : D → D → Option D) : List D → Option D
  | [x, y] => f x y
  | _ => none
theorem dc1 {K : Fg} {r : List V → Hp → VK → Prop} {f : D → Option D}
    (h : ∀ (B H : Hp) (v : V) (x z : D) (Q : VK), Same B H → Pk K B H v x → f x = some z → (∀ w B' H', Tr B H [] B' H' [] → Same B' H' → Dq K B' w z → Q w H') → r [v] H Q) : DCall K r (d1 f) := by
  intro B H vs xs z Q s hx e k
  match xs, hx, e with
  | [x], hx, e =>
    obtain ⟨v, rfl, hv⟩ := pk1 hx
    exact h B H v x z Q s hv e k
  | [], _, e => cases e
  | _ :: _ :: _, _, e => cases e
theorem dc2 {K : Fg} {r : List V → Hp → VK → Prop} {f : D → D → Option D}
    (h : ∀ (B H : Hp) (v u : V) (x y z : D) (Q : VK), Same B H → Pk K B H v x → Pk K B H u y → f x y = some z → (∀ w B' H', Tr B H [] B' H' [] → Same B' H' → Dq K B' w z → Q w H') → r [v, u] H Q) : DCall K r (d2 f) := by
  intro B H vs xs z Q s hx e k
  match xs, hx, e with
  | [x, y], hx, e =>
    obtain ⟨v, u, rfl, hv, hu⟩ := pk2 hx
    exact h B H v u x y z Q s hv hu e k
  | [], _, e => cases e
  | [_], _, e => cases e
  | _ :: _ :: _ :: _, _, e => cases e
def dLen : D → Option D
  | .str y => if y.length ≤ 16777216 then some (.int y.length) else none
  | .list xs => some (.int xs.length)
  | .tuple xs => some (.int xs.length)
  | _ => none
theorem dc_len {K : Fg} : DCall K (fun xs H Q => ∃ x n, xs = [x] ∧ LenV K x H n ∧ Q (.int n) H) (d1 dLen) := dc1 fun B H v x z Q s hx e k => by
  cases x with
  | str y =>
    rw [hx.str]
    replace e : (if y.length ≤ 16777216 then some (PyData.int y.length) else none) = some z := e
    split at e
    · rename_i hl
      cases e
      exact ⟨_, y.length, rfl, ⟨le_lim hl, rfl⟩, k _ B H Tr.refl s (.int _)⟩
    · cases e
  | list xs =>
    cases e
    obtain ⟨p, vs, rfl, h1, h2⟩ := hx.items s
    exact ⟨_, xs.length, rfl, .inl ⟨vs, SqL.of h1, (dps_length h2).symm⟩, k _ B H Tr.refl s (.int _)⟩
  | tuple xs =>
    cases e
    obtain ⟨p, vs, rfl, h1, h2⟩ := hx.tup s
    exact ⟨_, xs.length, rfl, .inr ⟨vs, h1, (dps_length h2).symm⟩, k _ B H Tr.refl s (.int _)⟩
  | _ => cases e
def dIntOf : D → Option D
  | .int i => some (.int i)
  | .bool b => some (.int (if b then 1 else 0))
  | .str a => match PySem.intText? a with
    | some n => if a.length ≤ 640 then some (.int n) else none
    | none => none
  | _ => none
def rIntOf : List V → Hp → VK → Prop := fun xs H Q => ((∃ i, xs = [.int i] ∧ Q (.int i) H) ∨ ∃ k, xs = [.bl k] ∧ Q (.int (if k then 1 else 0)) H) ∨ ∃ a n, xs = [.str a] ∧ PySem.intText? a = some n ∧ a.length ≤ 640 ∧ Q (.int n) H
theorem call_intOf {X : Cx} : CallR X (.type "int") rIntOf := call_int1.or call_int_str
theorem dc_int {K : Fg} : DCall K rIntOf (d1 dIntOf) := dc1 fun B H v x z Q s hx e k => by
  cases x with
  | int i => rw [hx.int]; cases e; exact .inl (.inl ⟨i, rfl, k _ B H Tr.refl s (.int _)⟩)
  | bool b => rw [hx.bool]; cases e; exact .inl (.inr ⟨b, rfl, k _ B H Tr.refl s (.int _)⟩)
  | str a =>
    rw [hx.str]
    replace e : (match PySem.intText? a with | some n => if a.length ≤ 640 then some (PyData.int n) else none | none => none) = some z := e
    split at e
    · rename_i n hn
      split at e
      · rename_i hl
        cases e
        exact .inr ⟨a, n, rfl, hn, hl, k _ B H Tr.refl s (.int _)⟩
      · cases e
    · cases e
  | _ => cases e
def dStrOf : D → Option D
  | .int i => if i.natAbs.log2 < 1920 then some (.str (toString i)) else none
  | .str a => some (.str a)
  | _ => none
def rStrOf : List V → Hp → VK → Prop := fun xs H Q => (∃ i, xs = [.int i] ∧ i.natAbs.log2 < 1920 ∧ Q (.str (toString i)) H) ∨ ∃ a, xs = [.str a] ∧ Q (.str a) H
theorem call_strOf {X : Cx} : CallR X (.type "str") rStrOf := call_str_int.or SkE.call_str_str
theorem dc_str {K : Fg} : DCall K rStrOf (d1 dStrOf) := dc1 fun B H v x z Q s hx e k => by
  cases x with
  | int i =>
    rw [hx.int]
    replace e : (if i.natAbs.log2 < 1920 then some (PyData.str (toString i)) else none) = some z := e
    split at e
    · rename_i hl
      cases e
      exact .inl ⟨i, rfl, hl, k _ B H Tr.refl s (.str _)⟩
    · cases e
  | str a => rw [hx.str]; cases e; exact .inr ⟨a, rfl, k _ B H Tr.refl s (.str _)⟩
  | _ => cases e
def dAbs : D → Option D
  | .int i => some (.int (if i < 0 then -i else i))
  | _ => none
theorem dc_abs {K : Fg} : DCall K (fun xs H Q => ∃ i, xs = [.int i] ∧ Q (.int (if i < 0 then -i else i)) H) (d1 dAbs) := dc1 fun B H v x z Q s hx e k => by
  cases x with
  | int i => rw [hx.int]; cases e; exact ⟨i, rfl, k _ B H Tr.refl s (.int _)⟩
  | _ => cases e
def dOrdC : D → Option D
  | .str a => match a.cps.toList with
    | [c] => some (.int c)
    | _ => none
  | _ => none
theorem dc_ord {K : Fg} : DCall K (fun xs H Q => ∃ x, xs = [.str x] ∧ x.length = 1 ∧ Q (.int (x.cps.getD 0 0 : Nat)) H) (d1 dOrdC) := dc1 fun B H v x z Q s hx e k => by
  cases x with
  | str a =>
    rw [hx.str]
    replace e : (match a.cps.toList with | [c] => some (PyData.int c) | _ => none) = some z := e
    split at e
    · rename_i c hc
      have : a = ⟨#[c]⟩ := TL.ext_tl hc
      subst this
      cases e
      exact ⟨_, rfl, rfl, k _ B H Tr.refl s (.int _)⟩
    · cases e
  | _ => cases e
def dMax2 : D → D → Option D
  | .int i, .int j => some (.int (if j > i then j else i))
  | _, _ => none
def dMin2 : D → D → Option D
  | .int i, .int j => some (.int (if j < i then j else i))
  | _, _ => none
theorem dc_max2 {K : Fg} : DCall K (fun xs H Q => ∃ i j, xs = [.int i, .int j] ∧ Q (.int (if j > i then j else i)) H) (d2 dMax2) := dc2 fun B H v u x y z Q s hx hy e k => by
  cases x with
  | int i =>
    cases y with
    | int j => rw [hx.int, hy.int]; cases e; exact ⟨i, j, rfl, k _ B H Tr.refl s (.int _)⟩
    | _ => cases e
  | _ => cases y <;> cases e
theorem dc_min2 {K : Fg} : DCall K (fun xs H Q => ∃ i j, xs = [.int i, .int j] ∧ Q (.int (if j < i then j else i)) H) (d2 dMin2) := dc2 fun B H v u x y z Q s hx hy e k => by
  cases x with
  | int i =>
    cases y with
    | int j => rw [hx.int, hy.int]; cases e; exact ⟨i, j, rfl, k _ B H Tr.refl s (.int _)⟩
    | _ => cases e
  | _ => cases y <;> cases e
def dAll : D → Option D
  | .list xs => (asBools xs).map fun bs => .bool (bs.all id)
  | _ => none
def dAny : D → Option D
  | .list xs => (asBools xs).map fun bs => .bool (bs.any id)
  | _ => none
def dSum : D → Option D
  | .list xs => (asInts xs).map fun ns => .int ns.sum
  | _ => none
theorem dc_all {K : Fg} : DCall K (rAll K) (d1 dAll) := dc1 fun B H v x z Q s hx e k => by
  cases x with
  | list xs =>
    obtain ⟨bs, e1, rfl⟩ := Option.map_eq_some_iff.mp e
    obtain rfl := asBools_eq e1
    obtain ⟨p, vs, rfl, h1, h2⟩ := hx.items s
    obtain rfl := dqs_bools h2
    exact ⟨p, bs, rfl, SqL.of h1, k _ B H Tr.refl s (.bl _)⟩
  | _ => cases e
theorem dc_any {K : Fg} : DCall K (rAny K) (d1 dAny) := dc1 fun B H v x z Q s hx e k => by
  cases x with
  | list xs =>
    obtain ⟨bs, e1, rfl⟩ := Option.map_eq_some_iff.mp e
    obtain rfl := asBools_eq e1
    obtain ⟨p, vs, rfl, h1, h2⟩ := hx.items s
    obtain rfl := dqs_bools h2
    exact ⟨p, bs, rfl, SqL.of h1, k _ B H Tr.refl s (.bl _)⟩
  | _ => cases e
theorem dc_sum {K : Fg} : DCall K (rSum K) (d1 dSum) := dc1 fun B H v x z Q s hx e k => by
  cases x with
  | list xs =>
    obtain ⟨bs, e1, rfl⟩ := Option.map_eq_some_iff.mp e
    obtain rfl := asInts_eq e1
    obtain ⟨p, vs, rfl, h1, h2⟩ := hx.items s
    obtain rfl := dqs_ints h2
    exact ⟨p, bs, rfl, SqL.of h1, k _ B H Tr.refl s (.int _)⟩
  | _ => cases e
/-- the least, the greatest of a list of ints -/
def lstMax : List Int → Option Int
  | [] => none
  | a :: r => some (r.foldl (fun m x => if x > m then x else m) a)
def lstMin : List Int → Option Int
  | [] => none
  | a :: r => some (r.foldl (fun m x => if x < m then x else m) a)
theorem foldMax : ∀ (r : List Int) (a : Int), (r.foldl (fun m x => if x > m then x else m) a) ∈ a :: r ∧ ∀ y ∈ a :: r, y ≤ r.foldl (fun m x => if x > m then x else m) a
  | [], a => ⟨by simp, fun y hy => by simp at hy; simp [hy]⟩
  | b :: r, a => by
    have ih := foldMax r (if b > a then b else a)
    rw [List.foldl_cons]
    generalize List.foldl (fun m x => if x > m then x else m) (if b > a then b else a) r = F at ih ⊢
    have h0 := ih.2 _ List.mem_cons_self
    refine ⟨?_, fun y hy => ?_⟩
    · rcases List.mem_cons.mp ih.1 with h | h
      · rw [h]; split <;> simp
      · exact List.mem_cons_of_mem _ (List.mem_cons_of_mem _ h)
    · rcases List.mem_cons.mp hy with rfl | h
      · split at h0 <;> omega
      · rcases List.mem_cons.mp h with rfl | h
        · split at h0 <;> omega
        · exact ih.2 y (List.mem_cons_of_mem _ h)
theorem foldMin : ∀ (r : List Int) (a : Int), (r.foldl (fun m x => if x < m then x else m) a) ∈ a :: r ∧ ∀ y ∈ a :: r, r.foldl (fun m x => if x < m then x else m) a ≤ y
  | [], a => ⟨by simp, fun y hy => by simp at hy; simp [hy]⟩
  | b :: r, a => by
    have ih := foldMin r (if b < a then b else a)
    rw [List.foldl_cons]
    generalize List.foldl (fun m x => if x < m then x else m) (if b < a then b else a) r = F at ih ⊢
    have h0 := ih.2 _ List.mem_cons_self
    refine ⟨?_, fun y hy => ?_⟩
    · rcases List.mem_cons.mp ih.1 with h | h
      · rw [h]; split <;> simp
      · exact List.mem_cons_of_mem _ (List.mem_cons_of_mem _ h)
    · rcases List.mem_cons.mp hy with rfl | h
      · split at h0 <;> omega
      · rcases List.mem_cons.mp h with rfl | h
        · split at h0 <;> omega
        · exact ih.2 y (List.mem_cons_of_mem _ h)
def dMaxL : D → Option D
  | .list xs => (asInts xs).bind fun ns => (lstMax ns).map .int
  | _ => none
def dMinL : D → Option D
  | .list xs => (asInts xs).bind fun ns => (lstMin ns).map .int
  | _ => none
theorem dc_maxL {K : Fg} : DCall K (rMax K) (d1 dMaxL) := dc1 fun B H v x z Q s hx e k => by
  cases x with
  | list xs =>
    obtain ⟨ns, e1, e2⟩ := Option.bind_eq_some_iff.mp e
    obtain ⟨m0, e3, rfl⟩ := Option.map_eq_some_iff.mp e2
    obtain rfl := asInts_eq e1
    obtain ⟨p, vs, rfl, h1, h2⟩ := hx.items s
    obtain rfl := dqs_ints h2
    cases ns with
    | nil => cases e3
    | cons a r =>
      cases e3
      refine ⟨p, a :: r, rfl, SqL.of h1, by simp, fun m hm hle => ?_⟩
      obtain ⟨g1, g2⟩ := foldMax r a
      have : m = r.foldl (fun m x => if x > m then x else m) a := Int.le_antisymm (g2 m hm) (hle _ g1)
      rw [this]
      exact k _ B H Tr.refl s (.int _)
  | _ => cases e
theorem dc_minL {K : Fg} : DCall K (rMin K) (d1 dMinL) := dc1 fun B H v x z Q s hx e k => by
  cases x with
  | list xs =>
    obtain ⟨ns, e1, e2⟩ := Option.bind_eq_some_iff.mp e
    obtain ⟨m0, e3, rfl⟩ := Option.map_eq_some_iff.mp e2
    obtain rfl := asInts_eq e1
    obtain ⟨p, vs, rfl, h1, h2⟩ := hx.items s
    obtain rfl := dqs_ints h2
    cases ns with
    | nil => cases e3
    | cons a r =>
      cases e3
      refine ⟨p, a :: r, rfl, SqL.of h1, by simp, fun m hm hle => ?_⟩
      obtain ⟨g1, g2⟩ := foldMin r a
      have : m = r.foldl (fun m x => if x < m then x else m) a := Int.le_antisymm (hle _ g1) (g2 m hm)
      rw [this]
      exact k _ B H Tr.refl s (.int _)
  | _ => cases e
/-- tuple(x), list(x) -/
def dTuple : D → Option D
  | .list xs => some (.tuple xs)
  | .tuple xs => some (.tuple xs)
  | _ => none
theorem dc_tuple {K : Fg} : DCall K (fun xs H Q => ∃ p ys, xs = [.ref p] ∧ ((SqL K H p ys ∧ ∀ l, H l = none → Q (.ref l) (upd H l (.tup ys))) ∨ (SqT K H p ys ∧ Q (.ref p) H))) (d1 dTuple) := dc1 fun B H v x z Q s hx e k => by
  cases x with
  | list xs =>
    cases e
    obtain ⟨p, vs, rfl, h1, h2⟩ := hx.items s
    refine ⟨p, vs, rfl, .inl ⟨SqL.of h1, fun l hl => ?_⟩⟩
    obtain ⟨t, s', sb⟩ := tr_new (o := .tup vs) hl s
    exact k _ _ _ t s' (.tup (SqT.of upd_same) (dps_mono sb _ _ h2))
  | tuple xs =>
    cases e
    have d := tupD hx
    obtain ⟨p, vs, rfl, h1, h2⟩ := hx.tup s
    exact ⟨p, vs, rfl, .inr ⟨h1, k _ B H Tr.refl s d⟩⟩
  | _ => cases e
def nList : List D → Option (List D)
  | [.list xs] => some xs
  | [.tuple xs] => some xs
  | _ => none
theorem nc_list {K : Fg} : NCall K (fun xs H Q => ∃ p ys, xs = [.ref p] ∧ (SqL K H p ys ∨ SqT K H p ys) ∧ ∀ l, H l = none → Q (.ref l) (upd H l (.lst ys))) nList := by
  intro B H vs xs ys Q s hx e k
  match xs, hx, e with
  | [.list xs], hx, e =>
    cases e
    obtain ⟨v, rfl, hv⟩ := pk1 hx
    obtain ⟨p, vs, rfl, h1, h2⟩ := hv.items s
    exact ⟨p, vs, rfl, .inl (SqL.of h1), fun l hl => k l vs hl h2⟩
  | [.tuple xs], hx, e =>
    cases e
    obtain ⟨v, rfl, hv⟩ := pk1 hx
    obtain ⟨p, vs, rfl, h1, h2⟩ := hv.tup s
    exact ⟨p, vs, rfl, .inr h1, fun l hl => k l vs hl h2⟩
/-- isinstance(x, T), T a built-in type -/
def tyName : D → String
  | .none => "NoneType"
  | .bool _ => "bool"
  | .int _ => "int"
  | .str _ => "str"
  | .list _ => "list"
  | .tuple _ => "tuple"
  | .dict _ => "dict"
def isI (Ty : String) (x : D) : Option Bool := if (["NoneType", "bool", "int", "str", "list", "tuple"].contains (tyName x) && ["bool", "int", "str", "list", "tuple", "dict"].contains Ty) then some (tyName x == Ty || (tyName x == "bool" && Ty == "int")) else none
def eIsI (Ty : String) (m : Env → RE D) : Env → RE D := fun env => (m env).bind fun x env => lft ((isI Ty x).map .bool) env
def kitAll : Bool := ["NoneType", "bool", "int", "str", "list", "tuple"].all fun a => ["bool", "int", "str", "list", "tuple", "dict"].all fun b => kitB a b == some (a == b || (a == "bool" && b == "int"))
theorem kitAll_ok : kitAll = true := by decide +kernel
theorem kit_ok {a b : String} (ha : ["NoneType", "bool", "int", "str", "list", "tuple"].contains a = true) (hb : ["bool", "int", "str", "list", "tuple", "dict"].contains b = true) : kitB a b = some (a == b || (a == "bool" && b == "int")) := by
  have h := kitAll_ok
  unfold kitAll at h
  rw [List.all_eq_true] at h
  have h1 := h a (List.contains_iff_mem.mp ha)
  rw [List.all_eq_true] at h1
  exact beq_iff_eq.mp (h1 b (List.contains_iff_mem.mp hb))
theorem tyx_of {K : Fg} {B H : Hp} {v : V} {x : D} (s : Same B H) (h : Pk K B H v x) : TyX K H v (.type (tyName x)) := by
  cases x with
  | none => rw [h.none]; exact .base .non
  | bool b => rw [h.bool]; exact .base (.bl b)
  | int i => rw [h.int]; exact .base (.int i)
  | str y => rw [h.str]; exact .base (.str y)
  | list xs =>
    obtain ⟨p, vs, rfl, h1, h2⟩ := h.items s
    exact .base (.lst h1)
  | tuple xs =>
    obtain ⟨p, vs, rfl, h1, h2⟩ := h.tup s
    rcases h1 with (h1 | ⟨o, h1⟩) | ⟨o, its, n, h1, h3, _⟩
    · exact .base (.tup h1)
    · exact .fTuple h1
    · exact .kTuple h1 h3
  | dict kvs =>
    rcases h with h | ⟨p, vs, xs, _, e, _⟩
    · cases h
    · cases e
section
variable {X : Cx} {T : Tb} {e : Expr} {m : Env → RE D}
/-- h: pe_callB call_isi .. (pa_cons a (pa_cons (the type's name) pa_nil)) -/
theorem be_isi {Ty : String} (hK : T.K = X.K) (h : PE X e (tCB (rIsi X.K) (tCons (teP T m) (tCons (tC (.ty Ty)) tNil)))) : PE X e (teD T (eIsI Ty m)) :=
  pew h fun σ H Q h => gen_mono (seqE (R1 := rP T.K) h rP_nil) fun v H1 ⟨x, B1, ⟨_, hx⟩, h1⟩ => by
    obtain ⟨z, e, s, k⟩ := doneB h1
    obtain ⟨b, e1, e2⟩ := Option.map_eq_some_iff.mp e
    subst e2
    unfold isI at e1
    split at e1
    · rename_i g
      rw [Bool.and_eq_true] at g
      cases e1
      exact ⟨v, .ty Ty, .type (tyName x), .type Ty, _, rfl, .ty Ty, hK ▸ tyx_of s hx, kit_ty (kit_ok g.1 g.2), k _ B1 H1 Tr.refl s ⟨rfl, .bl _⟩⟩
    · cases e1
end
/-! ### repr, where no repr is under way -/
def dRepr (x : D) : Option D := if x.showable && !x.hasDict && decide (x.depth ≤ 64) && decide (x.shown.length ≤ 16777216) then some (.str x.shown) else none
def rRepr (K : Fg) : List V → Hp → VK → Prop := fun xs H Q => ∃ v d, xs = [v] ∧ L2.Dp K H v d ∧ d.showable = true ∧ d.hasDict = false ∧ d.depth ≤ 64 ∧ d.shown.length ≤ 16777216 ∧ Q (.str d.shown) H
theorem call_reprD {X : Cx} (hg : X.A.guards = some []) (hu : X.A.units + 66 < cLine) : CallR X (.builtin "repr") (rRepr X.K) := by
  rintro pins s σ H xs us Q I r ⟨v, d, rfl, hd, h1, h2, h3, h4, q⟩
  obtain ⟨u, rfl, rv⟩ := vals1 r
  have hz := le_lim h4
  cases d with
  | none =>
    cases hd
    cases rv
    exact call_repr_gives (typeIs_none s) PySem.F.slot_NoneType_repr PySem.F.entry_NoneType_repr (PySem.F.args_NoneType_repr_1 _) gives_none_repr ⟨.str _, H, I.tok _, ⟨_, rfl⟩, q⟩ (hx := by decide)
  | bool b =>
    cases hd
    cases rv
    refine PySem.P.repr_of_bool ⟨.str _, H, I.tok _, ?_, q⟩
    cases b <;> exact ⟨_, rfl⟩
  | int i =>
    cases hd
    obtain ⟨t, rfl⟩ := rv
    exact PySem.P.repr_of_int (by simpa [PyData.showable] using h1) ⟨.str _, H, I.tok _, ⟨_, rfl⟩, q⟩
  | str y =>
    cases hd
    obtain ⟨t, rfl⟩ := rv
    exact PySem.P.repr_of_str ⟨.str _, H, I.tok _, ⟨_, rfl⟩, q⟩ (hsz := hz)
  | list xs =>
    obtain ⟨as, rd⟩ := Dp.reads I (.list xs) v u hd rv
    cases hd
    cases rv
    exact repr_of_reads' rd h1 (PyData.noDict_hsm h2) hg (by omega) (fun _ _ e => e) (fun h' u tk hk => ⟨.str _, H, I.kept hk, ⟨_, rfl⟩, q⟩) hz
  | tuple xs =>
    obtain ⟨as, rd⟩ := Dp.reads I (.tuple xs) v u hd rv
    cases hd
    cases rv
    exact repr_of_reads' rd h1 (PyData.noDict_hsm h2) hg (by omega) (fun _ _ e => e) (fun h' u tk hk => ⟨.str _, H, I.kept hk, ⟨_, rfl⟩, q⟩) hz
  | dict kvs => cases hd
theorem dc_repr {K : Fg} : DCall K (rRepr K) (d1 dRepr) := dc1 fun B H v x z Q s hx e k => by
  unfold dRepr at e
  split at e
  · rename_i g
    simp only [Bool.and_eq_true, Bool.not_eq_true', decide_eq_true_eq] at g
    obtain ⟨⟨⟨g1, g2⟩, g3⟩, g4⟩ := g
    cases e
    exact ⟨v, x, rfl, hx.dp s, g1, g2, g3, g4, k _ B H Tr.refl s (.str _)⟩
  · cases e
end BV

/-! BV7: statements. -/
namespace BV
open PySem PySem.Spec PyProof.Rows L2

/-- what is wanted behind a statement -/
def evS (T : Tb) (B H : Hp) (A : List Addr) (σ : St) (D : Ends) : RS → Prop
  | .nx env' => ∀ σ' B' H' A', Pin T σ σ' → Tr B H A B' H' A' → Good T B' H' σ' env' A' → D.nx σ' H'
  | .bk env' => ∀ σ' B' H' A', Pin T σ σ' → Tr B H A B' H' A' → Good T B' H' σ' env' A' → D.bk σ' H'
  | .ct env' => ∀ σ' B' H' A', Pin T σ σ' → Tr B H A B' H' A' → Good T B' H' σ' env' A' → D.ct σ' H'
  | .rt r env' => ∀ v σ' B' H' A' A2, Pin T σ σ' → Tr B H A B' H' (A' ++ A2) → Good T B' H' σ' env' A' → Own T.K T.cls B' H' r v A2 → A2.Nodup → (∀ a ∈ A2, a ∉ A') → D.rt v H'
  | .ex c x env' => ∃ W, T.W = some W ∧ ∀ cl d σ' B' H' A', Pin T σ σ' → Tr B H A B' H' A' → Good T B' H' σ' env' A' → XcR T B' H' cl d c x → W cl d σ' H'
  | .no => False
theorem evS.trans {T : Tb} {B H B1 H1 : Hp} {A A1 : List Addr} {σ σ1 : St} {D : Ends} {r : RS} (p : Pin T σ σ1) (t : Tr B H A B1 H1 A1) (h : evS T B H A σ D r) : evS T B1 H1 A1 σ1 D r := by
  cases r with
  | nx env' => exact fun σ' B' H' A' q t' => h σ' B' H' A' (p.trans q) (t.trans t')
  | bk env' => exact fun σ' B' H' A' q t' => h σ' B' H' A' (p.trans q) (t.trans t')
  | ct env' => exact fun σ' B' H' A' q t' => h σ' B' H' A' (p.trans q) (t.trans t')
  | rt r env' => exact fun v σ' B' H' A' A2 q t' => h v σ' B' H' A' A2 (p.trans q) (t.trans t')
  | ex c x env' =>
    obtain ⟨W, e, h⟩ := h
    exact ⟨W, e, fun cl d σ' B' H' A' q t' => h cl d σ' B' H' A' (p.trans q) (t.trans t')⟩
  | no => exact h
def sB (T : Tb) (m : Env → RS) (B : Hp) (D : Ends) (σ : St) (H : Hp) : Prop := ∃ env A, Good T B H σ env A ∧ evS T B H A σ D (m env)
def tsS (T : Tb) (m : Env → RS) : TS := fun D σ H => ∃ B, sB T m B D σ H

/-- an expression, then a statement with its value -/
def bindS {α : Type} (r : RE α) (k : α → Env → RS) : RS := match r with
  | .ok a e => k a e
  | .ex c x e => .ex c x e
  | .no => .no
section
variable {T : Tb} {γ δ : Type} {R1 : Hp → Hp → γ → δ → List Addr → Prop} {σ : St} {B H : Hp} {D : Ends} {m : Env → RE γ} {k : γ → Env → RS}
theorem seqSB (h : sB T (fun env => bindS (m env) k) B D σ H) (ho : ∀ B H x v A2, R1 B H x v A2 → A2 = []) :
    gB T R1 m B σ H (fun v H1 => ∃ x B1, Same B B1 ∧ R1 B1 H1 x v [] ∧ sB T (k x) B1 D σ H1) := by
  obtain ⟨env, A, g, h⟩ := h
  refine ⟨env, A, g, ?_⟩
  cases e : m env with
  | ok x env1 =>
    simp only [e, bindS] at h
    intro v B1 H1 A1 A2 t g1 r n d
    obtain rfl := ho _ _ _ _ _ r
    rw [List.append_nil] at t
    exact ⟨x, B1, t.bb, r, env1, A1, g1, evS.trans Pin.refl t h⟩
  | ex c x env1 =>
    simp only [e, bindS] at h
    obtain ⟨W, e, h⟩ := h
    exact ⟨W, e, fun cl d B' H' A' t g x => h cl d σ B' H' A' Pin.refl t g x⟩
  | no =>
    simp only [e, bindS] at h
    exact h
theorem seqSE (h : tsS T (fun env => bindS (m env) k) D σ H) (ho : ∀ B H x v A2, R1 B H x v A2 → A2 = []) :
    gen T R1 m σ H (fun v H1 => ∃ x B1, R1 B1 H1 x v [] ∧ sB T (k x) B1 D σ H1) := by
  obtain ⟨B, h⟩ := h
  exact gB_mono (seqSB h ho) fun v H1 ⟨x, B1, _, a, b⟩ => ⟨x, B1, a, b⟩
/-- .. where the value is a new thing -/
theorem seqSN {m : Env → RE Sl} {k : Sl → Env → RS} (h : tsS T (fun env => bindS (m env) k) D σ H) :
    gen T (rN T) m σ H (fun v H1 => ∃ s B1 A2 env A, Good T B1 H1 σ env A ∧ Own T.K T.cls B1 H1 s v A2 ∧ A2.Nodup ∧ (∀ a ∈ A2, a ∉ A) ∧ ∀ σ1 B2 A3, Pin T σ σ1 → Tr B1 H1 (A ++ A2) B2 H1 A3 → evS T B2 H1 A3 σ1 D (k s env)) := by
  obtain ⟨B, env, A, g, h⟩ := h
  refine ⟨B, env, A, g, ?_⟩
  cases e : m env with
  | ok x env1 =>
    simp only [e, bindS] at h
    intro v B1 H1 A1 A2 t g1 r n d
    exact ⟨x, B1, A2, env1, A1, g1, r, n, d, fun σ1 B2 A3 p t2 => evS.trans p (t.trans t2) h⟩
  | ex c x env1 =>
    simp only [e, bindS] at h
    obtain ⟨W, e, h⟩ := h
    exact ⟨W, e, fun cl d B' H' A' t g x => h cl d σ B' H' A' Pin.refl t g x⟩
  | no =>
    simp only [e, bindS] at h
    exact h
end
theorem sB_nx {T : Tb} {B H : Hp} {D : Ends} {σ : St} (h : sB T (fun env => .nx env) B D σ H) : D.nx σ H := by
  obtain ⟨env, A, g, h⟩ := h
  exact h σ B H A Pin.refl Tr.refl g

/-! ### blocks -/
def sSeq (a b : Env → RS) : Env → RS := fun env => match a env with
  | .nx e => b e
  | r => r
def sNil : Env → RS := fun env => .nx env
section
variable {X : Cx} {T : Tb} {st : Stmt} {rest : List Stmt} {ma mb : Env → RS}
theorem bss_nil : PSs X [] (tsS T sNil) := pssw pss_nil fun D σ H ⟨B, h⟩ => sB_nx h
theorem seq_go {D : Ends} {σ : St} {H : Hp} (h : tsS T (sSeq ma mb) D σ H) : tSeq (tsS T ma) (tsS T mb) D σ H := by
  obtain ⟨B, env, A, g, h⟩ := h
  refine ⟨B, env, A, g, ?_⟩
  unfold sSeq at h
  cases e : ma env with
  | nx env1 =>
    simp only [e] at h
    exact fun σ' B' H' A' p t g' => ⟨B', env1, A', g', evS.trans p t h⟩
  | bk env1 => simp only [e] at h; exact h
  | ct env1 => simp only [e] at h; exact h
  | rt r env1 => simp only [e] at h; exact h
  | ex c x env1 => simp only [e] at h; exact h
  | no => simp only [e] at h; exact h
theorem bss_cons (h1 : PS X st (tsS T ma)) (h2 : PSs X rest (tsS T mb)) : PSs X (st :: rest) (tsS T (sSeq ma mb)) := pssw (pss_cons h1 h2) fun D σ H h => seq_go h
theorem bss_one (h1 : PS X st (tsS T ma)) : PSs X [st] (tsS T ma) := pss_one h1
end

/-! ### small statements -/
def sPass : Env → RS := fun env => .nx env
def sBreak : Env → RS := fun env => .bk env
def sCont : Env → RS := fun env => .ct env
def sNo : Env → RS := fun _ => .no
def sRet (m : Env → RE D) : Env → RS := fun env => bindS (m env) fun x env => .rt (.d x) env
def sRetN (m : Env → RE Sl) : Env → RS := fun env => bindS (m env) fun s env => .rt s env
def sRetNone : Env → RS := fun env => .rt (.d .none) env
def sDrop (m : Env → RE D) : Env → RS := fun env => bindS (m env) fun _ env => .nx env
def sDropN (m : Env → RE Sl) : Env → RS := fun env => bindS (m env) fun _ env => .nx env
def sIf (t : Env → RE Bool) (a b : Env → RS) : Env → RS := fun env => bindS (t env) fun x env => if x then a env else b env
/-- an owned thing handed back: its slot is empty behind it -/
def sRetOwn (i : Nat) : Env → RS := fun env => match env[i]? with
  | some .un => .no
  | some s => .rt s (env.set i .un)
  | none => .no
/-- x = e, data; a new thing -/
def sAsg (pins : List Nat) (i : Nat) (m : Env → RE D) : Env → RS := fun env => bindS (m env) fun x env => if i ∈ pins then .no else .nx (env.set i (.d x))
def sAsgN (pins : List Nat) (i : Nat) (m : Env → RE Sl) : Env → RS := fun env => bindS (m env) fun s env => if i ∈ pins then .no else .nx (env.set i s)
section
variable {X : Cx} {T : Tb} {e : Expr} {pos : Pos} {m : Env → RE D} {σ : St} {H : Hp}
theorem bs_pass : PS X (.Pass pos) (tsS T sPass) := psw ps_pass fun D σ H ⟨B, h⟩ => sB_nx h
theorem bs_break : PS X (.Break pos) (tsS T sBreak) := psw ps_break fun D σ H ⟨B, env, A, g, h⟩ => h σ B H A Pin.refl Tr.refl g
theorem bs_cont : PS X (.Continue pos) (tsS T sCont) := psw ps_continue fun D σ H ⟨B, env, A, g, h⟩ => h σ B H A Pin.refl Tr.refl g
theorem bs_no {st : Stmt} : PS X st (tsS T sNo) := psw ps_never fun D σ H ⟨B, env, A, g, h⟩ => h
theorem bs_retN : PS X (.Return none pos) (tsS T sRetNone) := psw ps_retN fun D σ H ⟨B, env, A, g, h⟩ => h .non σ B H A [] Pin.refl (by simpa using Tr.refl) g (.d .non) List.nodup_nil fun _ z => nomatch z
theorem bs_ret (h : PE X e (teD T m)) : PS X (.Return (some e) pos) (tsS T (sRet m)) := psw (ps_ret h) fun D σ H h => gen_mono (seqSE (R1 := rD T.K) h rD_nil) fun v H1 ⟨x, B1, ⟨_, hx⟩, env, A, g, h1⟩ =>
  h1 v σ B1 H1 A [] Pin.refl (by simpa using Tr.refl) g (.d hx) List.nodup_nil fun _ z => nomatch z
theorem bs_retNew {m : Env → RE Sl} (h : PE X e (teN T m)) : PS X (.Return (some e) pos) (tsS T (sRetN m)) := psw (ps_ret h) fun D σ H h => gen_mono (seqSN h) fun v H1 ⟨s, B1, A2, env, A, g, o, n, d, k⟩ =>
  k σ B1 (A ++ A2) Pin.refl Tr.refl v σ B1 H1 A A2 Pin.refl Tr.refl g o n d
theorem bs_retOwn {i : Nat} (h : PE X e (tVar i)) : PS X (.Return (some e) pos) (tsS T (sRetOwn i)) := psw (ps_ret h) fun D σ H ⟨B, env, A, g, h⟩ => by
  unfold sRetOwn at h
  split at h
  · exact h.elim
  · rename_i s hs hne
    obtain ⟨v, A1, A2, A3, h1, h2, h3, h4⟩ := env_at i g.er hne (fun z => hs z)
    refine ⟨v, h1, ?_⟩
    have nd : (A1 ++ A2 ++ A3).Nodup := h3 ▸ g.nd
    have er := h4 (B' := B) (H' := H) (s' := some v) (e' := .un) (A2' := []) (.inl ⟨rfl, rfl⟩) ⟨Same.refl B, fun _ _ _ e => e, fun _ _ e => e⟩
    rw [set_self h1] at er
    simp only [List.append_nil] at er
    have n1 := List.nodup_append.mp nd
    have n2 := List.nodup_append.mp n1.1
    refine h v σ B H (A1 ++ A3) A2 Pin.refl (Tr.refl.less fun a ha => ?_) ⟨g.bh, er, List.nodup_append.mpr ⟨n2.1, n1.2.1, fun a ha b hb => n1.2.2 a (List.mem_append_left _ ha) b hb⟩⟩ h2 n2.2.1 fun a ha hb => ?_
    · rw [h3]
      simp only [List.mem_append] at ha ⊢
      rcases ha with (z | z) | z
      · exact .inl (.inl z)
      · exact .inr z
      · exact .inl (.inr z)
    · rcases List.mem_append.mp hb with z | z
      · exact n2.2.2 a z a ha rfl
      · exact n1.2.2 a (List.mem_append_right _ ha) a z rfl
  · exact h.elim
theorem bs_expr (h : PE X e (teD T m)) (hs : swapsWith e none pos.line X.env = pure false := by rfl) : PS X (.Expr e pos) (tsS T (sDrop m)) := psw (ps_expr h hs) fun D σ H h => gen_mono (seqSE (R1 := rD T.K) h rD_nil) fun v H1 ⟨x, B1, ⟨_, hx⟩, h1⟩ => sB_nx h1
theorem bs_exprN {m : Env → RE Sl} (h : PE X e (teN T m)) (hs : swapsWith e none pos.line X.env = pure false := by rfl) : PS X (.Expr e pos) (tsS T (sDropN m)) := psw (ps_expr h hs) fun D σ H h => gen_mono (seqSN h) fun v H1 ⟨s, B1, A2, env, A, g, o, n, d, k⟩ =>
  k σ B1 A Pin.refl (Tr.refl.less fun a ha => List.mem_append_left _ ha) σ B1 H1 A Pin.refl Tr.refl g
theorem bs_if {c : Expr} {a b : List Stmt} {t : Env → RE Bool} {ma mb : Env → RS} (hc : PT X c (ttD T t)) (ha : PSs X a (tsS T ma)) (hb : PSs X b (tsS T mb)) : PS X (.If c a b pos) (tsS T (sIf t ma mb)) :=
  psw (ps_if hc ha hb) fun D σ H h => gen_mono (seqSE (R1 := rT) h rT_nil) fun v H1 ⟨x, B1, ⟨_, hx⟩, h1⟩ => by
    subst hx
    cases v with
    | true => exact ⟨B1, h1⟩
    | false => exact ⟨B1, h1⟩
theorem pin_set {i : Nat} {s : Option V} (h : i ∉ T.pins) : Pin T σ (σ.set i s) := fun j hj => by
  have hne : i ≠ j := fun q => h (by rw [q]; exact hj)
  rw [List.getElem?_set_ne hne]
/-- a slot stored: data -/
theorem store_d {B : Hp} {env : Env} {A : List Addr} {i : Nat} {v : V} {x : D} (g : Good T B H σ env A) (h : Dq T.K B v x) : ∃ A', Good T B H (σ.set i (some v)) (env.set i (.d x)) A' ∧ Tr B H A B H A' := by
  obtain ⟨A', h1, h2, h3⟩ := env_set i (s' := some v) (e' := .d x) (A2 := []) g.er (.inr ⟨v, rfl, .d h⟩) (fun _ z => nomatch z) g.nd List.nodup_nil
  exact ⟨A', ⟨g.bh, h1, h2⟩, Tr.refl.less fun a ha => (h3 a ha).elim id fun z => nomatch z⟩
theorem bs_asg {i : Nat} {st : Stmt} (h : PS X st (tAsg (teD T m) (gName i))) : PS X st (tsS T (sAsg T.pins i m)) := psw h fun D σ H h => gen_mono (seqSE (R1 := rD T.K) h rD_nil) fun v H1 ⟨x, B1, ⟨_, hx⟩, env, A, g, h1⟩ => by
  split at h1
  · exact h1.elim
  · rename_i hp
    obtain ⟨A', g', t⟩ := store_d (i := i) g hx
    exact h1 _ B1 H1 A' (pin_set hp) t g'
theorem bs_asgN {i : Nat} {m : Env → RE Sl} {st : Stmt} (h : PS X st (tAsg (teN T m) (gName i))) : PS X st (tsS T (sAsgN T.pins i m)) := psw h fun D σ H h => gen_mono (seqSN h) fun v H1 ⟨s, B1, A2, env, A, g, o, n, d, k⟩ => by
  by_cases hp : i ∈ T.pins
  · have := k σ B1 (A ++ A2) Pin.refl Tr.refl
    rw [if_pos hp] at this
    exact this.elim
  · obtain ⟨A', h1, h2, h3⟩ := env_set i (s' := some v) (e' := s) (A2 := A2) g.er (.inr ⟨v, rfl, o⟩) d g.nd n
    have t : Tr B1 H1 (A ++ A2) B1 H1 A' := Tr.refl.less fun a ha => List.mem_append.mpr (h3 a ha)
    have := k _ B1 A' (pin_set (i := i) (s := some v) hp) t
    rw [if_neg hp] at this
    exact this _ B1 H1 A' Pin.refl Tr.refl ⟨g.bh, h1, h2⟩
end
end BV

/-! BV8: targets, loops, comprehensions. -/
namespace BV
open PySem PySem.Spec PyProof.Rows L2

/-! ### targets -/
inductive Tg where
  | n (i : Nat)
  | t (ts : List Tg)
mutual
def tgDo (pins : List Nat) : Tg → D → Env → Option Env
  | .n i, x, env => if i ∈ pins then none else some (env.set i (.d x))
  | .t ts, .tuple xs, env => tgAll pins ts xs env
  | .t _, _, _ => none
def tgAll (pins : List Nat) : List Tg → List D → Env → Option Env
  | [], [], env => some env
  | t :: ts, x :: xs, env => match tgDo pins t x env with
    | some e => tgAll pins ts xs e
    | none => none
  | _, _, _ => none
end
/-- the slots at is alone may have changed -/
def Only (is : List Nat) (σ σ' : St) : Prop := σ'.length = σ.length ∧ ∀ i, i ∉ is → σ'[i]? = σ[i]?
theorem Only.trans {is js : List Nat} {a b c : St} (h : Only is a b) (k : Only js b c) : Only (is ++ js) a c := ⟨k.1.trans h.1, fun i hi => (k.2 i fun z => hi (List.mem_append_right _ z)).trans (h.2 i fun z => hi (List.mem_append_left _ z))⟩
/-- what a target's reading does -/
def TgOk (T : Tb) (g : TG) (is : List Nat) (tm : D → Env → Option Env) : Prop := ∀ (B H : Hp) (σ : St) (env : Env) (A : List Addr) (v : V) (x : D) (env' : Env) (Q : St → Hp → Prop), Good T B H σ env A → Dq T.K B v x → tm x env = some env' →
  (∀ σ' A', Pin T σ σ' → Only is σ σ' → Tr B H A B H A' → Good T B H σ' env' A' → Q σ' H) → g v σ H Q
def TgsOk (T : Tb) (g : TGs) (is : List Nat) (tm : List D → Env → Option Env) : Prop := ∀ (B H : Hp) (σ : St) (env : Env) (A : List Addr) (vs : List V) (xs : List D) (env' : Env) (Q : St → Hp → Prop), Good T B H σ env A → DqAll T.K B vs xs → tm xs env = some env' →
  (∀ σ' A', Pin T σ σ' → Only is σ σ' → Tr B H A B H A' → Good T B H σ' env' A' → Q σ' H) → g vs σ H Q
section
variable {T : Tb}
theorem tg_name (i : Nat) : TgOk T (gName i) [i] (tgDo T.pins (.n i)) := by
  intro B H σ env A v x env' Q g hx e k
  replace e : (if i ∈ T.pins then none else some (env.set i (.d x))) = some env' := by rw [← e, tgDo]
  split at e
  · cases e
  · rename_i hp
    cases e
    obtain ⟨A', g', t⟩ := store_d (i := i) g hx
    exact k _ A' (pin_set hp) ⟨List.length_set, fun j hj => by rw [List.getElem?_set_ne fun q => hj (by rw [q]; exact List.mem_singleton.mpr rfl)]⟩ t g'
theorem tgs_nil : TgsOk T gNil [] (tgAll T.pins []) := by
  intro B H σ env A vs xs env' Q g hx e k
  cases xs with
  | nil =>
    cases hx
    rw [tgAll] at e
    cases e
    exact ⟨rfl, k σ A Pin.refl ⟨rfl, fun _ _ => rfl⟩ Tr.refl g⟩
  | cons x xs => simp [tgAll] at e
theorem tgs_cons {g : TG} {gs : TGs} {is js : List Nat} {t : Tg} {ts : List Tg} (h1 : TgOk T g is (tgDo T.pins t)) (h2 : TgsOk T gs js (tgAll T.pins ts)) : TgsOk T (gCons g gs) (is ++ js) (tgAll T.pins (t :: ts)) := by
  intro B H σ env A vs xs env' Q gd hx e k
  cases xs with
  | nil => simp [tgAll] at e
  | cons x xs =>
    rw [tgAll] at e
    cases hx with
    | cons a b =>
      split at e
      · rename_i env1 e1
        refine ⟨_, _, rfl, h1 B H σ env A _ x env1 _ gd a e1 fun σ1 A1 p1 o1 t1 g1 => ?_⟩
        exact h2 B H σ1 env1 A1 _ xs env' Q g1 b e fun σ2 A2 p2 o2 t2 g2 => k σ2 A2 (p1.trans p2) (o1.trans o2) (t1.trans t2) g2
      · cases e
theorem tg_tup {n : Nat} {gs : TGs} {is : List Nat} {ts : List Tg} (h : TgsOk T gs is (tgAll T.pins ts)) (hn : ts.length = n) : TgOk T (gTup T.K n gs) is (tgDo T.pins (.t ts)) := by
  intro B H σ env A v x env' Q g hx e k
  have len : ∀ (ts : List Tg) (xs : List D) (env env' : Env), tgAll T.pins ts xs env = some env' → xs.length = ts.length := by
    intro ts
    induction ts with
    | nil =>
      intro xs env env' e
      cases xs with
      | nil => rfl
      | cons => simp [tgAll] at e
    | cons t ts ih =>
      intro xs env env' e
      cases xs with
      | nil => simp [tgAll] at e
      | cons x xs =>
        rw [tgAll] at e
        split at e
        · rw [List.length_cons, List.length_cons, ih _ _ _ e]
        · cases e
  cases x with
  | tuple xs =>
    rw [tgDo] at e
    obtain ⟨p, vs, rfl, h1, h2⟩ := (show Pk T.K B H v (.tuple xs) from .inl hx).tup g.bh
    exact ⟨p, vs, rfl, h1, by rw [dps_length h2, len _ _ _ _ e, hn], h B H σ env A vs xs env' Q g h2 e k⟩
  | _ => simp [tgDo] at e
/-- a, b = e -/
def sTup (tm : D → Env → Option Env) (m : Env → RE D) : Env → RS := fun env => bindS (m env) fun x env => match tm x env with
  | some e => .nx e
  | none => .no
theorem bs_tup {X : Cx} {st : Stmt} {g : TG} {tm : D → Env → Option Env} {is : List Nat} {m : Env → RE D} (ht : TgOk T g is tm) (h : PS X st (tAsg (teD T m) g)) : PS X st (tsS T (sTup tm m)) :=
  psw h fun D σ H h => gen_mono (seqSE (R1 := rD T.K) h rD_nil) fun v H1 ⟨x, B1, ⟨_, hx⟩, env, A, g, h1⟩ => by
    dsimp only at h1
    split at h1
    · rename_i env' e
      exact ht B1 H1 σ env A v x env' _ g hx e fun σ' A' p _ t g' => h1 σ' B1 H1 A' p t g'
    · exact h1.elim
end

/-! ### what is walked -/
/-- J walks the data xs -/
def Src (K : Fg) (J : It) (B : Hp) (xs : List D) : Prop := ∀ B1 H1, Same B B1 → Same B1 H1 → J.stop xs.length H1 ∧ ∀ i x, xs[i]? = some x → J.go i H1 ∧ ∀ v H2, J.yld i H1 v H2 → ∃ B2, Tr B1 H1 [] B2 H2 [] ∧ Same B2 H2 ∧ Dq K B2 v x
def rSrc (K : Fg) : Hp → Hp → List D → It → List Addr → Prop := fun B _ xs J A2 => A2 = [] ∧ Src K J B xs
theorem rSrc_nil {K : Fg} : ∀ B H x v A2, rSrc K B H x v A2 → A2 = [] := fun _ _ _ _ _ h => h.1
def tiD (T : Tb) (m : Env → RE (List D)) : TI := fun σ H R => gen T (rSrc T.K) m σ H R
/-- the items of a list, a tuple, a text -/
def itemsOf : D → Option (List D)
  | .list xs => some xs
  | .tuple xs => some xs
  | .str z => some (z.cps.toList.map fun c => .str ⟨#[c]⟩)
  | _ => none
def iAny (m : Env → RE D) : Env → RE (List D) := fun env => (m env).bind fun x env => lft (itemsOf x) env
section
variable {X : Cx} {T : Tb} {tg e : Expr} {m : Env → RE D}
theorem piw {wi wi' : TI} (h : PI X tg e wi) (i : ∀ σ H R, wi' σ H R → wi σ H R) : PI X tg e wi' := ⟨fun pins s σ H R I q => h.run pins s σ H R I (i σ H R q)⟩
theorem pi_or {wi wi' : TI} (h : PI X tg e wi) (h' : PI X tg e wi') : PI X tg e (fun σ H R => wi σ H R ∨ wi' σ H R) := ⟨fun pins s σ H R I q => q.elim (h.run pins s σ H R I) (h'.run pins s σ H R I)⟩
theorem src_list {K : Fg} {a : Addr} {vs : List V} {xs : List D} {B : Hp} (h1 : B a = some (.lst vs)) (h2 : DqAll K B vs xs) : Src K (Itl K a) B xs := fun B1 H1 s1 s2 => by
  have q : SqL K H1 a vs := SqL.of (s2 _ _ (s1 _ _ h1))
  have wk := walk_list (K := K) (a := a) (xs := vs)
  rw [← dps_length h2]
  refine ⟨wk.stops H1 q, fun i x hx => ?_⟩
  obtain ⟨v, hv, hd⟩ := dps_get i h2 hx
  have hi : i < vs.length := (List.getElem?_eq_some_iff.mp hv).1
  refine ⟨wk.goes i H1 hi q, fun u H2 y => ?_⟩
  obtain ⟨rfl, e⟩ := wk.yields i H1 u H2 hi q y
  rw [hv] at e
  cases e
  exact ⟨B1, Tr.refl, s2, dp_mono s1 _ _ hd⟩
theorem src_tup {K : Fg} {a : Addr} {vs : List V} {xs : List D} {B : Hp} (h1 : SqT K B a vs) (h2 : DqAll K B vs xs) : Src K (Itt K a) B xs := fun B1 H1 s1 s2 => by
  have q : SqT K H1 a vs := Same.seqT s2 (Same.seqT s1 h1)
  have wk := walk_tup (K := K) (a := a) (xs := vs)
  rw [← dps_length h2]
  refine ⟨wk.stops H1 q, fun i x hx => ?_⟩
  obtain ⟨v, hv, hd⟩ := dps_get i h2 hx
  have hi : i < vs.length := (List.getElem?_eq_some_iff.mp hv).1
  refine ⟨wk.goes i H1 hi q, fun u H2 y => ?_⟩
  obtain ⟨rfl, e⟩ := wk.yields i H1 u H2 hi q y
  rw [hv] at e
  cases e
  exact ⟨B1, Tr.refl, s2, dp_mono s1 _ _ hd⟩
theorem src_str {K : Fg} {z : Str} {B : Hp} : Src K (Its z) B (z.cps.toList.map fun c => .str ⟨#[c]⟩) := fun B1 H1 s1 s2 => by
  have wk := walk_str (z := z)
  have hl : (z.cps.toList.map fun c => PyData.str ⟨#[c]⟩).length = z.cps.size := by rw [List.length_map, Array.length_toList]
  rw [hl]
  refine ⟨wk.stops H1 trivial, fun i x hx => ?_⟩
  rw [List.getElem?_map] at hx
  obtain ⟨c, hc, rfl⟩ := Option.map_eq_some_iff.mp hx
  have hc' : z.cps[i]? = some c := by rw [← Array.getElem?_toList]; exact hc
  have hi : i < z.cps.size := (Array.getElem?_eq_some_iff.mp hc').1
  refine ⟨wk.goes i H1 hi trivial, fun u H2 y => ?_⟩
  obtain ⟨rfl, c', e, rfl⟩ := wk.yields i H1 u H2 hi trivial y
  rw [hc'] at e
  cases e
  exact ⟨B1, Tr.refl, s2, .str _⟩
theorem bi_any (hK : T.K = X.K) (h : PE X e (teD T m)) : PI X tg e (tiD T (iAny m)) :=
  piw (pi_or (pi_list h) (pi_or (pi_tup h) (pi_str h))) fun σ H R q => by
    have kind : ∀ x, (∃ env env1 B A, Good T B H σ env A ∧ m env = .ok x env1) → True := fun _ _ => trivial
    obtain ⟨B, env, A, g, h1⟩ := q
    have go : ∀ (P : V → Hp → Prop), (∀ x env1, m env = .ok x env1 → ∀ v B1 H1, Dq T.K B1 v x → Same B1 H1 → (∀ J xs, itemsOf x = some xs → Src T.K J B1 xs → R J H1) → P v H1) → teD T m σ H P := fun P hP => by
      refine ⟨B, env, A, g, ?_⟩
      cases em : m env with
      | ok x env1 =>
        intro v B1 H1 A1 A2 t g1 r n d
        obtain ⟨rfl, hx⟩ := r
        rw [List.append_nil] at t
        refine hP x env1 em v B1 H1 hx g1.bh fun J xs hi hs => ?_
        simp only [iAny, em, RE.bind, hi, lft] at h1
        exact h1 J B1 H1 A1 [] (by simpa using t) g1 ⟨rfl, hs⟩ List.nodup_nil fun _ z => nomatch z
      | ex c x env1 => simp only [iAny, em, RE.bind] at h1; exact h1
      | no => simp only [iAny, em, RE.bind] at h1; exact h1.elim
    cases em : m env with
    | ok x env1 =>
      cases x with
      | list xs =>
        refine .inl (go _ fun x' env1' e' v B1 H1 hx s k => ?_)
        rw [em] at e'
        cases e'
        cases hx with
        | lst h1 h2 => exact ⟨_, rfl, ⟨_, SqL.of (s _ _ h1)⟩, k _ xs rfl (hK ▸ src_list (K := X.K) h1 (hK ▸ h2))⟩
      | tuple xs =>
        refine .inr (.inl (go _ fun x' env1' e' v B1 H1 hx s k => ?_))
        rw [em] at e'
        cases e'
        cases hx with
        | tup h1 h2 => exact ⟨_, rfl, ⟨_, hK ▸ Same.seqT s h1⟩, k _ xs rfl (hK ▸ src_tup (K := X.K) (hK ▸ h1) (hK ▸ h2))⟩
      | str z =>
        refine .inr (.inr (go _ fun x' env1' e' v B1 H1 hx s k => ?_))
        rw [em] at e'
        cases e'
        cases hx
        exact ⟨z, rfl, k _ _ rfl src_str⟩
      | _ => simp only [iAny, em, RE.bind, itemsOf, lft] at h1; exact h1.elim
    | ex c x env1 => exact .inl (go _ fun x' env1' e' => by rw [em] at e'; cases e')
    | no => simp only [iAny, em, RE.bind] at h1; exact h1.elim
/-- range(n), range(a, b) -/
def rng (lo hi : Int) : List D := (List.range (hi - lo).toNat).map fun i => .int (lo + (i : Nat))
def dRng1 : List D → Option (List D)
  | [.int j] => if decide (-(2 ^ 62) ≤ j ∧ j < 2 ^ 62) then some (rng 0 j) else none
  | _ => none
def dRng2 : List D → Option (List D)
  | [.int i, .int j] => if decide (-(2 ^ 62) ≤ i ∧ i < 2 ^ 62 ∧ -(2 ^ 62) ≤ j ∧ j < 2 ^ 62) then some (rng i j) else none
  | _ => none
def iRg1 (ms : Env → RE (List D)) : Env → RE (List D) := fun env => (ms env).bind fun xs env => lft (dRng1 xs) env
def iRg2 (ms : Env → RE (List D)) : Env → RE (List D) := fun env => (ms env).bind fun xs env => lft (dRng2 xs) env
theorem dRng1_eq {xs : List D} {z : List D} (e : dRng1 xs = some z) : ∃ j, xs = [.int j] ∧ (-(2 ^ 62) ≤ j ∧ j < 2 ^ 62) ∧ z = rng 0 j := by
  unfold dRng1 at e
  split at e
  · rename_i j
    split at e
    · rename_i g
      cases e
      exact ⟨j, rfl, of_decide_eq_true g, rfl⟩
    · cases e
  · cases e
theorem dRng2_eq {xs : List D} {z : List D} (e : dRng2 xs = some z) : ∃ i j, xs = [.int i, .int j] ∧ (-(2 ^ 62) ≤ i ∧ i < 2 ^ 62 ∧ -(2 ^ 62) ≤ j ∧ j < 2 ^ 62) ∧ z = rng i j := by
  unfold dRng2 at e
  split at e
  · rename_i i j
    split at e
    · rename_i g
      cases e
      exact ⟨i, j, rfl, of_decide_eq_true g, rfl⟩
    · cases e
  · cases e
theorem src_rng {K : Fg} {lo : Int} {n : Nat} {B : Hp} : Src K (Itr lo n) B ((List.range n).map fun i => .int (lo + (i : Nat))) := fun B1 H1 s1 s2 => by
  have wk := walk_range (lo := lo) (n := n)
  have hl : ((List.range n).map fun i => PyData.int (lo + (i : Nat))).length = n := by rw [List.length_map, List.length_range]
  rw [hl]
  refine ⟨wk.stops H1 trivial, fun i x hx => ?_⟩
  have hi : i < n := by
    have := (List.getElem?_eq_some_iff.mp hx).1
    rw [hl] at this
    exact this
  have ex : x = .int (lo + (i : Nat)) := by
    rw [List.getElem?_map, List.getElem?_range hi] at hx
    exact (Option.some.inj hx).symm
  subst ex
  refine ⟨wk.goes i H1 hi trivial, fun u H2 y => ?_⟩
  obtain ⟨rfl, rfl⟩ := wk.yields i H1 u H2 hi trivial y
  exact ⟨B1, Tr.refl, s2, .int _⟩
theorem bi_range1 {ms : Env → RE (List D)} (h : PI X tg e (iRng1 (taD T ms))) : PI X tg e (tiD T (iRg1 ms)) :=
  piw h fun σ H R q => gen_mono (seqE (R1 := rA T.K) q rA_nil) fun vs H1 ⟨xs, B1, ⟨_, hx⟩, h1⟩ => by
    obtain ⟨z, e, s, k⟩ := doneB h1
    obtain ⟨j, rfl, g, rfl⟩ := dRng1_eq e
    cases hx with
    | cons a b =>
      cases a
      cases b
      refine ⟨j, rfl, g.1, g.2, k _ B1 H1 Tr.refl s ⟨rfl, ?_⟩⟩
      have := src_rng (K := T.K) (lo := 0) (n := j.toNat) (B := B1)
      unfold rng
      rw [Int.sub_zero]
      exact this
theorem bi_range2 {ms : Env → RE (List D)} (h : PI X tg e (iRng2 (taD T ms))) : PI X tg e (tiD T (iRg2 ms)) :=
  piw h fun σ H R q => gen_mono (seqE (R1 := rA T.K) q rA_nil) fun vs H1 ⟨xs, B1, ⟨_, hx⟩, h1⟩ => by
    obtain ⟨z, e, s, k⟩ := doneB h1
    obtain ⟨i, j, rfl, g, rfl⟩ := dRng2_eq e
    cases hx with
    | cons a b =>
      cases b with
      | cons b c =>
        cases a
        cases b
        cases c
        exact ⟨i, j, rfl, g, k _ B1 H1 Tr.refl s ⟨rfl, src_rng⟩⟩
end

/-! ### for -/
def forL (tm : D → Env → Option Env) (body : Env → RS) : List D → Env → RS
  | [], env => .nx env
  | x :: xs, env => match tm x env with
    | none => .no
    | some env1 => match body env1 with
      | .nx e => forL tm body xs e
      | .ct e => forL tm body xs e
      | .bk e => .nx e
      | r => r
def sFor (tm : D → Env → Option Env) (it : Env → RE (List D)) (body : Env → RS) : Env → RS := fun env => bindS (it env) fun xs env => forL tm body xs env
section
variable {X : Cx} {T : Tb}
theorem drop_eq {α : Type} {xs : List α} {i : Nat} (h : i < xs.length) : xs.drop i = xs[i] :: xs.drop (i + 1) := List.drop_eq_getElem_cons h
theorem bs_for {st : Stmt} {g : TG} {tm : D → Env → Option Env} {it : Env → RE (List D)} {mb : Env → RS} {is : List Nat} (ht : TgOk T g is tm) (h : PS X st (tFor (tiD T it) g (tsS T mb))) : PS X st (tsS T (sFor tm it mb)) :=
  psw h fun D σ0 H0 h => gen_mono (seqSE (R1 := rSrc T.K) h rSrc_nil) fun J H1 ⟨xs, B1, ⟨_, hs⟩, h1⟩ => by
    refine ⟨fun i m σ H => i ≤ xs.length ∧ m = xs.length - i ∧ ∃ B env A, Same B1 B ∧ Good T B H σ env A ∧ evS T B H A σ D (forL tm mb (xs.drop i) env), ?_, ?_⟩
    · obtain ⟨env, A, g, h1⟩ := h1
      exact ⟨xs.length, Nat.zero_le _, rfl, B1, env, A, Same.refl B1, g, h1⟩
    · rintro i m σ H ⟨hi, rfl, B, env, A, sb, gd, hev⟩
      obtain ⟨hstop, hgo⟩ := hs B H sb gd.bh
      by_cases hlt : i < xs.length
      · refine .inr ⟨(hgo i xs[i] (List.getElem?_eq_getElem hlt)).1, fun σ' H' => i + 1 ≤ xs.length ∧ ∃ B env A, Same B1 B ∧ Good T B H' σ' env A ∧ evS T B H' A σ' D (forL tm mb (xs.drop (i + 1)) env), fun σ' H' hn => ⟨xs.length - (i + 1), by omega, hn.1, rfl, hn.2⟩, fun v H2 hy => ?_⟩
        obtain ⟨B2, t2, s2, hx⟩ := (hgo i xs[i] (List.getElem?_eq_getElem hlt)).2 v H2 hy
        rw [drop_eq hlt] at hev
        unfold forL at hev
        have kp : Keeps B H B2 H2 A := t2.keeps (fun _ _ => List.not_mem_nil) fun a ha => (env_known gd.er a ha).1
        have g2 : Good T B2 H2 σ env A := ⟨s2, env_keep gd.er kp, gd.nd⟩
        have w2 : Tr B H A B2 H2 A := t2.widen0
        cases et : tm xs[i] env with
        | none => simp only [et] at hev; exact hev.elim
        | some env1 =>
          simp only [et] at hev
          refine ht B2 H2 σ env A v xs[i] env1 _ g2 hx et fun σ3 A3 p3 _ t3 g3 => ⟨B2, env1, A3, g3, ?_⟩
          have hev' := evS.trans p3 (w2.trans t3) hev
          cases eb : mb env1 with
          | nx e =>
            simp only [eb] at hev'
            exact fun σ' B' H' A' p t g => ⟨hlt, B', e, A', sb.trans (w2.bb.trans t.bb), g, evS.trans p t hev'⟩
          | ct e =>
            simp only [eb] at hev'
            exact fun σ' B' H' A' p t g => ⟨hlt, B', e, A', sb.trans (w2.bb.trans t.bb), g, evS.trans p t hev'⟩
          | bk e => simp only [eb] at hev'; exact hev'
          | rt r e => simp only [eb] at hev'; exact hev'
          | ex c x e => simp only [eb] at hev'; exact hev'
          | no => simp only [eb] at hev'; exact hev'.elim
      · have e : i = xs.length := by omega
        subst e
        rw [List.drop_length] at hev
        exact .inl ⟨hstop, hev σ B H A Pin.refl Tr.refl gd⟩

/-! ### while -/
def whileL (c : Env → RE Bool) (body : Env → RS) : Nat → Env → RS
  | 0, _ => .no
  | n + 1, env => bindS (c env) fun b env => if b then (match body env with
      | .nx e => whileL c body n e
      | .ct e => whileL c body n e
      | .bk e => .nx e
      | r => r) else .nx env
def sWhile (fuel : Nat) (c : Env → RE Bool) (body : Env → RS) : Env → RS := fun env => whileL c body fuel env
theorem bs_while {c : Env → RE Bool} {mb : Env → RS} {st : Stmt} (fuel : Nat) (h : PS X st (tWhile (ttD T c) (tsS T mb))) : PS X st (tsS T (sWhile fuel c mb)) :=
  psw h fun D σ0 H0 ⟨B0, env0, A0, g0, h0⟩ => by
    refine ⟨fun m σ H => ∃ B env A, Good T B H σ env A ∧ evS T B H A σ D (whileL c mb m env), ⟨fuel, B0, env0, A0, g0, h0⟩, ?_⟩
    rintro m σ H ⟨B, env, A, gd, hev⟩
    cases m with
    | zero => exact hev.elim
    | succ m =>
      rw [whileL] at hev
      refine gen_mono (seqSE (R1 := rT) (D := D) (m := c) (k := fun b env => if b then (match mb env with | .nx e => whileL c mb m e | .ct e => whileL c mb m e | .bk e => .nx e | r => r) else .nx env) ⟨B, env, A, gd, hev⟩ rT_nil) fun b H1 ⟨x, B1, ⟨_, hx⟩, env1, A1, g1, h1⟩ => ?_
      subst hx
      cases b with
      | false => exact h1 σ B1 H1 A1 Pin.refl Tr.refl g1
      | true =>
        refine ⟨fun σ' H' => ∃ B env A, Good T B H' σ' env A ∧ evS T B H' A σ' D (whileL c mb m env), fun σ' H' hn => ⟨m, Nat.lt_succ_self m, hn⟩, B1, env1, A1, g1, ?_⟩
        replace h1 : evS T B1 H1 A1 σ D (match mb env1 with | .nx e => whileL c mb m e | .ct e => whileL c mb m e | .bk e => .nx e | r => r) := h1
        cases eb : mb env1 with
        | nx e =>
          simp only [eb] at h1
          exact fun σ' B' H' A' p t g => ⟨B', e, A', g, evS.trans p t h1⟩
        | ct e =>
          simp only [eb] at h1
          exact fun σ' B' H' A' p t g => ⟨B', e, A', g, evS.trans p t h1⟩
        | bk e => simp only [eb] at h1; exact h1
        | rt r e => simp only [eb] at h1; exact h1
        | ex c x e => simp only [eb] at h1; exact h1
        | no => simp only [eb] at h1; exact h1.elim
end

/-! ### list comprehensions -/
def wipeE (env : Env) : List Nat → Env
  | [] => env
  | i :: r => (wipeE env r).set i .un
/-- no exception is let out -/
def noex {α : Type} : RE α → RE α
  | .ex _ _ _ => .no
  | r => r
def compL (vs : List Nat) (tm : D → Env → Option Env) (tt : Env → RE Bool) (te : Env → RE D) : List D → List D → Env → RE (List D)
  | [], acc, env => .ok acc (wipeE env vs)
  | x :: xs, acc, env => match tm x (wipeE env vs) with
    | none => .no
    | some env1 => (noex (tt env1)).bind fun b env2 => if b then (noex (te env2)).bind fun y env3 => if acc.length < 16777216 then compL vs tm tt te xs (acc ++ [y]) env3 else .no else compL vs tm tt te xs acc env2
def nComp (vs : List Nat) (tm : D → Env → Option Env) (it : Env → RE (List D)) (tt : Env → RE Bool) (te : Env → RE D) : Env → RE Sl := fun env => (it env).bind fun xs env => (compL vs tm tt te xs [] env).bind fun acc env => .ok (.l acc) env
def ttYes : Env → RE Bool := fun env => .ok true env
section
variable {K : Fg} {cls : Str → Option Addr} {B H : Hp}
theorem wipe_eq (σ : St) (i : Nat) (r : List Nat) : wipe σ (i :: r) = (wipe σ r).set i none := by
  first | rfl | (unfold wipe; rfl)
theorem env_wipe : ∀ (vs : List Nat) {σ : St} {env : Env} {A : List Addr}, EnvR K cls B H σ env A → A.Nodup → ∃ A', EnvR K cls B H (wipe σ vs) (wipeE env vs) A' ∧ A'.Nodup ∧ ∀ a ∈ A', a ∈ A
  | [], _, _, A, h, n => ⟨A, h, n, fun _ z => z⟩
  | i :: r, σ, env, A, h, n => by
    obtain ⟨A1, h1, n1, k1⟩ := env_wipe r h n
    obtain ⟨A2, h2, n2, k2⟩ := env_set i (s' := none) (e' := .un) (A2 := []) h1 (.inl ⟨rfl, rfl⟩) (fun _ z => nomatch z) n1 List.nodup_nil
    exact ⟨A2, by rw [wipe_eq]; exact h2, n2, fun a ha => (k2 a ha).elim (k1 a) fun z => nomatch z⟩
theorem env_un : ∀ {σ : St} {env : Env} {A : List Addr} (i : Nat) (s : Option V), EnvR K cls B H σ env A → (env[i]? = some .un ∨ env[i]? = none) → EnvR K cls B H (σ.set i s) env A
  | _, _, _, i, s, .nil, _ => by simpa using EnvR.nil
  | _, _, _, 0, s, .un r, _ => .un r
  | _, _, _, 0, s, .cons o r, h => by
    rcases h with h | h
    · simp at h
      subst h
      cases o
    · simp at h
  | _, _, _, i + 1, s, .un r, h => .un (env_un i s r (by simpa using h))
  | _, _, _, i + 1, s, .cons o r, h => .cons o (env_un i s r (by simpa using h))
theorem wipeE_at : ∀ (vs : List Nat) (env : Env) (i : Nat), i ∈ vs → (wipeE env vs)[i]? = some .un ∨ (wipeE env vs)[i]? = none
  | j :: r, env, i, h => by
    by_cases e : j = i
    · subst e
      show ((wipeE env r).set j .un)[j]? = some .un ∨ ((wipeE env r).set j .un)[j]? = none
      by_cases hj : j < (wipeE env r).length
      · exact .inl (List.getElem?_set_self hj)
      · exact .inr (List.getElem?_eq_none (by rw [List.length_set]; omega))
    · show ((wipeE env r).set j .un)[i]? = some .un ∨ ((wipeE env r).set j .un)[i]? = none
      rw [List.getElem?_set_ne e]
      exact wipeE_at r env i ((List.mem_cons.mp h).resolve_left fun z => e z.symm)
/-- slots that hold nothing known may hold anything -/
theorem env_free : ∀ (vs : List Nat) {σ σ' : St} {env : Env} {A : List Addr}, EnvR K cls B H σ env A → σ'.length = σ.length → (∀ i, i ∉ vs → σ'[i]? = σ[i]?) → (∀ i, i ∈ vs → env[i]? = some .un ∨ env[i]? = none) → EnvR K cls B H σ' env A
  | [], σ, σ', env, A, h, hl, ho, hu => by
    have : σ' = σ := List.ext_getElem? fun i => ho i (by simp)
    rw [this]
    exact h
  | j :: r, σ, σ', env, A, h, hl, ho, hu => by
    by_cases hj : j < σ.length
    · have h1 := env_un j (σ'[j]'(by omega)) h (hu j List.mem_cons_self)
      refine env_free r h1 (hl.trans List.length_set.symm) (fun i hi => ?_) fun i hi => hu i (List.mem_cons_of_mem _ hi)
      by_cases e : j = i
      · subst e
        rw [List.getElem?_set_self hj, List.getElem?_eq_getElem (by omega)]
      · rw [List.getElem?_set_ne e]
        exact ho i fun z => (List.mem_cons.mp z).elim (fun q => e q.symm) hi
    · refine env_free r h hl (fun i hi => ?_) fun i hi => hu i (List.mem_cons_of_mem _ hi)
      by_cases e : j = i
      · subst e
        rw [List.getElem?_eq_none (by omega), List.getElem?_eq_none (by omega)]
      · exact ho i fun z => (List.mem_cons.mp z).elim (fun q => e q.symm) hi
end
theorem wipe_in : ∀ (vs : List Nat) (σ : St) (i : Nat), i ∈ vs → i < σ.length → (wipe σ vs)[i]? = some none
  | j :: r, σ, i, h, hl => by
    rw [wipe_eq]
    by_cases e : j = i
    · subst e
      rw [List.getElem?_set_self (by rw [wipe_length]; exact hl)]
    · rw [List.getElem?_set_ne e]
      exact wipe_in r σ i ((List.mem_cons.mp h).resolve_left fun z => e z.symm) hl
theorem wipe_same {vs is : List Nat} {σ σ' : St} (hs : ∀ i ∈ is, i ∈ vs) (h : Only is (wipe σ vs) σ') : wipe σ' vs = wipe σ vs := by
  have hl : σ'.length = σ.length := by rw [h.1, wipe_length]
  refine List.ext_getElem? fun i => ?_
  by_cases hi : i ∈ vs
  · by_cases hb : i < σ.length
    · rw [wipe_in vs σ i hi hb, wipe_in vs σ' i hi (by omega)]
    · rw [List.getElem?_eq_none (by rw [wipe_length]; omega), List.getElem?_eq_none (by rw [wipe_length]; omega)]
  · rw [wipe_out hi, h.2 i fun z => hi (hs i z)]
section
variable {X : Cx} {T : Tb}
/-- the same, no exception wished for -/
abbrev Tb.calm (T : Tb) : Tb := ⟨T.K, T.cls, T.pins, none⟩
theorem Good.calm {B H : Hp} {σ : St} {env : Env} {A : List Addr} (g : Good T B H σ env A) : Good T.calm B H σ env A := ⟨g.bh, g.er, g.nd⟩
theorem Good.ofCalm {B H : Hp} {σ : St} {env : Env} {A : List Addr} (g : Good T.calm B H σ env A) : Good T B H σ env A := ⟨g.bh, g.er, g.nd⟩
/-- an owned list is written -/
theorem tr_write {B H : Hp} {A : List Addr} {p : Addr} {o : HO} (hp : p ∈ A) (hn : H p ≠ none) : Tr B H A B (upd H p o) A :=
  ⟨Same.refl B, fun a u ha e => by rw [upd_ne fun q => ha (by rw [q]; exact hp)]; exact e, fun a h => by
    by_cases q : a = p
    · rw [q, upd_same] at h; cases h
    · rw [upd_ne q] at h; exact h, fun _ _ _ z => z, fun a h => .inl h⟩
theorem keepL {B H B' H' : Hp} {A A' : List Addr} {L : Addr} {ws : List V} (t : Tr B H A B' H' A') (hA : L ∉ A) (hl : H L = some (.lst ws)) (hb : B L = none) : H' L = some (.lst ws) ∧ B' L = none ∧ L ∉ A' :=
  ⟨t.fr L _ hA hl, t.nb L hA (fun z => by rw [hl] at z; cases z) hb, fun z => (t.na L z).elim hA fun q => by rw [hl] at q; cases q⟩
theorem compL_ex {vs : List Nat} {tm : D → Env → Option Env} {tt : Env → RE Bool} {te : Env → RE D} {c : Str} {x : D} {e : Env} : ∀ (xs acc : List D) (env : Env), compL vs tm tt te xs acc env ≠ .ex c x e
  | [], acc, env => by rw [compL]; exact fun z => nomatch z
  | y :: ys, acc, env => fun z => by
    rw [compL] at z
    split at z
    · cases z
    · rename_i env1 _
      cases ett : tt env1 with
      | ex c x e => simp only [ett, noex, RE.bind] at z; cases z
      | no => simp only [ett, noex, RE.bind] at z; cases z
      | ok b env2 =>
        simp only [ett, noex, RE.bind] at z
        split at z
        · cases ete : te env2 with
          | ex c x e => simp only [ete] at z; cases z
          | no => simp only [ete] at z; cases z
          | ok y env3 =>
            simp only [ete] at z
            split at z
            · exact compL_ex _ _ _ z
            · cases z
        · exact compL_ex _ _ _ z
theorem comp_to {g : TG} {tm : D → Env → Option Env} {is vs : List Nat} {it : Env → RE (List D)} {tt : Env → RE Bool} {te : Env → RE D} (ht : TgOk T.calm g is tm) (hs : ∀ i ∈ is, i ∈ vs) :
    ∀ σ H Q, teN T (nComp vs tm it tt te) σ H Q → tLc (tiD T it) g (ttD T.calm tt) (teD T.calm te) vs σ H Q :=
  fun σ H0 Q h => gen_mono (seqE (R1 := rSrc T.K) h rSrc_nil) fun J H1 ⟨xs, B1, ⟨_, hsrc⟩, env0, A0, g0, h0⟩ => by
    intro L hL
    -- what is wanted at the end
    let fin : Hp → Hp → List Addr → RE (List D) → Prop := fun B H A r => match r with
      | .ok acc env' => ∀ B' H' A' ws, Tr B H (A ++ [L]) B' H' (A' ++ [L]) → Good T B' H' σ env' A' → H' L = some (.lst ws) → B' L = none → L ∉ A' → DqAll T.K B' ws acc → Q (.ref L) H'
      | _ => False
    have fin_trans : ∀ {B H B1 H1 : Hp} {A A1 : List Addr} {r : RE (List D)}, Tr B H (A ++ [L]) B1 H1 (A1 ++ [L]) → fin B H A r → fin B1 H1 A1 r := fun {B H B1 H1 A A1 r} t f => by
      cases r with
      | ok acc env' => exact fun B' H' A' ws t' => f B' H' A' ws (t.trans t')
      | ex c x env' => exact f
      | no => exact f
    have b1L : B1 L = none := g0.bh.free hL
    have nLA : L ∉ A0 := fun z => (env_known g0.er L z).1 hL
    obtain ⟨A00, er0, n00, k00⟩ := env_wipe vs g0.er g0.nd
    obtain ⟨t0, s0, _⟩ := tr_own (B := B1) (o := .lst []) hL g0.bh
    have sub : ∀ {A A' : List Addr}, (∀ a ∈ A', a ∈ A) → ∀ a ∈ A' ++ [L], a ∈ A ++ [L] := fun {A A'} h a ha => (List.mem_append.mp ha).elim (fun z => List.mem_append_left _ (h a z)) fun z => List.mem_append_right _ z
    have t0' : Tr B1 H1 A0 B1 (upd H1 L (.lst [])) (A0 ++ [L]) := (t0.widen (R := A0)).perm (fun a => by simp) fun a ha => by
      rcases List.mem_append.mp ha with z | z
      · exact List.mem_append_right _ z
      · exact List.mem_append_left _ z
    refine ⟨fun i m H => i ≤ xs.length ∧ m = xs.length - i ∧ ∃ B env A acc ws, Same B1 B ∧ Good T B H (wipe σ vs) (wipeE env vs) A ∧ H L = some (.lst ws) ∧ B L = none ∧ L ∉ A ∧ DqAll T.K B ws acc ∧ fin B H A (compL vs tm tt te (xs.drop i) acc env), ?_, ?_⟩
    · refine ⟨xs.length, Nat.zero_le _, rfl, B1, env0, A00, [], [], Same.refl B1, ⟨s0, ?_, n00⟩, upd_same, b1L, fun z => nLA (k00 L z), .nil, ?_⟩
      · exact env_keep er0 ⟨Same.refl B1, fun a o ha e => by rw [upd_ne fun q => nLA (by rw [← q]; exact k00 a ha)]; exact e, fun _ _ z => z⟩
      · rw [List.drop_zero]
        cases ec : compL vs tm tt te xs [] env0 with
        | ok acc env' =>
          simp only [ec, RE.bind] at h0
          intro B' H' A' ws w g' hl hb hn hd
          refine h0 (.ref L) B' H' A' [L] (t0'.trans ?_) g' (.l hb hl hd) (by simp) fun a ha => by rw [List.mem_singleton.mp ha]; exact hn
          exact ⟨w.bb, fun x o hx e => w.fr x o (fun z => hx (sub k00 x z)) e, w.st, fun x hx a b => w.nb x (fun z => hx (sub k00 x z)) a b, fun x hx => (w.na x hx).imp (sub k00 x) id⟩
        | ex c x env' => exact absurd ec (compL_ex _ _ _)
        | no => simp only [ec, RE.bind] at h0; exact h0.elim
    · rintro i m H ⟨hi, rfl, B, env, A, acc, ws, sb, gd, hlL, hbL, hnL, hd, hf⟩
      obtain ⟨hstop, hgo⟩ := hsrc B H sb gd.bh
      have neL : ∀ {H : Hp} {ws : List V}, H L = some (.lst ws) → H L ≠ none := fun e z => by rw [e] at z; cases z
      by_cases hlt : i < xs.length
      · refine .inr ⟨(hgo i xs[i] (List.getElem?_eq_getElem hlt)).1, fun H' => i + 1 ≤ xs.length ∧ ∃ B env A acc ws, Same B1 B ∧ Good T B H' (wipe σ vs) (wipeE env vs) A ∧ H' L = some (.lst ws) ∧ B L = none ∧ L ∉ A ∧ DqAll T.K B ws acc ∧ fin B H' A (compL vs tm tt te (xs.drop (i + 1)) acc env),
          fun H' hn => ⟨xs.length - (i + 1), by omega, hn.1, rfl, hn.2⟩, fun v H2 hy => ?_⟩
        obtain ⟨B2, t2, s2, hx⟩ := (hgo i xs[i] (List.getElem?_eq_getElem hlt)).2 v H2 hy
        rw [drop_eq hlt] at hf
        have kp : Keeps B H B2 H2 A := t2.keeps (fun _ _ => List.not_mem_nil) fun a ha => (env_known gd.er a ha).1
        have g2 : Good T B2 H2 (wipe σ vs) (wipeE env vs) A := ⟨s2, env_keep gd.er kp, gd.nd⟩
        have w2 : Tr B H (A ++ [L]) B2 H2 (A ++ [L]) := t2.widen0
        obtain ⟨hl2, hb2, _⟩ := keepL t2 List.not_mem_nil hlL hbL
        rw [compL] at hf
        cases et : tm xs[i] (wipeE env vs) with
        | none => simp only [et] at hf; exact hf.elim
        | some env1 =>
          simp only [et] at hf
          refine ht B2 H2 (wipe σ vs) (wipeE env vs) A v xs[i] env1 _ g2.calm hx et fun σ3 A3 p3 o3 t3 g3 => ⟨wipe_same hs o3, B2, env1, A3, g3, ?_⟩
          obtain ⟨_, _, hn3⟩ := keepL t3 hnL hl2 hb2
          have w3 : Tr B H (A ++ [L]) B2 H2 (A3 ++ [L]) := w2.trans t3.widen
          cases ett : tt env1 with
          | ex c x e => simp only [ett, noex, RE.bind] at hf; exact hf.elim
          | no => simp only [ett, noex, RE.bind] at hf; exact hf.elim
          | ok b env2 =>
            simp only [ett, noex, RE.bind] at hf
            intro b' B3 H3 A4 A5 t4 g4 r4 _ _
            obtain ⟨rfl, rfl⟩ := r4
            rw [List.append_nil] at t4
            obtain ⟨hl3, hb3, hn4⟩ := keepL t4 hn3 hl2 hb2
            have w4 : Tr B H (A ++ [L]) B3 H3 (A4 ++ [L]) := w3.trans t4.widen
            cases b' with
            | false =>
              simp only [Bool.false_eq_true, if_false] at hf
              obtain ⟨A6, er6, n6, k6⟩ := env_wipe vs g4.er g4.nd
              rw [wipe_same hs o3] at er6
              exact ⟨hlt, B3, env2, A6, acc, ws, sb.trans w4.bb, ⟨g4.bh, er6, n6⟩, hl3, hb3, fun z => hn4 (k6 L z), dps_mono w4.bb _ _ hd, fin_trans (w4.less (sub k6)) hf⟩
            | true =>
              simp only [if_true] at hf
              refine ⟨B3, env2, A4, g4, ?_⟩
              cases ete : te env2 with
              | ex c x e => simp only [ete] at hf; exact hf.elim
              | no => simp only [ete] at hf; exact hf.elim
              | ok y env3 =>
                simp only [ete] at hf
                intro vy B4 H4 A6 A7 t5 g5 r5 _ _
                obtain ⟨rfl, dy⟩ := r5
                rw [List.append_nil] at t5
                obtain ⟨hl4, hb4, hn6⟩ := keepL t5 hn4 hl3 hb3
                have w5 : Tr B H (A ++ [L]) B4 H4 (A6 ++ [L]) := w4.trans t5.widen
                split at hf
                · rename_i hz
                  obtain ⟨A8, er8, n8, k8⟩ := env_wipe vs g5.er g5.nd
                  rw [wipe_same hs o3] at er8
                  have d4 : DqAll T.K B4 ws acc := dps_mono w5.bb _ _ hd
                  have hn8 : L ∉ A8 := fun z => hn6 (k8 L z)
                  have w8 : Tr B H (A ++ [L]) B4 (upd H4 L (.lst (ws ++ [vy]))) (A8 ++ [L]) := (w5.less (sub k8)).trans (tr_write (List.mem_append_right _ (List.mem_singleton.mpr rfl)) (neL hl4))
                  refine ⟨ws, hl4, lt_lim (by rw [dps_length d4]; exact hz), hlt, B4, env3, A8, acc ++ [y], ws ++ [vy], sb.trans w5.bb, ⟨fun a o e => ?_, env_keep er8 ⟨Same.refl B4, fun a o ha e => ?_, fun _ _ z => z⟩, n8⟩, upd_same, hb4, hn8, dps_app d4 (dps_one dy), fin_trans w8 hf⟩
                  · rw [upd_ne (ne_of_none e hb4)]
                    exact g5.bh a o e
                  · rw [upd_ne fun q => hn8 (by rw [← q]; exact ha)]
                    exact e
                · exact hf.elim
      · have e : i = xs.length := by omega
        subst e
        rw [List.drop_length, compL] at hf
        have er : EnvR T.K T.cls B H σ (wipeE env vs) A := env_free vs gd.er (wipe_length σ vs).symm (fun i hi => (wipe_out hi).symm) fun i hi => wipeE_at vs env i hi
        exact .inl ⟨hstop, hf B H A ws Tr.refl ⟨gd.bh, er, gd.nd⟩ hlL hbL hnL hd⟩
theorem bn_comp {e0 : Expr} {g : TG} {tm : D → Env → Option Env} {is vs : List Nat} {it : Env → RE (List D)} {tt : Env → RE Bool} {te : Env → RE D} (ht : TgOk T.calm g is tm) (hs : ∀ i ∈ is, i ∈ vs)
    (h : PE X e0 (tLc (tiD T it) g (ttD T.calm tt) (teD T.calm te) vs)) : PE X e0 (teN T (nComp vs tm it tt te)) := pew h (comp_to ht hs)
end
end BV

/-! BV9: defs and their calls; no repr is under way around them. -/
namespace BV
open PySem PySem.Spec PyProof.Rows L2

/-- a def's promise, wherever no repr is under way -/
structure FnG (P : Program) (w : World) (K : Fg) (mg : Str → Option Value) (base : Heap) (CX : CXT) (k : Nat) (f : Addr) (fd : FuncData) (ps : List Str) (sp : Sp) : Prop where
  len : ∀ vs H Q E, sp vs H Q E → vs.length = ps.length
  run : ∀ (A : Around) (outer : List PySem.Env) (s : Shared) (H : Hp) (args : Args) (us : List Value) (vs : List V) (Q : VK) (E : XK), A.guards = some [] → Room k A → Env0 P w K mg base A outer s H → BindsTo s fd args (ps.zip us) → Vals vs us → sp vs H Q E →
    codeAny (model P w) A (.call (.ref f) args) (CR CX outer P w H s Q E) s

theorem guards_deeper {A : Around} {env : PySem.Env} (h : A.guards = some []) : (A.deeper env).guards = some [] := h
/-- a def by its body -/
theorem fnG_of {CX : CXT} {P : Program} {w : World} {K : Fg} {mg : Str → Option Value} {base : Heap} {k : Nat} {f : Addr} {qual : Str} {st : Stmt} {fd : FuncData} {x : Str} {N ps : List Str} {sp : Sp}
    (F : Fun K x qual st f fd) (S : FnScope N ps (defScope st)) (hlen : ∀ vs H Q E, sp vs H Q E → vs.length = ps.length)
    (go : ∀ (cdv : Value) (A : Around) (outer : List PySem.Env) (s : Shared) (H : Hp) (vs : List V) (Q : VK) (E : XK), A.guards = some [] → Room k (A.deeper (envOfC qual (defScope st) s.heap.objs.size f cdv)) → sp vs H Q E →
      ∃ t, PSs (cxOf CX P w K mg base N qual (defScope st) f cdv A outer s H E) (defBody st) t ∧ t ⟨fun _ H' => Q .non H', Q, fun _ _ => False, fun _ _ => False⟩ (start N vs) H) : FnG P w K mg base CX (k + 1) f fd ps sp := by
  obtain ⟨oc, od, kV, doc, pm, an, cdv, ct, osl, rfl, lk, hcd⟩ := F.ex
  refine ⟨hlen, fun A outer s H args us vs Q E hg hr e0 hb rv hsp => ?_⟩
  have inS : K.In s.heap := e0.mod.kin.keeps fun b o e => (e0.bs b o e).1
  have noLim : s.heap.NoLimit := e0.mod.nolimit.keeps fun b o e => (e0.bs b o e).1
  refine codeAny_call_function hr.depth (inS _ _ lk) rfl S.co S.gen rfl (PySem.W.codeRec_of inS hcd) (hb _ _ _ _ ?_)
  refine wpAny_newFunctionEnv_cells S.kind (fun p hp => ?_) fun env he s1 ic => ?_
  · obtain ⟨n, u⟩ := p
    exact (S.par n (List.of_mem_zip hp).1).imp id fun q => ⟨q, PySem.W.cellsFrom_some _ _ _ (.inl q)⟩
  · subst he
    obtain ⟨t, ht, hq⟩ := go cdv A outer s H vs Q E hg (hr.deeper _) hsp
    have I := inv_start (CX := CX) (E := E) S hr.hd e0 (hlen _ _ _ _ hsp) rv ic
    refine ⟨noLim.keeps ic.toInCall.keep, codeAny_func (wpAny_mono (ht.run [] s1 (start N vs) H _ I hq) (fun fl s' hs => ?_) fun e s' hs => hs)⟩
    match fl, hs with
    | .ret u, ⟨v, σ', H', J, ru, q⟩ => exact ⟨v, H', J.os, J.bare, J.base, J.hok, ru, q⟩
    | .next, ⟨σ', H', J, q⟩ => exact ⟨V.non, H', J.os, J.bare, J.base, J.hok, rfl, q⟩
    | .brk, ⟨_, _, _, q⟩ => exact q.elim
    | .cont, ⟨_, _, _, q⟩ => exact q.elim

section
variable {X : Cx} {CX : CXT} {k : Nat} {f : Addr} {fd : FuncData} {ps : List Str} {sp : Sp} {E : St → XK} {x : Str} {p pos : Pos} {e : Expr} {es : List Expr} {ta : TA}
theorem runG {pins : List (Addr × Obj)} {σ : St} {H : Hp} {s : Shared} {Q : VK} {us : List Value} {vs : List V} (F : FnG X.prog X.w X.K X.mg X.base CX k f fd ps sp) (hgd : X.A.guards = some []) (hr : Room k X.A) (hb : Binds X.K fd ps []) (hx : PassesAt CX X σ (E σ))
    (I : Inv X pins σ H s) (rv : Vals vs us) (h : sp vs H Q (E σ)) : wpAny (model X.prog X.w) X.A (call (.ref f) us) (EP X pins σ Q) X.xe s := by
  have hl : us.length = ps.length := rv.length.symm.trans (F.len _ _ _ _ h)
  have bs := hb s us I.kIn ((congrArg List.length (List.append_nil us)).trans hl)
  rw [List.append_nil] at bs
  refine wpAny_call (codeAny_mono (F.run X.A X.stack s H ⟨us, []⟩ us vs Q (E σ) hgd hr I.env0 bs rv h) fun r s' hq => ?_)
  match r, hq with
  | .error ev, hq => exact hx pins H s ev s' I hq
  | .ok (.ret u), hq => exact I.after hq
  | .ok .next, hq => exact hq.elim
  | .ok .brk, hq => exact hq.elim
  | .ok .cont, hq => exact hq.elim
def tCallG (sp : Sp) (E : St → XK) (t : TA) : TE := fun σ H Q => t σ H fun vs H1 => sp vs H1 Q (E σ)
theorem pe_callG (F : FnG X.prog X.w X.K X.mg X.base CX k f fd ps sp) (hgd : X.A.guards = some []) (hr : Room k X.A) (hg : Gl X x) (hm : X.mg x = some (.ref f)) (hk : PySem.W.keepIn X.K (.ref f) = true) (hb : Binds X.K fd ps []) (hx : ∀ σ, PassesAt CX X σ (E σ)) (ha : PA X (e :: es) ta)
    (hdb : (x == ("__debug__" : Str)) = false := by decide) (he : starEach (e :: es) X.env = (false, eval e X.env) :: starEach es X.env := by rfl) (hpl : (backTo pos (starEach es X.env)).any (·.1) = false := by rfl) : PE X (.Call (.Name x p) (e :: es) [] pos) (tCallG sp E ta) :=
  ⟨fun pins s σ H Q I h => wpAny_Call_Name_kw (ld_glob I hg hm (PySem.W.callWith_K (h₀ := X.base) I.ok.mod.kin hk (thn (ha.run pos pins s σ H _ I h) fun us s1 ⟨vs, H1, I1, rv, q⟩ => ⟨I1.kIn, runG F hgd hr hb (hx σ) I1 rv q⟩) he hpl) hdb)⟩
theorem pe_callG0 (F : FnG X.prog X.w X.K X.mg X.base CX k f fd ps sp) (hgd : X.A.guards = some []) (hr : Room k X.A) (hg : Gl X x) (hm : X.mg x = some (.ref f)) (hk : PySem.W.keepIn X.K (.ref f) = true) (hb : Binds X.K fd ps []) (hx : ∀ σ, PassesAt CX X σ (E σ))
    (hdb : (x == ("__debug__" : Str)) = false := by decide) : PE X (.Call (.Name x p) [] [] pos) (tCallG sp E tNil) :=
  ⟨fun pins s σ H Q I h => wpAny_Call_Name_kw (ld_glob I hg hm (PySem.W.callWith_K0 I.kIn hk (runG (us := []) F hgd hr hb (hx σ) I .nil h)) hdb)⟩
end

/-! ### arguments that may be owned -/
inductive AV where
  | v (x : D)
  | s (j : Nat)
  | f (nm : Str)
inductive AVs (K : Fg) (cls : Str → Option Addr) (B : Hp) (σ : St) : List V → List AV → Prop
  | nil : AVs K cls B σ [] []
  | f {a : Addr} {nm : Str} {vs : List V} {as : List AV} : cls nm = some a → AVs K cls B σ vs as → AVs K cls B σ (.ref a :: vs) (.f nm :: as)
  | v {v : V} {x : D} {vs : List V} {as : List AV} : Dq K B v x → AVs K cls B σ vs as → AVs K cls B σ (v :: vs) (.v x :: as)
  | s {v : V} {j : Nat} {vs : List V} {as : List AV} : σ[j]? = some (some v) → AVs K cls B σ vs as → AVs K cls B σ (v :: vs) (.s j :: as)
theorem avs_mono {K : Fg} {cls : Str → Option Addr} {B B' : Hp} {σ : St} (e : Same B B') : ∀ {vs : List V} {as : List AV}, AVs K cls B σ vs as → AVs K cls B' σ vs as
  | _, _, .nil => .nil
  | _, _, .v a b => .v (dp_mono e _ _ a) (avs_mono e b)
  | _, _, .f a b => .f a (avs_mono e b)
  | _, _, .s a b => .s a (avs_mono e b)
theorem avs_len {K : Fg} {cls : Str → Option Addr} {B : Hp} {σ : St} : ∀ {vs : List V} {as : List AV}, AVs K cls B σ vs as → vs.length = as.length
  | _, _, .nil => rfl
  | _, _, .v _ b => by rw [List.length_cons, List.length_cons, avs_len b]
  | _, _, .f _ b => by rw [List.length_cons, List.length_cons, avs_len b]
  | _, _, .s _ b => by rw [List.length_cons, List.length_cons, avs_len b]
/-- the arguments' contents taken out of their slots -/
def takeA : List AV → Env → Option (List Sl × Env)
  | [], env => some ([], env)
  | .v x :: r, env => (takeA r env).map fun q => (.d x :: q.1, q.2)
  | .f nm :: r, env => (takeA r env).map fun q => (.f nm :: q.1, q.2)
  | .s j :: r, env => match env[j]? with
    | none => none
    | some .un => none
    | some e => (takeA r (env.set j .un)).map fun q => (e :: q.1, q.2)
/-- .. put back -/
def putA : List AV → List Sl → Env → Env
  | .s j :: r, o :: os, env => (putA r os env).set j o
  | .v _ :: r, _ :: os, env => putA r os env
  | .f _ :: r, _ :: os, env => putA r os env
  | _, _, env => env
section
variable {K : Fg} {cls : Str → Option Addr} {B H : Hp}
theorem take_ok : ∀ {avs : List AV} {vs : List V} {σ : St} {env env' : Env} {A : List Addr} {as : List Sl}, AVs K cls B σ vs avs → EnvR K cls B H σ env A → A.Nodup → takeA avs env = some (as, env') →
    ∃ Aa Ar, EnvR K cls B H (vs.map some) as Aa ∧ EnvR K cls B H σ env' Ar ∧ (Aa ++ Ar).Nodup ∧ ∀ a, a ∈ A ↔ a ∈ Aa ∨ a ∈ Ar
  | [], _, σ, env, env', A, as, .nil, er, nd, e => by
    cases e
    exact ⟨[], A, .nil, er, nd, fun a => by simp⟩
  | .v x :: r, _, σ, env, env', A, as, .v hx hr, er, nd, e => by
    obtain ⟨⟨as1, env1⟩, e1, e2⟩ := Option.map_eq_some_iff.mp e
    cases e2
    obtain ⟨Aa, Ar, h1, h2, h3, h4⟩ := take_ok hr er nd e1
    exact ⟨Aa, Ar, .cons (.d hx) h1, h2, h3, h4⟩
  | .f nm :: r, _, σ, env, env', A, as, .f hx hr, er, nd, e => by
    obtain ⟨⟨as1, env1⟩, e1, e2⟩ := Option.map_eq_some_iff.mp e
    cases e2
    obtain ⟨Aa, Ar, h1, h2, h3, h4⟩ := take_ok hr er nd e1
    exact ⟨Aa, Ar, .cons (.f hx) h1, h2, h3, h4⟩
  | .s j :: r, _, σ, env, env', A, as, .s (v := u) hv hr, er, nd, e => by
    rw [takeA] at e
    split at e
    · cases e
    · cases e
    · rename_i s hs hne
      obtain ⟨⟨as1, env1⟩, e1, e2⟩ := Option.map_eq_some_iff.mp e
      cases e2
      obtain ⟨v, A1, A2, A3, g1, g2, g3, g4⟩ := env_at j er hne (fun z => hs z)
      rw [hv] at g1
      cases g1
      have nd' : (A1 ++ A2 ++ A3).Nodup := g3 ▸ nd
      have n1 := List.nodup_append.mp nd'
      have n2 := List.nodup_append.mp n1.1
      have er1 := g4 (B' := B) (H' := H) (s' := some u) (e' := .un) (A2' := []) (.inl ⟨rfl, rfl⟩) ⟨Same.refl B, fun _ _ _ e => e, fun _ _ e => e⟩
      rw [set_self hv] at er1
      rw [List.append_nil] at er1
      have nd1 : (A1 ++ A3).Nodup := List.nodup_append.mpr ⟨n2.1, n1.2.1, fun a ha b hb => n1.2.2 a (List.mem_append_left _ ha) b hb⟩
      obtain ⟨Aa, Ar, h1, h2, h3, h4⟩ := take_ok hr er1 nd1 e1
      refine ⟨A2 ++ Aa, Ar, .cons g2 h1, h2, ?_, fun a => ?_⟩
      · rw [List.append_assoc]
        refine List.nodup_append.mpr ⟨n2.2.1, h3, fun a ha b hb q => ?_⟩
        have : b ∈ A1 ++ A3 := (h4 b).mpr (List.mem_append.mp hb)
        rcases List.mem_append.mp this with z | z
        · exact n2.2.2 b z a ha q.symm
        · exact n1.2.2 a (List.mem_append_right _ ha) b z q
      · rw [g3]
        have := h4 a
        simp only [List.mem_append] at this ⊢
        constructor
        · rintro ((z | z) | z)
          · exact (this.mp (.inl z)).imp .inr id
          · exact .inl (.inl z)
          · exact (this.mp (.inr z)).imp .inr id
        · rintro ((z | z) | z)
          · exact .inl (.inr z)
          · exact (this.mpr (.inl z)).imp .inl id
          · exact (this.mpr (.inr z)).imp .inl id
theorem put_ok {B0 : Hp} : ∀ {avs : List AV} {vs : List V} {σ : St} {env : Env} {Ar Ao : List Addr} {outs : List Sl}, AVs K cls B0 σ vs avs → EnvR K cls B H σ env Ar → EnvR K cls B H (vs.map some) outs Ao → (Ao ++ Ar).Nodup →
    ∃ A', EnvR K cls B H σ (putA avs outs env) A' ∧ A'.Nodup ∧ ∀ a ∈ A', a ∈ Ao ∨ a ∈ Ar
  | [], _, σ, env, Ar, Ao, outs, .nil, er, eo, nd => by
    cases eo
    exact ⟨Ar, er, nd, fun a h => .inr h⟩
  | .v x :: r, _, σ, env, Ar, Ao, outs, .v hx hr, er, eo, nd => by
    cases eo with
    | un eo => exact put_ok (avs := r) hr er eo nd
    | cons o eo =>
      rw [List.append_assoc] at nd
      obtain ⟨A', h1, h2, h3⟩ := put_ok (avs := r) hr er eo (List.nodup_append.mp nd).2.1
      exact ⟨A', h1, h2, fun a ha => (h3 a ha).imp (List.mem_append_right _) id⟩
  | .f nm :: r, _, σ, env, Ar, Ao, outs, .f hx hr, er, eo, nd => by
    cases eo with
    | un eo => exact put_ok (avs := r) hr er eo nd
    | cons o eo =>
      rw [List.append_assoc] at nd
      obtain ⟨A', h1, h2, h3⟩ := put_ok (avs := r) hr er eo (List.nodup_append.mp nd).2.1
      exact ⟨A', h1, h2, fun a ha => (h3 a ha).imp (List.mem_append_right _) id⟩
  | .s j :: r, _, σ, env, Ar, Ao, outs, .s (v := u) hv hr, er, eo, nd => by
    cases eo with
    | un eo =>
      obtain ⟨A', h1, h2, h3⟩ := put_ok (avs := r) hr er eo nd
      obtain ⟨A2, g1, g2, g3⟩ := env_set j (s' := some u) (e' := .un) (A2 := []) h1 (.inl ⟨rfl, rfl⟩) (fun _ z => nomatch z) h2 List.nodup_nil
      rw [set_self hv] at g1
      exact ⟨A2, g1, g2, fun a ha => (g3 a ha).elim (h3 a) fun z => nomatch z⟩
    | cons o eo =>
      rename_i e outs1 A1 A2
      rw [List.append_assoc] at nd
      obtain ⟨n1, n2, n3⟩ := List.nodup_append.mp nd
      obtain ⟨A', h1, h2, h3⟩ := put_ok (avs := r) hr er eo n2
      obtain ⟨A3, g1, g2, g3⟩ := env_set j (s' := some u) (e' := e) (A2 := A1) h1 (.inr ⟨_, rfl, o⟩) (fun a ha hb => n3 a ha a (List.mem_append.mpr (h3 a hb)) rfl) h2 n1
      rw [set_self hv] at g1
      refine ⟨A3, g1, g2, fun a ha => (g3 a ha).elim (fun z => (h3 a z).imp (List.mem_append_right _) id) fun z => .inl (List.mem_append_left _ z)⟩
end

/-! ### a def's promise by its mirror -/
def spM (xb : Bool) (K : Fg) (cls : Str → Option Addr) (m : List Sl → RF) : Sp := fun vs H Q E => ∃ B args A, Same B H ∧ EnvR K cls B H (vs.map some) args A ∧ A.Nodup ∧ match m args with
  | .ok r outs => ∀ v B' H' A1 A2, Tr B H A B' H' (A1 ++ A2) → Same B' H' → EnvR K cls B' H' (vs.map some) outs A1 → A1.Nodup → Own K cls B' H' r v A2 → A2.Nodup → (∀ a ∈ A2, a ∉ A1) → Q v H'
  | .ex c x outs => xb = true ∧ ∀ cl d B' H' A1, Tr B H A B' H' A1 → Same B' H' → EnvR K cls B' H' (vs.map some) outs A1 → A1.Nodup → XcR ⟨K, cls, [], none⟩ B' H' cl d c x → E cl d H'
  | .no => False
/-- the parameters' slots behind the body: those that always hold what was handed in -/
def mask (pins : List Nat) : Nat → Nat → Env → List Sl
  | _, 0, _ => []
  | j, n + 1, [] => .un :: mask pins (j + 1) n []
  | j, n + 1, e :: env => (if j ∈ pins then e else .un) :: mask pins (j + 1) n env
def runF (n N : Nat) (pins : List Nat) (body : Env → RS) (args : List Sl) : RF :=
  if args.length = n then match body (args ++ List.replicate (N - n) .un) with
  | .nx e => .ok (.d .none) (mask pins 0 n e)
  | .rt r e => .ok r (mask pins 0 n e)
  | .ex c x e => .ex c x (mask pins 0 n e)
  | _ => .no
  else .no
section
variable {K : Fg} {cls : Str → Option Addr} {B H : Hp}
theorem mask_ok {pins : List Nat} : ∀ (vs : List V) (j : Nat) {σ : St} {env : Env} {A : List Addr}, EnvR K cls B H σ env A → (∀ i, i < vs.length → j + i ∈ pins → σ[i]? = (vs.map some)[i]?) →
    ∃ A1, EnvR K cls B H (vs.map some) (mask pins j vs.length env) A1 ∧ A1.Sublist A
  | [], j, σ, env, A, er, hp => ⟨[], .nil, List.nil_sublist _⟩
  | v :: vs, j, _, _, _, .nil, hp => by
    obtain ⟨A1, h1, h2⟩ := mask_ok (pins := pins) vs (j + 1) (σ := []) (env := []) (A := []) .nil fun i hi hm => by
      have := hp (i + 1) (by simpa using hi) (by rw [show j + (i + 1) = j + 1 + i by omega]; exact hm)
      simpa using this
    exact ⟨A1, .un h1, h2⟩
  | v :: vs, j, _, _, _, .un er, hp => by
    obtain ⟨A1, h1, h2⟩ := mask_ok vs (j + 1) er fun i hi hm => by
      have := hp (i + 1) (by simpa using hi) (by rw [show j + (i + 1) = j + 1 + i by omega]; exact hm)
      simpa using this
    refine ⟨A1, ?_, h2⟩
    show EnvR K cls B H (some v :: vs.map some) ((if j ∈ pins then Sl.un else .un) :: mask pins (j + 1) vs.length _) A1
    rw [ite_self]
    exact .un h1
  | v :: vs, j, _, _, _, .cons (v := u) (A1 := Ah) (A2 := At) o er, hp => by
    obtain ⟨A1, h1, h2⟩ := mask_ok vs (j + 1) er fun i hi hm => by
      have := hp (i + 1) (by simpa using hi) (by rw [show j + (i + 1) = j + 1 + i by omega]; exact hm)
      simpa using this
    by_cases hj : j ∈ pins
    · have e := hp 0 (by simp) (by simpa using hj)
      simp at e
      subst e
      refine ⟨Ah ++ A1, ?_, List.Sublist.append (List.Sublist.refl _) h2⟩
      show EnvR K cls B H (some u :: vs.map some) ((if j ∈ pins then _ else Sl.un) :: mask pins (j + 1) vs.length _) _
      rw [if_pos hj]
      exact .cons o h1
    · refine ⟨A1, ?_, h2.trans (List.sublist_append_right _ _)⟩
      show EnvR K cls B H (some v :: vs.map some) ((if j ∈ pins then _ else Sl.un) :: mask pins (j + 1) vs.length _) _
      rw [if_neg hj]
      exact .un h1
theorem env_uns : ∀ n : Nat, EnvR K cls B H (List.replicate n none) (List.replicate n .un) []
  | 0 => .nil
  | n + 1 => .un (env_uns n)
theorem env_app {σ : St} {env : Env} {A : List Addr} (n : Nat) (h : EnvR K cls B H σ env A) : EnvR K cls B H (σ ++ List.replicate n none) (env ++ List.replicate n .un) A := by
  induction h with
  | nil => exact env_uns n
  | un h ih => exact .un ih
  | cons o h ih => exact .cons o ih
end
/-- what is wanted of an exception, by the layer's word -/
def wOf (x : Bool) (E : XK) : Option WX := if x then some (fun cl d _ H => E cl d H) else none
/-- THE RULE for a def: its body does what the mirror's body does -/
theorem fnM {x : Bool} {P : Program} {w : World} {K : Fg} {cls : Str → Option Addr} {mg : Str → Option Value} {base : Heap} {CX : CXT} {k n : Nat} {f : Addr} {nm qual : Str} {st : Stmt} {fd : FuncData} {N ps : List Str} {pins : List Nat} {body : Env → RS}
    (F : Fun K nm qual st f fd) (S : FnScope N ps (defScope st)) (hn : ps.length = n) (hN : n ≤ N.length)
    (go : ∀ (cdv : Value) (A : Around) (outer : List PySem.Env) (s : Shared) (H : Hp) (E : XK), A.guards = some [] → Room k (A.deeper (envOfC qual (defScope st) s.heap.objs.size f cdv)) →
      PSs (cxOf CX P w K mg base N qual (defScope st) f cdv A outer s H E) (defBody st) (tsS ⟨K, cls, pins, wOf x E⟩ body)) : FnG P w K mg base CX (k + 1) f fd ps (spM x K cls (runF n N.length pins body)) := by
  have hlen : ∀ vs H Q E, spM x K cls (runF n N.length pins body) vs H Q E → vs.length = n := fun vs H Q E ⟨B, args, A, s, er, nd, h⟩ => by
    have := env_len er
    rw [List.length_map] at this
    by_cases hc : args.length = n
    · omega
    · rw [show runF n N.length pins body args = .no from if_neg hc] at h
      exact h.elim
  refine fnG_of F S (fun vs H Q E h => (hlen vs H Q E h).trans hn.symm) fun cdv A outer s H vs Q E hg hr h => ⟨_, go cdv A outer s H E hg hr, ?_⟩
  have hl := hlen _ _ _ _ h
  obtain ⟨B, args, A0, sb, er, nd, h⟩ := h
  have hla : args.length = n := by
    have := env_len er
    rw [List.length_map] at this
    omega
  have eS : L2.start N vs = vs.map some ++ List.replicate (N.length - n) none := by unfold L2.start; rw [hl]
  refine ⟨B, args ++ List.replicate (N.length - n) .un, A0, ⟨sb, by rw [eS]; exact env_app _ er, nd⟩, ?_⟩
  have outs : ∀ {σ' : St} {B' H' : Hp} {env' : Env} {A' : List Addr}, Pin ⟨K, cls, pins, wOf x E⟩ (L2.start N vs) σ' → Good ⟨K, cls, pins, wOf x E⟩ B' H' σ' env' A' → ∃ A1, EnvR K cls B' H' (vs.map some) (mask pins 0 n env') A1 ∧ A1.Sublist A' := fun {σ' B' H' env' A'} hp g => by
    rw [← hl]
    refine mask_ok vs 0 g.er fun i hi hm => ?_
    rw [Nat.zero_add] at hm
    rw [hp i hm, eS, List.getElem?_append_left (by rw [List.length_map]; exact hi)]
  have hR : runF n N.length pins body args = (match body (args ++ List.replicate (N.length - n) .un) with
    | .nx e => .ok (.d .none) (mask pins 0 n e)
    | .rt r e => .ok r (mask pins 0 n e)
    | .ex c x e => .ex c x (mask pins 0 n e)
    | _ => .no) := if_pos hla
  rw [hR] at h
  cases eb : body (args ++ List.replicate (N.length - n) .un) with
  | nx e =>
    simp only [eb] at h
    intro σ' B' H' A' hp t g
    obtain ⟨A1, h1, h2⟩ := outs hp g
    exact h .non B' H' A1 [] (by rw [List.append_nil]; exact t.less fun a ha => h2.subset ha) g.bh h1 (g.nd.sublist h2) (.d .non) List.nodup_nil fun _ z => nomatch z
  | rt r e =>
    simp only [eb] at h
    intro v σ' B' H' A' A2 hp t g o n2 d
    obtain ⟨A1, h1, h2⟩ := outs hp g
    refine h v B' H' A1 A2 (t.less fun a ha => ?_) g.bh h1 (g.nd.sublist h2) o n2 fun a ha hb => d a ha (h2.subset hb)
    exact (List.mem_append.mp ha).elim (fun z => List.mem_append_left _ (h2.subset z)) fun z => List.mem_append_right _ z
  | ex c y e =>
    simp only [eb] at h
    cases x with
    | false => exact Bool.noConfusion h.1
    | true =>
      refine ⟨_, rfl, fun cl d σ' B' H' A' hp t g xr => ?_⟩
      obtain ⟨A1, h1, h2⟩ := outs hp g
      exact h.2 cl d B' H' A1 (t.less fun a ha => h2.subset ha) g.bh h1 (g.nd.sublist h2) xr
  | bk e => simp only [eb] at h
  | ct e => simp only [eb] at h
  | no => simp only [eb] at h
end BV

/-! BV10: calls of defs, lists that change. -/
namespace BV
open PySem PySem.Spec PyProof.Rows L2

def rAV (K : Fg) (cls : Str → Option Addr) (σ : St) : Hp → Hp → List AV → List V → List Addr → Prop := fun B _ avs vs A2 => A2 = [] ∧ AVs K cls B σ vs avs
theorem rAV_nil {K : Fg} {cls : Str → Option Addr} {σ : St} : ∀ B H x v A2, rAV K cls σ B H x v A2 → A2 = [] := fun _ _ _ _ _ h => h.1
def taA (T : Tb) (m : Env → RE (List AV)) : TA := fun σ H Q => gen T (rAV T.K T.cls σ) m σ H Q
def vNil : Env → RE (List AV) := fun env => .ok [] env
def vCons (m : Env → RE D) (r : Env → RE (List AV)) : Env → RE (List AV) := fun env => (m env).bind fun x env => (r env).bind fun as env => .ok (.v x :: as) env
/-- the slot i has something known -/
def hasS (i : Nat) (env : Env) : RE Unit := match env[i]? with
  | none => .no
  | some .un => .no
  | some _ => .ok () env
def vSlot (i : Nat) (r : Env → RE (List AV)) : Env → RE (List AV) := fun env => (hasS i env).bind fun _ env => (r env).bind fun as env => .ok (.s i :: as) env
section
variable {X : Cx} {T : Tb} {e : Expr} {es : List Expr} {m : Env → RE D} {ms : Env → RE (List AV)}
theorem gB_has {α β : Type} {R : Hp → Hp → α → β → List Addr → Prop} {i : Nat} {k : Env → RE α} {B : Hp} {σ : St} {H : Hp} {Q : β → Hp → Prop} (h : gen T R (fun env => (hasS i env).bind fun _ env => k env) σ H Q) : ∃ v, σ[i]? = some (some v) ∧ gen T R k σ H Q := by
  obtain ⟨B, env, A, g, h⟩ := h
  unfold hasS at h
  dsimp only at h
  split at h
  · exact h.elim
  · exact h.elim
  · rename_i s hs hne
    obtain ⟨v, _, _, _, h1, _⟩ := env_at i g.er hne (fun z => hs z)
    exact ⟨v, h1, B, env, A, g, h⟩
theorem bv_nil : PA X [] (taA T vNil) := paw pa_nil fun σ H Q ⟨B, h⟩ => gB_ok h ⟨rfl, .nil⟩
theorem bv_cons (h : PE X e (teD T m)) (hr : PA X es (taA T ms)) (hs : starEach (e :: es) X.env = (false, eval e X.env) :: starEach es X.env := by rfl) : PA X (e :: es) (taA T (vCons m ms)) :=
  paw (pa_cons h hr hs) fun σ H Q h => gen_mono (seqE (R1 := rD T.K) h rD_nil) fun v H1 ⟨x, B1, ⟨_, hx⟩, h1⟩ =>
    gB_mono (seqB (R1 := rAV T.K T.cls σ) h1 rAV_nil) fun vs H2 ⟨as, B2, sb, ⟨_, hxs⟩, h2⟩ => gB_ok h2 ⟨rfl, .v (dp_mono sb _ _ hx) hxs⟩
theorem bv_slot {i : Nat} (h : PE X e (tVar i)) (hr : PA X es (taA T ms)) (hs : starEach (e :: es) X.env = (false, eval e X.env) :: starEach es X.env := by rfl) : PA X (e :: es) (taA T (vSlot i ms)) :=
  paw (pa_cons h hr hs) fun σ H Q h => by
    obtain ⟨v, hv, h1⟩ := gB_has (B := H) h
    exact ⟨v, hv, gen_mono (seqE (R1 := rAV T.K T.cls σ) h1 rAV_nil) fun vs H2 ⟨as, B2, ⟨_, hxs⟩, h2⟩ => gB_ok h2 ⟨rfl, .s hv hxs⟩⟩
/-- a def's call by its mirror; eCall0: of one that raises nothing -/
def backA (x : Bool) (avs : List AV) (env : Env) : RF → RE Sl
  | .ok r outs => .ok r (putA avs outs env)
  | .ex c y outs => if x then .ex c y (putA avs outs env) else .no
  | .no => .no
def eCall (x : Bool) (F : List Sl → RF) (ms : Env → RE (List AV)) : Env → RE Sl := fun env => (ms env).bind fun avs env => match takeA avs env with
  | none => .no
  | some q => backA x avs q.2 (F q.1)
theorem call_go {x : Bool} {F : List Sl → RF} {E : St → XK} (hE : x = true → ∃ W, T.W = some W ∧ E = WE W) {σ : St} {H : Hp} {Q : VK} (h : teN T (eCall x F ms) σ H Q) : tCallG (spM x T.K T.cls F) E (taA T ms) σ H Q := by
  refine gen_mono (seqE (R1 := rAV T.K T.cls σ) h rAV_nil) fun vs H1 ⟨avs, B1, ⟨_, ha⟩, env, A, g, h1⟩ => ?_
  dsimp only at h1
  cases et : takeA avs env with
  | none => simp only [et] at h1; exact h1.elim
  | some q =>
    obtain ⟨as, env1⟩ := q
    simp only [et] at h1
    obtain ⟨Aa, Ar, r1, r2, nd, mem⟩ := take_ok ha g.er g.nd et
    obtain ⟨n1, n2, n3⟩ := List.nodup_append.mp nd
    refine ⟨B1, as, Aa, g.bh, r1, n1, ?_⟩
    -- what is behind the call
    have back : ∀ {B' H' : Hp} {A1 A2 : List Addr} {outs : List Sl}, Tr B1 H1 Aa B' H' (A1 ++ A2) → EnvR T.K T.cls B' H' (vs.map some) outs A1 → A1.Nodup → (∀ a ∈ A2, a ∉ A1) →
        ∃ A', EnvR T.K T.cls B' H' σ (putA avs outs env1) A' ∧ A'.Nodup ∧ Tr B1 H1 A B' H' (A' ++ A2) ∧ ∀ a ∈ A2, a ∉ A' := fun {B' H' A1 A2 outs} t eo no dj => by
      have kn : ∀ a ∈ Ar, H1 a ≠ none := fun a h => (env_known r2 a h).1
      have off : ∀ a, a ∈ A1 ++ A2 → a ∉ Ar := fun a h z => (t.na a h).elim (fun w => n3 a w a z rfl) (kn a z)
      have r3 := env_keep r2 (t.keeps (R := Ar) (fun a h z => n3 a z a h rfl) kn)
      obtain ⟨A', e1, e2, e3⟩ := put_ok ha r3 eo (List.nodup_append.mpr ⟨no, n2, fun a ha b hb q => off a (List.mem_append_left _ ha) (q ▸ hb)⟩)
      refine ⟨A', e1, e2, (t.widen (R := Ar)).perm (fun a => by rw [mem a, List.mem_append]) fun a h => ?_, fun a h z => (e3 a z).elim (dj a h) (off a (List.mem_append_right _ h))⟩
      rcases List.mem_append.mp h with z | z
      · exact (e3 a z).elim (fun w => List.mem_append_left _ (List.mem_append_left _ w)) fun w => List.mem_append_right _ w
      · exact List.mem_append_left _ (List.mem_append_right _ z)
    cases eF : F as with
    | ok r outs =>
      simp only [eF, backA] at h1
      intro v B' H' A1 A2 t s' eo no o2 nd2 dj
      obtain ⟨A', e1, e2, e3, e4⟩ := back t eo no dj
      exact h1 v B' H' A' A2 e3 ⟨s', e1, e2⟩ o2 nd2 e4
    | ex c y outs =>
      simp only [eF, backA] at h1
      cases x with
      | false => exact h1.elim
      | true =>
        obtain ⟨W, e1, e2⟩ := hE rfl
        obtain ⟨W', e1', h1⟩ := h1
        rw [e1] at e1'
        cases e1'
        subst e2
        refine ⟨rfl, fun cl d B' H' A1 t s' eo no xr => ?_⟩
        obtain ⟨A', f1, f2, f3, _⟩ := back (A2 := []) (by rw [List.append_nil]; exact t) eo no fun _ z => nomatch z
        rw [List.append_nil] at f3
        exact h1 cl d B' H' A' f3 ⟨s', f1, f2⟩ xr
    | no => simp only [eF, backA] at h1; exact h1.elim
theorem bn_call {x : Bool} {F : List Sl → RF} {E : St → XK} (hE : x = true → ∃ W, T.W = some W ∧ E = WE W) (h : PE X e (tCallG (spM x T.K T.cls F) E (taA T ms))) : PE X e (teN T (eCall x F ms)) := pew h fun σ H Q q => call_go hE q
/-- .. without arguments -/
theorem bn_call0 {x : Bool} {F : List Sl → RF} {E : St → XK} (hE : x = true → ∃ W, T.W = some W ∧ E = WE W) (h : PE X e (tCallG (spM x T.K T.cls F) E tNil)) : PE X e (teN T (eCall x F vNil)) := pew h fun σ H Q q => by
  have := call_go (ms := vNil) hE q
  obtain ⟨B, env, A, g, z⟩ := this
  exact z [] B H A [] (by simpa using Tr.refl) g ⟨rfl, .nil⟩ List.nodup_nil fun _ w => nomatch w
end
end BV

/-! BV11: lists that change; x op= e; the end of a law. -/
namespace BV
open PySem PySem.Spec PyProof.Rows L2

section
variable {T : Tb} {σ : St}
/-- an owned list written anew -/
theorem own_write {B H : Hp} {env : Env} {A : List Addr} {i : Nat} {xs : List D} (g : Good T B H σ env A) (h : env[i]? = some (.l xs)) : ∃ p vs, σ[i]? = some (some (.ref p)) ∧ H p = some (.lst vs) ∧ DqAll T.K B vs xs ∧
    ∀ ws ys, DqAll T.K B ws ys → Good T B (upd H p (.lst ws)) σ (env.set i (.l ys)) A ∧ Tr B H A B (upd H p (.lst ws)) A := by
  obtain ⟨v, A1, A2, A3, h1, h2, h3, h4⟩ := env_at i g.er h (fun z => nomatch z)
  cases h2 with
  | l b1 b2 b3 =>
    rename_i vs p
    have nd : (A1 ++ [p] ++ A3).Nodup := h3 ▸ g.nd
    have dis : ∀ a ∈ A1 ++ A3, a ≠ p := fun a ha z => by
      subst z
      simp only [List.append_assoc, List.singleton_append] at nd
      have n2 := List.nodup_append.mp nd
      rcases List.mem_append.mp ha with q | q
      · exact n2.2.2 a q a (by simp) rfl
      · exact (List.nodup_cons.mp n2.2.1).1 q
    refine ⟨p, vs, h1, b2, b3, fun ws ys d => ?_⟩
    have er := h4 (B' := B) (H' := upd H p (.lst ws)) (s' := some (.ref p)) (e' := .l ys) (A2' := [p]) (.inr ⟨_, rfl, .l b1 upd_same d⟩) ⟨Same.refl B, fun a o ha e => by rw [upd_ne (dis a ha)]; exact e, fun _ _ z => z⟩
    rw [set_self h1, ← h3] at er
    exact ⟨⟨fun a o e => by rw [upd_ne (ne_of_none e b1)]; exact g.bh a o e, er, g.nd⟩, tr_write (by rw [h3]; simp) (ne_none_of b2)⟩
end
def isL (i : Nat) (env : Env) : RE Unit := match env[i]? with
  | some (.l _) => .ok () env
  | _ => .no
/-- the owned list in slot i is changed by f -/
def updL (i : Nat) (f : List D → Option (List D)) (env : Env) : RS := match env[i]? with
  | some (.l xs) => match f xs with
    | some ys => .nx (env.set i (.l ys))
    | none => .no
  | _ => .no
def app1 (x : D) (xs : List D) : Option (List D) := if xs.length < 16777216 then some (xs ++ [x]) else none
/-- x.append(e) -/
def sApp (i : Nat) (m : Env → RE D) : Env → RS := fun env => bindS (isL i env) fun _ env => bindS (m env) fun x env => updL i (app1 x) env
/-- x[k] = e -/
def setAt (k v : D) (xs : List D) : Option (List D) := match k with
  | .int k => (ixN xs.length k).map fun j => xs.set j v
  | _ => none
def sSetIx (i : Nat) (k e : Env → RE D) : Env → RS := fun env => bindS (e env) fun v env => bindS (isL i env) fun _ env => bindS (k env) fun k env => updL i (setAt k v) env
/-- x.extend(e), e a list -/
def ext1 (x : D) (xs : List D) : Option (List D) := match x with
  | .list ys => if xs.length + ys.length ≤ 16777216 then some (xs ++ ys) else none
  | _ => none
def sExt (i : Nat) (m : Env → RE D) : Env → RS := fun env => bindS (isL i env) fun _ env => bindS (m env) fun x env => updL i (ext1 x) env
section
variable {X : Cx} {T : Tb} {st : Stmt} {m mk me : Env → RE D} {i : Nat}
theorem sB_isL {k : Env → RS} {B : Hp} {D : Ends} {σ : St} {H : Hp} (h : sB T (fun env => bindS (isL i env) fun _ env => k env) B D σ H) : ∃ p vs, σ[i]? = some (some (.ref p)) ∧ H p = some (.lst vs) ∧ sB T k B D σ H := by
  obtain ⟨env, A, g, h⟩ := h
  unfold isL at h
  dsimp only at h
  split at h
  · rename_i xs hx
    obtain ⟨p, vs, h1, h2, _⟩ := good_own g hx
    exact ⟨p, vs, h1, h2, env, A, g, h⟩
  · exact h.elim
theorem sB_updL {f : List D → Option (List D)} {B : Hp} {Dn : Ends} {σ : St} {H : Hp} (h : sB T (updL i f) B Dn σ H) : ∃ p vs xs ys, σ[i]? = some (some (.ref p)) ∧ H p = some (.lst vs) ∧ Same B H ∧ DqAll T.K B vs xs ∧ f xs = some ys ∧ ∀ ws, DqAll T.K B ws ys → Dn.nx σ (upd H p (.lst ws)) := by
  obtain ⟨env, A, g, h⟩ := h
  unfold updL at h
  split at h
  · rename_i xs hx
    split at h
    · rename_i ys hy
      obtain ⟨p, vs, h1, h2, h3, h4⟩ := own_write g hx
      exact ⟨p, vs, xs, ys, h1, h2, g.bh, h3, hy, fun ws d => h σ B _ A Pin.refl (h4 ws ys d).2 (h4 ws ys d).1⟩
    · exact h.elim
  · exact h.elim
theorem bs_app (h : PS X st (tDrop (tBM X.K "list" rAppend (tVar i) (tCons (teD T m) tNil)))) : PS X st (tsS T (sApp i m)) := psw h fun D σ H ⟨B, h⟩ => by
  obtain ⟨p, vs, h1, h2, h3⟩ := sB_isL h
  refine ⟨_, h1, .inl ⟨rfl, vs, SqL.of h2⟩, gB_mono (seqSB (R1 := rD T.K) h3 rD_nil) fun v H1 ⟨x, B1, _, ⟨_, hx⟩, h4⟩ => ?_⟩
  obtain ⟨q, ws, xs, ys, g1, g2, s, g3, g4, g5⟩ := sB_updL h4
  rw [h1] at g1
  cases g1
  unfold app1 at g4
  split at g4
  · rename_i hl
    cases g4
    exact ⟨p, ws, v, rfl, rfl, g2, lt_lim (by rw [dps_length g3]; exact hl), g5 _ (dps_app g3 (dps_one hx))⟩
  · cases g4
theorem bs_ext (h : PS X st (tDrop (tBM X.K "list" rExtend (tVar i) (tCons (teD T m) tNil)))) : PS X st (tsS T (sExt i m)) := psw h fun D σ H ⟨B, h⟩ => by
  obtain ⟨p, vs, h1, h2, h3⟩ := sB_isL h
  refine ⟨_, h1, .inl ⟨rfl, vs, SqL.of h2⟩, gB_mono (seqSB (R1 := rD T.K) h3 rD_nil) fun v H1 ⟨x, B1, _, ⟨_, hx⟩, h4⟩ => ?_⟩
  obtain ⟨q, ws, xs, ys, g1, g2, s, g3, g4, g5⟩ := sB_updL h4
  rw [h1] at g1
  cases g1
  cases x with
  | list zs =>
    replace g4 : (if xs.length + zs.length ≤ 16777216 then some (xs ++ zs) else none) = some ys := g4
    split at g4
    · rename_i hl
      cases g4
      obtain ⟨b, us, rfl, k1, k2⟩ := (show Pk T.K B1 H1 v (.list zs) from .inl hx).items s
      exact ⟨p, b, ws, us, rfl, rfl, g2, k1, le_lim (by rw [dps_length g3, dps_length k2]; exact hl), g5 _ (dps_app g3 k2)⟩
    · cases g4
  | _ => cases g4
theorem bs_setIx (h : PS X st (tAsg (teD T me) (gSub (tVar i) (teD T mk) rSetL))) : PS X st (tsS T (sSetIx i mk me)) := psw h fun D σ H h => gen_mono (seqSE (R1 := rD T.K) h rD_nil) fun v H1 ⟨x, B1, ⟨_, hx⟩, h1⟩ => by
  obtain ⟨p, vs, g1, g2, h3⟩ := sB_isL h1
  refine ⟨_, g1, gB_mono (seqSB (R1 := rD T.K) h3 rD_nil) fun u H2 ⟨k, B2, sb, ⟨_, hk⟩, h4⟩ => ?_⟩
  obtain ⟨q, ws, xs, ys, e1, e2, s, e3, e4, e5⟩ := sB_updL h4
  rw [g1] at e1
  cases e1
  cases k with
  | int k =>
    cases hk
    obtain ⟨j, f1, rfl⟩ := Option.map_eq_some_iff.mp e4
    exact ⟨p, ws, k, j, rfl, rfl, e2, by rw [dps_length e3]; exact f1, e5 _ (dps_set j e3 (dp_mono sb _ _ hx))⟩
  | _ => cases e4
/-- x op= e, data -/
def sAug (pins : List Nat) (i : Nat) (f : D → D → Option D) (m : Env → RE D) : Env → RS := fun env => bindS (eVar i env) fun x env => bindS (m env) fun y env => bindS (lft (f x y) env) fun z env => if i ∈ pins then .no else .nx (env.set i (.d z))
theorem bs_aug {r : R2} {f : D → D → Option D} (hr : DOp T.K r f) (h : PS X st (tAug i (teD T m) r)) : PS X st (tsS T (sAug T.pins i f m)) := psw h fun Dn σ H ⟨B, env, A, g, h⟩ => by
  have go : ∀ {x : D} {env1 : Env} {v : V} {B1 : Hp} {A1 : List Addr}, eVar i env = .ok x env1 → σ[i]? = some (some v) → Dq T.K B1 v x → Good T B1 H σ env1 A1 → Tr B H A B1 H A1 → tAug i (teD T m) r Dn σ H := fun {x env1 v B1 A1} e1 hv hx g1 t1 => by
    simp only [sAug, e1, bindS] at h
    refine ⟨v, hv, gB_mono (seqSB (R1 := rD T.K) (D := Dn) (m := m) (k := fun y env => bindS (lft (f x y) env) fun z env => if i ∈ T.pins then .no else .nx (env.set i (.d z))) (B := B1) ⟨env1, A1, g1, evS.trans Pin.refl t1 h⟩ rD_nil) fun u H2 ⟨y, B2, sb, ⟨_, hy⟩, env2, A2, g2, h2⟩ => ?_⟩
    cases ef : f x y with
    | none => simp only [ef, lft, bindS] at h2; exact h2.elim
    | some z =>
      simp only [ef, lft, bindS] at h2
      split at h2
      · exact h2.elim
      · rename_i hp
        refine hr B2 H2 v u x y z _ g2.bh (dp_mono sb _ _ hx) (.inl hy) ef fun w B' H' t s' d => ?_
        have kp : Keeps B2 H2 B' H' A2 := t.keeps (fun _ _ => List.not_mem_nil) fun a ha => (env_known g2.er a ha).1
        obtain ⟨A', g', t'⟩ := store_d (T := T) (i := i) (v := w) (x := z) (⟨s', env_keep g2.er kp, g2.nd⟩ : Good T B' H' σ env2 A2) d
        exact h2 _ B' H' A' (pin_set hp) (t.widen0.trans t') g'
  unfold eVar at go
  cases ex : env[i]? with
  | none => simp only [sAug, eVar, ex, bindS] at h; exact h.elim
  | some s =>
    simp only [ex] at go
    cases s with
    | d x =>
      obtain ⟨v, hv, hx⟩ := good_at g ex
      exact go rfl hv hx g Tr.refl
    | l xs =>
      obtain ⟨v, B', A', hv, hx, g', t⟩ := good_frz g ex
      exact go rfl hv hx g' t
    | un => simp only [sAug, eVar, ex, bindS] at h; exact h.elim
    | k _ => simp only [sAug, eVar, ex, bindS] at h; exact h.elim
    | t _ => simp only [sAug, eVar, ex, bindS] at h; exact h.elim
    | o _ _ => simp only [sAug, eVar, ex, bindS] at h; exact h.elim
    | f _ => simp only [sAug, eVar, ex, bindS] at h; exact h.elim
end
end BV

/-! BV12: the end of a law row. -/
namespace BV
open PySem PySem.Spec PyProof.Rows L2

/-- the law's promise: a list of ints is handed in, True comes out -/
def spLaw (K : Fg) : Sp := fun vs H Q _ => ∃ (a : Addr) (ns : List Int), vs = [.ref a] ∧ SqL K H a (ns.map V.int) ∧ ns.length ≤ 63 ∧ ∀ H', Q (.bl true) H'
/-- the heap that knows the script alone -/
def scr (a : Addr) (ob : Obj) (ns : List Int) : Hp := fun b => if b = a then some (.frz ob (.lst (ns.map V.int))) else none
section
variable {P : Program} {w : World} {K : Fg} {mg mb : Str → Option Value} {k : Nat} {fa a : Addr} {fd : FuncData} {x : Str} {s₁ : Shared} {vs : List Value} {ns : List Int}
/-- the law is called, H the abstract heap: nothing but the script -/
theorem law_at {H : Hp} (KX : K.In s₁.heap) (gl : s₁.heap.Ns mainGlobals mg) (bl : s₁.heap.Ns builtinsNs mb) (bv : ∀ x : Str, x ≠ "__name__" → mb x = bootBuiltins x) (lim : s₁.heap.NoLimit) (g0 : s₁.gens = #[]) (hr : Room k callerA)
    (ho : ∃ n, s₁.heap.get? a = some ⟨.type "list", none, .seq vs.toArray n, #[]⟩) (hS : SqL K H a (ns.map V.int)) (hl : ns.length ≤ 63) (hH : H = (fun _ => none) ∨ ∃ ob, H = scr a ob ns) (hok : HOk P w H s₁.heap) (hK : H a ≠ none → K.lookup a = none)
    (F : ∀ base : Heap, K.In base → base.Ns mainGlobals mg → FnG P w K mg base CX0 k fa fd [x] (spLaw K)) (hbind : ∀ (s : Shared) (u : Value), BindsTo s fd ⟨[u], []⟩ [(x, u)]) :
    codeAny (model P w) callerA (.call (.ref fa) ⟨[.ref a], []⟩) (fun r s' => r = .ok (.ret (.bool true)) ∧ OldK s₁.heap s'.heap ∧ s'.os = s₁.os ∧ AllBare s'.gens) s₁ := by
  obtain ⟨n0, ha⟩ := ho
  have other : ∀ b, b ≠ a → H b = none := fun b hb => by
    rcases hH with rfl | ⟨ob, rfl⟩
    · rfl
    · exact if_neg hb
  have dict_free : ∀ {b : Addr} {o : Obj} {es : Array DictEntry} {ep : Nat}, s₁.heap.get? b = some o → o.data = .dict es ep → H b = none := fun {b o es ep} e d => other b fun q => by
    subst q
    rw [ha] at e
    cases e
    cases d
  have keepNs : ∀ {b : Addr} {m : Str → Option Value}, s₁.heap.Ns b m → (hidT s₁.heap H).Ns b m := fun h => let ⟨o, es, ep, e, d, r⟩ := h; ⟨o, es, ep, hidT_get e (dict_free e d), d, r⟩
  have KH : K.In (hidT s₁.heap H) := fun b o e => hidT_get (KX b o e) (by
    by_cases q : b = a
    · subst q
      cases h : H b with
      | none => rfl
      | some u => rw [hK (by rw [h]; exact fun z => nomatch z)] at e; cases e
    · exact other b q)
  have md : Mod K mg (hidT s₁.heap H) := ⟨KH, keepNs gl, ⟨mb, keepNs bl, bv⟩, by obtain ⟨mc, h1, h2⟩ := lim; exact ⟨mc, keepNs h1, h2⟩⟩
  have e0 : Env0 P w K mg (hidT s₁.heap H) callerA [] s₁ H := ⟨rfl, md, fun _ _ e => of_hidT e, Nat.le_of_eq (hidT_size _ _), trivial, (by intro b hb; cases hb), hok, AllBare.of_eq g0⟩
  have sp : spLaw K [.ref a] H (fun v _ => v = .bl true) (fun _ _ _ => False) := ⟨a, ns, rfl, hS, hl, fun _ => rfl⟩
  refine codeAny_mono ((F _ KH (keepNs gl)).run callerA [] s₁ H ⟨[.ref a], []⟩ [.ref a] [.ref a] _ _ rfl hr e0 (hbind s₁ (.ref a)) (.cons rfl .nil) sp) fun r s' h => ?_
  match r, h with
  | .error e, h => exact h.elim
  | .ok .next, h => exact h.elim
  | .ok .brk, h => exact h.elim
  | .ok .cont, h => exact h.elim
  | .ok (.ret u), ⟨v, H', eo, bare, un, hok', ru, ev⟩ =>
    subst ev
    cases ru
    refine ⟨rfl, .of_keep fun b o e => ?_, eo, bare⟩
    by_cases q : H b = none
    · exact un.keep b o e q (fun z => by cases z) (fun z => by cases z)
    · rcases hH with rfl | ⟨ob, rfl⟩
      · exact absurd rfl q
      · have hb : b = a := Classical.byContradiction fun z => q (if_neg z)
        subst hb
        have z1 : scr b ob ns b = some (.frz ob (.lst (ns.map V.int))) := if_pos rfl
        have f1 := (hok b _ z1).1
        have f2 := (hok' b _ (un.frzs b ob _ z1)).1
        rw [e] at f1
        cases f1
        exact f2
theorem law_callG (KX : K.In s₁.heap) (gl : s₁.heap.Ns mainGlobals mg) (bl : s₁.heap.Ns builtinsNs mb) (bv : ∀ x : Str, x ≠ "__name__" → mb x = bootBuiltins x) (lim : s₁.heap.NoLimit) (g0 : s₁.gens = #[]) (hr : Room k callerA)
    (ha : s₁.heap.get? a = some { cls := .type "list", data := .seq vs.toArray }) (hi : IntsAre vs ns) (hl : ns.length ≤ 63)
    (F : ∀ base : Heap, K.In base → base.Ns mainGlobals mg → FnG P w K mg base CX0 k fa fd [x] (spLaw K)) (hbind : ∀ (s : Shared) (u : Value), BindsTo s fd ⟨[u], []⟩ [(x, u)]) :
    codeAny (model P w) callerA (.call (.ref fa) ⟨[.ref a], []⟩) (fun r s' => r = .ok (.ret (.bool true)) ∧ OldK s₁.heap s'.heap ∧ s'.os = s₁.os ∧ AllBare s'.gens) s₁ := by
  have rv := L2.vals_ints hi
  have len := hi.length
  have hz : ns.length ≤ sizeLine := le_lim (by omega)
  cases hk : K.lookup a with
  | some o =>
    have e := KX a o hk
    rw [ha] at e
    cases e
    exact law_at (H := fun _ => none) KX gl bl bv lim g0 hr ⟨_, ha⟩ (.inr ⟨_, vs.toArray, _, hk, rfl, rfl, rfl, by rw [List.size_toArray, len]; exact hz, by rw [List.toList_toArray]; exact rv⟩) hl (.inl rfl) (fun b u z => by cases z) (fun z => absurd rfl z) F hbind
  | none =>
    let ob : Obj := { cls := .type "list", data := .seq vs.toArray }
    have z0 : scr a ob ns a = some (.frz ob (.lst (ns.map V.int))) := if_pos rfl
    refine law_at (H := scr a ob ns) KX gl bl bv lim g0 hr ⟨_, ha⟩ (.inl (.inr ⟨ob, z0⟩)) hl (.inr ⟨ob, rfl⟩) (fun b u z => ?_) (fun _ => hk) F hbind
    by_cases q : b = a
    · subst q
      rw [z0] at z
      cases z
      exact ⟨ha, by rw [List.length_map]; exact hz, vs, _, rv, ha⟩
    · rw [show scr a ob ns b = none from if_neg q] at z
      cases z
/-- the goal that k_head leaves -/
theorem walkG {l : PySem.W.OpenLaw} {k : Nat} {q : Program} {loose : List Str} {XP : (Str → Option Value) → Heap → Prop} {YP : World → Heap → Prop} {d : DefRec} {K : Params → Fg} {x : Str}
    (hn : l.most = some 63) (hdf : d.params.defaults = []) (hr : Room k callerA) (hY : ∀ (w : World) (h : Heap), YP w h → (K w.params).In h)
    (F : ∀ (w : World) (mg : Str → Option Value) (fa : Addr) (h : Heap), (K w.params).In h → h.Ns mainGlobals mg → mg d.name = some (.ref fa) →
      ∃ fd : FuncData, (∀ (s : Shared) (u : Value), BindsTo s fd ⟨[u], []⟩ [(x, u)]) ∧ ∀ base : Heap, (K w.params).In base → base.Ns mainGlobals mg → FnG l.prog w (K w.params) mg base CX0 k fa fd [x] (spLaw (K w.params))) :
    PySem.W.WalkO q loose XP YP l.row.toRowW d [] (fun f vs => PySem.call f vs) :=
  Att.attach_call hn hdf fun w s₀ s₁ mg mb fa o pm cd doc a vs ns G Y ho hd hcd hmg hobj hints hlen hg => by
    have KX := hY w _ Y
    obtain ⟨fd, hb, hF⟩ := F w mg fa _ KX G.T.g hmg
    exact law_callG KX G.T.g G.T.b G.T.builtins G.T.nolimit hg hr hobj hints hlen hF hb
end

/-! ### the draws' state -/
/-- the law's own state: the script's ints, what is left of the one at hand, the next place, the seed -/
def stD (ns : List Int) (c k s : Int) : List D := [.list (ns.map .int), .int c, .int k, .int s]
def spStart (K : Fg) : Sp := fun vs H Q _ => ∃ (a : Addr) (ns : List Int), vs = [.ref a] ∧ SqL K H a (ns.map V.int) ∧ ns.length ≤ 63 ∧
  ∀ (p q : Addr) (s : Int) (H' : Hp), 1 ≤ s → s ≤ 2147483629 → Same H H' → H p = none → H q = none → p ≠ q → H' q = some (.lst (ns.map V.int)) → H' p = some (.lst [.ref q, .int 0, .int 0, .int s]) → Q (.ref p) H'
/-- from the state that _law_start hands back: the rest of the law -/
theorem start_go {T : Tb} {N : Nat} {m : Env → RS} {a p q : Addr} {s : Int} {ns : List Int} {H' : Hp} {D : Ends} (ne : p ≠ q) (hq : H' q = some (.lst (ns.map V.int))) (hp : H' p = some (.lst [.ref q, .int 0, .int 0, .int s]))
    (hm : ∃ e, m (.un :: .l (stD ns 0 0 s) :: List.replicate N .un) = .rt (.d (.bool true)) e) (hD : ∀ H, D.rt (.bl true) H) : tsS T m D (some (.ref a) :: some (.ref p) :: List.replicate N none) H' := by
  let B : Hp := upd (fun _ => none) q (.lst (ns.map V.int))
  have bq : B q = some (.lst (ns.map V.int)) := upd_same
  have bp : B p = none := upd_ne ne
  have own : Own T.K T.cls B H' (.l (stD ns 0 0 s)) (.ref p) [p] := .l bp hp (.cons (.lst bq ints_dqs) (.cons (.int 0) (.cons (.int 0) (.cons (.int s) .nil))))
  obtain ⟨e, he⟩ := hm
  refine ⟨B, _, [p] ++ [], ⟨fun b o h => ?_, .un (.cons own (env_uns N)), by simp⟩, ?_⟩
  · by_cases z : b = q
    · subst z
      rw [bq] at h
      rw [hq]
      exact h
    · rw [show B b = none from upd_ne z] at h
      cases h
  · rw [he]
    intro v σ' B' H2 A' A2 _ _ _ o _ _
    cases o with
    | d h =>
      cases h
      exact hD H2
end BV

/-! BV13: what a generated text leans on: defs by their names, names of the module, methods of texts. -/
namespace BV
open PySem PySem.Spec PyProof.Rows L2

/-- no own error -/
abbrev cl0 : Str → Option Addr := fun _ => none
/-- a def of the module -/
structure DefF (K : Fg) (mg : Str → Option Value) (nm : Str) (st : Stmt) : Prop where
  ex : ∃ (f : Addr) (fd : FuncData), mg nm = some (.ref f) ∧ Fun K nm nm st f fd
/-- a def that may be called by its name: its mirror -/
structure Cal (x : Bool) (P : Program) (w : World) (K : Fg) (cls : Str → Option Addr) (mg : Str → Option Value) (base : Heap) (k : Nat) (nm : Str) (ps : List Str) (F : List Sl → RF) : Prop where
  ex : ∃ (f : Addr) (fd : FuncData), mg nm = some (.ref f) ∧ PySem.W.keepIn K (.ref f) = true ∧ Binds K fd ps [] ∧ FnG P w K mg base CX0 k f fd ps (spM x K cls F)
theorem calM {x : Bool} {P : Program} {w : World} {K : Fg} {cls : Str → Option Addr} {mg : Str → Option Value} {base : Heap} {k n : Nat} {nm : Str} {st : Stmt} {N ps : List Str} {pins : List Nat} {body : Env → RS}
    (F : DefF K mg nm st) (hb : ∀ (kV doc pm : Value) (an : Option Addr) (cdv ct : Value) (us : List Value), us.length = ps.length → bindArgs (PySem.W.fnOf nm nm (defArgs st) (defBody st) (defScope st) .none kV doc pm an cdv ct) ⟨us, []⟩ = pure (ps.zip us))
    (S : FnScope N ps (defScope st)) (hn : ps.length = n) (hN : n ≤ N.length)
    (go : ∀ (f : Addr) (cdv : Value) (A : Around) (outer : List PySem.Env) (s : Shared) (H : Hp) (E : XK), A.guards = some [] → Room k (A.deeper (envOfC nm (defScope st) s.heap.objs.size f cdv)) →
      PSs (cxOf CX0 P w K mg base N nm (defScope st) f cdv A outer s H E) (defBody st) (tsS ⟨K, cls, pins, wOf x E⟩ body)) : Cal x P w K cls mg base (k + 1) nm ps (runF n N.length pins body) := by
  obtain ⟨f, fd, h1, h2⟩ := F.ex
  exact ⟨f, fd, h1, h2.kp, h2.binds hb, fnM h2 S hn hN (go f)⟩
/-- .. no exception leaves it -/
theorem calN {P : Program} {w : World} {K : Fg} {cls : Str → Option Addr} {mg : Str → Option Value} {base : Heap} {k n : Nat} {nm : Str} {st : Stmt} {N ps : List Str} {pins : List Nat} {body : Env → RS}
    (F : DefF K mg nm st) (hb : ∀ (kV doc pm : Value) (an : Option Addr) (cdv ct : Value) (us : List Value), us.length = ps.length → bindArgs (PySem.W.fnOf nm nm (defArgs st) (defBody st) (defScope st) .none kV doc pm an cdv ct) ⟨us, []⟩ = pure (ps.zip us))
    (S : FnScope N ps (defScope st)) (hn : ps.length = n) (hN : n ≤ N.length)
    (go : ∀ (f : Addr) (cdv : Value) (A : Around) (outer : List PySem.Env) (s : Shared) (H : Hp) (E : XK), A.guards = some [] → Room k (A.deeper (envOfC nm (defScope st) s.heap.objs.size f cdv)) →
      PSs (cxOf CX0 P w K mg base N nm (defScope st) f cdv A outer s H E).nox (defBody st) (tsS ⟨K, cls, pins, none⟩ body)) : Cal false P w K cls mg base (k + 1) nm ps (runF n N.length pins body) :=
  calM F hb S hn hN fun f cdv A outer s H E hg hr => (go f cdv A outer s H E hg hr).nox
section
variable {X : Cx} {T : Tb} {e : Expr} {es : List Expr} {ms : Env → RE (List AV)} {k j : Nat} {nm : Str} {ps : List Str} {F : List Sl → RF} {p pos : Pos}
theorem bn_callC (C : Cal false X.prog X.w T.K T.cls X.mg X.base k nm ps F) (hK : X.K = T.K) (hgd : X.A.guards = some []) (hr : Room j X.A) (hk : k ≤ j) (hg : Gl X nm) (ha : PA X (e :: es) (taA T ms))
    (hdb : (nm == ("__debug__" : Str)) = false := by decide) (he : starEach (e :: es) X.env = (false, eval e X.env) :: starEach es X.env := by rfl) (hpl : (backTo pos (starEach es X.env)).any (·.1) = false := by rfl) : PE X (.Call (.Name nm p) (e :: es) [] pos) (teN T (eCall false F ms)) := by
  obtain ⟨f, fd, h1, h2, h3, h4⟩ := C.ex
  rw [← hK] at h2 h3 h4
  refine bn_call (E := fun _ => E0) (fun z => nomatch z) ?_
  rw [← hK]
  exact pe_callG h4 hgd (hr.mono hk) hg h1 h2 h3 (fun _ _ _ _ _ _ _ z => z.elim) ha hdb he hpl
end
/-- a name of the module that holds data -/
structure GV (K : Fg) (mg : Str → Option Value) (x : Str) (d : D) : Prop where
  ex : ∃ v u, mg x = some u ∧ RelV v u ∧ ∀ B, Dq K B v d
theorem be_g {X : Cx} {T : Tb} {x : Str} {d : D} {pos : Pos} (h : GV T.K X.mg x d) (hg : Gl X x) (hd : (x == ("__debug__" : Str)) = false := by decide) : PE X (.Name x pos) (teD T (eC d)) := by
  obtain ⟨v, u, h1, h2, h3⟩ := h.ex
  exact be_c (pe_glob hg h1 h2 hd) h3
/-! ### what a block of a comprehension asks -/
theorem bts_nil {X : Cx} {T : Tb} : PTs X [] (ttD T ttYes) := by
  refine ⟨fun pins s σ H Q I h => pts_nil.run pins s σ H Q I ?_⟩
  obtain ⟨B, h⟩ := h
  exact gB_ok h ⟨rfl, rfl⟩
/-! ### methods of texts -/
section
variable {K : Fg}
theorem dm0 {r : V → List V → Hp → VK → Prop} {g : Str → Option D} (h : ∀ (B H : Hp) (a : Str) (z : D) (Q : VK), Same B H → g a = some z → (∀ w B' H', Tr B H [] B' H' [] → Same B' H' → Dq K B' w z → Q w H') → r (.str a) [] H Q) :
    DMt K r (fun x xs => match x, xs with | .str a, [] => g a | _, _ => none) := by
  intro B H v vs x xs z Q s hx hxs e k
  match x, xs, hx, hxs, e with
  | .str a, [], hx, hxs, e =>
    cases hx
    cases hxs
    exact h B H a z Q s e k
theorem dm1 {r : V → List V → Hp → VK → Prop} {g : Str → D → Option D} (h : ∀ (B H : Hp) (a : Str) (v : V) (y z : D) (Q : VK), Same B H → Pk K B H v y → g a y = some z → (∀ w B' H', Tr B H [] B' H' [] → Same B' H' → Dq K B' w z → Q w H') → r (.str a) [v] H Q) :
    DMt K r (fun x xs => match x, xs with | .str a, [y] => g a y | _, _ => none) := by
  intro B H v vs x xs z Q s hx hxs e k
  match x, xs, hx, hxs, e with
  | .str a, [y], hx, hxs, e =>
    cases hx
    obtain ⟨u, rfl, hu⟩ := pk1 hxs
    exact h B H a u y z Q s hu e k
theorem dm2 {r : V → List V → Hp → VK → Prop} {g : Str → D → D → Option D} (h : ∀ (B H : Hp) (a : Str) (v u : V) (x y z : D) (Q : VK), Same B H → Pk K B H v x → Pk K B H u y → g a x y = some z → (∀ w B' H', Tr B H [] B' H' [] → Same B' H' → Dq K B' w z → Q w H') → r (.str a) [v, u] H Q) :
    DMt K r (fun x xs => match x, xs with | .str a, [x, y] => g a x y | _, _ => none) := by
  intro B H v vs x xs z Q s hx hxs e k
  match x, xs, hx, hxs, e with
  | .str a, [x, y], hx, hxs, e =>
    cases hx
    obtain ⟨u, u2, rfl, h1, h2⟩ := pk2 hxs
    exact h B H a u u2 x y z Q s h1 h2 e k
def m0 (g : Str → Option D) : D → List D → Option D := fun x xs => match x, xs with | .str a, [] => g a | _, _ => none
def m1 (g : Str → D → Option D) : D → List D → Option D := fun x xs => match x, xs with | .str a, [y] => g a y | _, _ => none
def m2 (g : Str → D → D → Option D) : D → List D → Option D := fun x xs => match x, xs with | .str a, [x, y] => g a x y | _, _ => none
/-- the argument a text -/
def s1 (g : Str → Str → Option D) : Str → D → Option D := fun a y => match y with | .str b => g a b | _ => none
def si (g : Str → Str → Int → Option D) : Str → D → D → Option D := fun a x y => match x, y with | .str b, .int i => g a b i | _, _ => none
theorem dms1 {r : V → List V → Hp → VK → Prop} {g : Str → Str → Option D} (h : ∀ (B H : Hp) (a b : Str) (z : D) (Q : VK), Same B H → g a b = some z → (∀ w B' H', Tr B H [] B' H' [] → Same B' H' → Dq K B' w z → Q w H') → r (.str a) [.str b] H Q) : DMt K r (m1 (s1 g)) :=
  dm1 fun B H a v y z Q s hv e k => by
    cases y with
    | str b => rw [hv.str]; exact h B H a b z Q s e k
    | _ => cases e
theorem dmsi {r : V → List V → Hp → VK → Prop} {g : Str → Str → Int → Option D} (h : ∀ (B H : Hp) (a b : Str) (i : Int) (z : D) (Q : VK), Same B H → g a b i = some z → (∀ w B' H', Tr B H [] B' H' [] → Same B' H' → Dq K B' w z → Q w H') → r (.str a) [.str b, .int i] H Q) : DMt K r (m2 (si g)) :=
  dm2 fun B H a v u x y z Q s hv hu e k => by
    cases x with
    | str b =>
      cases y with
      | int i => rw [hv.str, hu.int]; exact h B H a b i z Q s e k
      | _ => cases e
    | _ => cases y <;> cases e
theorem ifs {α : Type} {c : Prop} [Decidable c] {x z : α} (e : (if c then some x else none) = some z) : c ∧ x = z := by
  by_cases h : c
  · rw [if_pos h] at e; exact ⟨h, Option.some.inj e⟩
  · rw [if_neg h] at e; cases e
def dStripC := m1 (s1 fun a b => if a.length ≤ 16777216 then some (.str (Txt.stripChars a b)) else none)
theorem dm_stripC : DMt K (fun x xs H Q => ∃ a b, x = .str a ∧ xs = [.str b] ∧ a.length ≤ sizeLine ∧ Q (.str (Txt.stripChars a b)) H) dStripC := dms1 fun B H a b z Q s e k => by
  obtain ⟨h, rfl⟩ := ifs e
  exact ⟨a, b, rfl, rfl, le_lim h, k _ B H Tr.refl s (.str _)⟩
def dRstripC := m1 (s1 fun a b => if a.length ≤ 16777216 then some (.str (Txt.rstripChars a b)) else none)
theorem dm_rstripC : DMt K (fun x xs H Q => ∃ a b, x = .str a ∧ xs = [.str b] ∧ a.length ≤ sizeLine ∧ Q (.str (Txt.rstripChars a b)) H) dRstripC := dms1 fun B H a b z Q s e k => by
  obtain ⟨h, rfl⟩ := ifs e
  exact ⟨a, b, rfl, rfl, le_lim h, k _ B H Tr.refl s (.str _)⟩
def dLstripC := m1 (s1 fun a b => if a.length ≤ 16777216 then some (.str (Txt.lstripChars a b)) else none)
theorem dm_lstripC : DMt K (fun x xs H Q => ∃ a b, x = .str a ∧ xs = [.str b] ∧ a.length ≤ sizeLine ∧ Q (.str (Txt.lstripChars a b)) H) dLstripC := dms1 fun B H a b z Q s e k => by
  obtain ⟨h, rfl⟩ := ifs e
  exact ⟨a, b, rfl, rfl, le_lim h, k _ B H Tr.refl s (.str _)⟩
def dFind := m1 (s1 fun a b => some (.int (Txt.find a b)))
theorem dm_find : DMt K (fun x xs H Q => ∃ a b, x = .str a ∧ xs = [.str b] ∧ Q (.int (Txt.find a b)) H) dFind := dms1 fun B H a b z Q s e k => by
  cases e
  exact ⟨a, b, rfl, rfl, k _ B H Tr.refl s (.int _)⟩
def dFind3 := m2 (si fun a b i => some (.int (Txt.find3 a b i)))
theorem dm_find3 : DMt K (fun x xs H Q => ∃ (a b : Str) (i : Int), x = .str a ∧ xs = [.str b, .int i] ∧ Q (.int (Txt.find3 a b i)) H) dFind3 := dmsi fun B H a b i z Q s e k => by
  cases e
  exact ⟨a, b, i, rfl, rfl, k _ B H Tr.refl s (.int _)⟩
def dCount := m1 (s1 fun a b => some (.int (Txt.count a b)))
theorem dm_count : DMt K (fun x xs H Q => ∃ a b, x = .str a ∧ xs = [.str b] ∧ Q (.int (Txt.count a b)) H) dCount := dms1 fun B H a b z Q s e k => by
  cases e
  exact ⟨a, b, rfl, rfl, k _ B H Tr.refl s (.int _)⟩
def dStartsw := m1 (s1 fun a b => some (.bool (Txt.startswith a b)))
theorem dm_startsw : DMt K (fun x xs H Q => ∃ a b, x = .str a ∧ xs = [.str b] ∧ Q (.bl (Txt.startswith a b)) H) dStartsw := dms1 fun B H a b z Q s e k => by
  cases e
  exact ⟨a, b, rfl, rfl, k _ B H Tr.refl s (.bl _)⟩
def dEndsw := m1 (s1 fun a b => some (.bool (Txt.endswith a b)))
theorem dm_endsw : DMt K (fun x xs H Q => ∃ a b, x = .str a ∧ xs = [.str b] ∧ Q (.bl (Txt.endswith a b)) H) dEndsw := dms1 fun B H a b z Q s e k => by
  cases e
  exact ⟨a, b, rfl, rfl, k _ B H Tr.refl s (.bl _)⟩
def dUpper := m0 (fun a => if a.length ≤ 5592405 then some (.str (Txt.upper a)) else none)
theorem dm_upper : DMt K (fun x xs H Q => ∃ a, x = .str a ∧ xs = [] ∧ a.length ≤ 5592405 ∧ Q (.str (Txt.upper a)) H) dUpper := dm0 fun B H a z Q s e k => by
  obtain ⟨h, rfl⟩ := ifs e
  exact ⟨a, rfl, rfl, h, k _ B H Tr.refl s (.str _)⟩
def dLower := m0 (fun a => if a.length ≤ 5592405 then some (.str (Txt.lower a)) else none)
theorem dm_lower : DMt K (fun x xs H Q => ∃ a, x = .str a ∧ xs = [] ∧ a.length ≤ 5592405 ∧ Q (.str (Txt.lower a)) H) dLower := dm0 fun B H a z Q s e k => by
  obtain ⟨h, rfl⟩ := ifs e
  exact ⟨a, rfl, rfl, h, k _ B H Tr.refl s (.str _)⟩
def dStrip := m0 (fun a => if a.length ≤ 16777216 then some (.str (Txt.strip a)) else none)
theorem dm_strip : DMt K (fun x xs H Q => ∃ a, x = .str a ∧ xs = [] ∧ a.length ≤ sizeLine ∧ Q (.str (Txt.strip a)) H) dStrip := dm0 fun B H a z Q s e k => by
  obtain ⟨h, rfl⟩ := ifs e
  exact ⟨a, rfl, rfl, le_lim h, k _ B H Tr.refl s (.str _)⟩
def dIsdigit := m0 (fun a => some (.bool (Txt.isdigit a)))
theorem dm_isdigit : DMt K (fun x xs H Q => ∃ a, x = .str a ∧ xs = [] ∧ True ∧ Q (.bl (Txt.isdigit a)) H) dIsdigit := dm0 fun B H a z Q s e k => by
  cases e
  exact ⟨a, rfl, rfl, trivial, k _ B H Tr.refl s (.bl _)⟩
def dSIndex := m1 (s1 fun a b => (Builtin.Str.occurrences a b 0 a.length 1).head?.map fun i => .int (i : Nat))
theorem dm_sindex : DMt K (fun x xs H Q => ∃ a b i rest, x = .str a ∧ xs = [.str b] ∧ Builtin.Str.occurrences a b 0 a.length 1 = i :: rest ∧ Q (.int (i : Nat)) H) dSIndex := dms1 fun B H a b z Q s e k => by
  obtain ⟨i, e1, rfl⟩ := Option.map_eq_some_iff.mp e
  obtain ⟨r, e2⟩ := List.head?_eq_some_iff.mp e1
  exact ⟨a, b, i, r, rfl, rfl, e2, k _ B H Tr.refl s (.int _)⟩
def dPartition := m1 (s1 fun a b => if (b.length == 0) = false ∧ a.length ≤ 16777216 then some (.tuple [.str (Txt.partition a b).1, .str (Txt.partition a b).2.1, .str (Txt.partition a b).2.2]) else none)
theorem dm_partition : DMt K (fun x xs H Q => ∃ a b, x = .str a ∧ xs = [.str b] ∧ (b.length == 0) = false ∧ a.length ≤ sizeLine ∧
    ∀ p, H p = none → Q (.ref p) (upd H p (.tup [.str (Txt.partition a b).1, .str (Txt.partition a b).2.1, .str (Txt.partition a b).2.2]))) dPartition := dms1 fun B H a b z Q s e k => by
  obtain ⟨h, rfl⟩ := ifs e
  refine ⟨a, b, rfl, rfl, h.1, le_lim h.2, fun p hp => ?_⟩
  obtain ⟨t, s', sb⟩ := tr_new (o := .tup [.str (Txt.partition a b).1, .str (Txt.partition a b).2.1, .str (Txt.partition a b).2.2]) hp s
  exact k _ _ _ t s' (.tup (SqT.of upd_same) (.cons (.str _) (.cons (.str _) (.cons (.str _) .nil))))
def joinD (a : Str) (xs : List D) : Option D := (asStrs xs).bind fun ys => if (ys.map (·.length)).sum + ys.length * a.length ≤ 16777216 then some (.str (Txt.join a ys)) else none
def dJoin := m1 (fun a y => match y with | .list xs => joinD a xs | .tuple xs => joinD a xs | _ => none)
theorem dm_join : DMt K (fun x xs H Q => ∃ a p, ∃ ys : List Str, x = .str a ∧ xs = [.ref p] ∧ (SqL K H p (ys.map V.str) ∨ SqT K H p (ys.map V.str)) ∧
    (ys.map (·.length)).sum + ys.length * a.length ≤ 16777216 ∧ Q (.str (Txt.join a ys)) H) dJoin := dm1 fun B H a v y z Q s hv e k => by
  have go : ∀ {p : Addr} {vs : List V} {xs : List D}, joinD a xs = some z → DqAll K B vs xs → (SqL K H p vs ∨ SqT K H p vs) → ∃ a' p', ∃ ys : List Str, V.str a = .str a' ∧ [V.ref p] = [.ref p'] ∧ (SqL K H p' (ys.map V.str) ∨ SqT K H p' (ys.map V.str)) ∧
    (ys.map (·.length)).sum + ys.length * a'.length ≤ 16777216 ∧ Q (.str (Txt.join a' ys)) H := fun {p vs xs} e h2 h1 => by
    obtain ⟨ys, e1, e2⟩ := Option.bind_eq_some_iff.mp e
    obtain ⟨h, rfl⟩ := ifs e2
    obtain rfl := asStrs_eq e1
    obtain rfl := dqs_strs h2
    exact ⟨a, p, ys, rfl, rfl, h1, h, k _ B H Tr.refl s (.str _)⟩
  cases y with
  | list xs =>
    obtain ⟨p, vs, rfl, h1, h2⟩ := hv.items s
    exact go e h2 (.inl (SqL.of h1))
  | tuple xs =>
    obtain ⟨p, vs, rfl, h1, h2⟩ := hv.tup s
    exact go e h2 (.inr h1)
  | _ => cases e
end
/-! ### the head: facts by names -/
abbrev Al := He.Al
def obsM (n : Nat) (fa : List He.Fa) (mo : Fg → Bool) (fn : List He.FnD) (g : Addr → Option Obj) : Al :=
  let K := He.frG g (He.asG g n)
  (((fa.all fun f => f.ok K) && fn.all fun d => (He.Fa.code d.at_ d.qual).ok K) && mo K, fn.map fun d => He.fnObs K d.at_)
def SaysM (fa : List He.Fa) (mo : Fg → Bool) (fn : List He.FnD) (K : Fg) : Prop := He.SaysE fa fn K ∧ mo K = true
def hookM (n : Nat) (fa : List He.Fa) (mo : Fg → Bool) (fn : List He.FnD) : PySem.W.Hook where
  α := Al
  obs := fun s => obsM n fa mo fn s.heap.get?
  val := fun _ => He.valE fn
  says := fun _ h => ∃ K : Fg, K.In h ∧ SaysM fa mo fn K
  of := fun _ s e => ⟨_, He.frG_in, by
    have e1 := congrArg (fun z : Al => z.1) e
    have e2 := congrArg (fun z : Al => z.2) e
    have e3 : (((fa.all fun f => f.ok (He.frG s.heap.get? (He.asG s.heap.get? n))) && fn.all fun d => (He.Fa.code d.at_ d.qual).ok (He.frG s.heap.get? (He.asG s.heap.get? n))) && mo (He.frG s.heap.get? (He.asG s.heap.get? n))) = true := e1
    obtain ⟨h1, h2⟩ := Bool.and_eq_true_iff.mp e3
    exact ⟨Prod.ext h1 e2, h2⟩⟩
  keeps := fun _ _ _ ⟨K, hK, c⟩ k => ⟨K, PySem.W.Frag.In.keeps hK k, c⟩
theorem obsM_eq {n : Nat} {fa : List He.Fa} {mo : Fg → Bool} {fn : List He.FnD} {g : Addr → Option Obj} {s : Shared} (h : ∀ a, g a = s.heap.get? a) : obsM n fa mo fn g = (hookM n fa mo fn).obs s := by
  have e : g = s.heap.get? := funext h
  rw [e] <;> rfl
/-- a def's datum -/
abbrev fnD (nm : Str) (st : Stmt) : He.FnD := ⟨(nm, none), nm, nm, defArgs st, defBody st, defScope st⟩
section
variable {fa : List He.Fa} {mo : Fg → Bool} {fn : List He.FnD} {K : Fg} {h : Heap} {mg : Str → Option Value}
theorem defF_of (X : K.In h) (G : h.Ns mainGlobals mg) (c : SaysM fa mo fn K) {nm : Str} {st : Stmt} (i j l : Nat) (h1 : fn[i]? = some (fnD nm st)) (h2 : fa[j]? = some (.glo nm)) (h3 : fa[l]? = some (.keep nm)) : DefF K mg nm st := by
  obtain ⟨oc, od, osl, kV, doc, pm, an, cdv, ct, lk, hc⟩ := He.SaysE.def_ c.1 i h1
  exact ⟨_, _, He.glo_ok X G (He.SaysE.fact c.1 j h2), fun_mk lk hc (He.keep_ok (He.SaysE.fact c.1 l h3))⟩
theorem gvI (X : K.In h) (G : h.Ns mainGlobals mg) (c : SaysM fa mo fn K) {x : Str} {i : Int} (j : Nat) (h2 : fa[j]? = some (.int x i)) : GV K mg x (.int i) := by
  obtain ⟨t, e⟩ := He.int_ok X G (He.SaysE.fact c.1 j h2)
  exact ⟨.int i, _, e, ⟨t, rfl⟩, fun B => .int i⟩
theorem gvS (X : K.In h) (G : h.Ns mainGlobals mg) (c : SaysM fa mo fn K) {x z : Str} (j : Nat) (h2 : fa[j]? = some (.str x z)) : GV K mg x (.str z) := by
  obtain ⟨t, e⟩ := He.str_ok X G (He.SaysE.fact c.1 j h2)
  exact ⟨.str z, _, e, ⟨t, rfl⟩, fun B => .str z⟩
theorem freeM (X : K.In h) (G : h.Ns mainGlobals mg) (c : SaysM fa mo fn K) {x : Str} (j : Nat) (h2 : fa[j]? = some (.free x)) : mg x = none := He.free_ok X G (He.SaysE.fact c.1 j h2)
end
end BV

/-! BV14: small things that the printed texts name. -/
namespace BV
open PySem PySem.Spec PyProof.Rows L2

theorem hu64 {k : Nat} {A : Around} (r : Room k A) : A.units + 64 < cLine := by have := r.un; omega
theorem hu65 {k : Nat} {A : Around} (r : Room k A) : A.units + 65 < cLine := by have := r.un; omega
theorem hu66 {k : Nat} {A : Around} (r : Room k A) : A.units + 66 < cLine := by have := r.un; omega
def scK (N P : List Str) (sc : Scope) : Bool :=
  decide (sc.kind = .function) && (!sc.isCoroutine && (!sc.isGenerator && (decide N.Nodup && (decide (N.take P.length = P) && (P.all (fun x => decide (sc.names.lookup x = some .local) || decide (sc.names.lookup x = some .cell)) && sc.names.all (fun y => !decide (y.2 = .free)))))))
theorem fnScope_k {N P : List Str} {sc : Scope} (h : scK N P sc = true) : FnScope N P sc := by
  unfold scK at h
  simp only [Bool.and_eq_true, Bool.not_eq_true', decide_eq_true_eq, List.all_eq_true, Bool.or_eq_true, decide_eq_false_iff_not] at h
  obtain ⟨h1, h2, h3, h4, h5, h6, h7⟩ := h
  exact ⟨h1, h2, h3, h4, h5, h6, h7⟩
theorem bt_len : bootBuiltins "len" = some (.builtin "len") := by decide +kernel
theorem bt_int : bootBuiltins "int" = some (.type "int") := by decide +kernel
theorem bt_str : bootBuiltins "str" = some (.type "str") := by decide +kernel
theorem bt_bool : bootBuiltins "bool" = some (.type "bool") := by decide +kernel
theorem bt_abs : bootBuiltins "abs" = some (.builtin "abs") := by decide +kernel
theorem bt_ord : bootBuiltins "ord" = some (.builtin "ord") := by decide +kernel
theorem bt_chr : bootBuiltins "chr" = some (.builtin "chr") := by decide +kernel
theorem bt_max : bootBuiltins "max" = some (.builtin "max") := by decide +kernel
theorem bt_min : bootBuiltins "min" = some (.builtin "min") := by decide +kernel
theorem bt_all : bootBuiltins "all" = some (.builtin "all") := by decide +kernel
theorem bt_any : bootBuiltins "any" = some (.builtin "any") := by decide +kernel
theorem bt_sum : bootBuiltins "sum" = some (.builtin "sum") := by decide +kernel
theorem bt_tuple : bootBuiltins "tuple" = some (.type "tuple") := by decide +kernel
theorem bt_list : bootBuiltins "list" = some (.type "list") := by decide +kernel
theorem bt_dict : bootBuiltins "dict" = some (.type "dict") := by decide +kernel
theorem bt_repr : bootBuiltins "repr" = some (.builtin "repr") := by decide +kernel
theorem bt_isinstance : bootBuiltins "isinstance" = some (.builtin "isinstance") := by decide +kernel
section
variable {X : Cx} {T : Tb}
theorem bt_w {e : Expr} {t : TT} (h : PW X e t) : PT X e t := h.pt
theorem pip_of {op : Operator} {r : R2} (h : OpR X (inplaceOp op) r) : PIp X op r := fun pins s σ H x y v u Q I rx ry q => h pins s σ H x y v u Q I rx ry q
def rAddI : R2 := fun x y H Q => rI0 (fun i j => .int (i + j)) x y H Q ∨ rStrAdd x y H Q
theorem iop_addAll : PIp X .Add rAddI := pip_of (iop_add.or iop_add_str)
def dAddI : D → D → Option D
  | .int i, .int j => some (.int (i + j))
  | .str a, .str b => if a.length + b.length ≤ 16777216 then some (.str (a ++ b)) else none
  | _, _ => none
theorem do_addI {K : Fg} : DOpO K rAddI dAddI := by
  intro B H v u x y z Q s hx hy e k
  cases x with
  | int i =>
    cases y with
    | int j =>
      rw [hx.int, hy.int]
      cases e
      exact .inl ⟨i, j, rfl, rfl, k _ B H Tr.refl s (.int _)⟩
    | _ => cases e
  | str a =>
    cases y with
    | str b =>
      rw [hx.str, hy.str]
      replace e : (if a.length + b.length ≤ 16777216 then some (PyData.str (a ++ b)) else none) = some z := e
      obtain ⟨h, rfl⟩ := ifs e
      exact .inr ⟨a, b, rfl, rfl, le_lim h, k _ B H Tr.refl s (.str _)⟩
    | _ => cases e
  | _ => cases y <;> cases e
theorem iop_subAll : PIp X .Sub (rI0 fun i j => .int (i - j)) := pip_of iop_sub
theorem do_subI {K : Fg} : DOpO K (rI0 fun i j => .int (i - j)) dSub := fun B H v u x y z Q s hx hy e k => by
  obtain ⟨i, j, e1, e2, _, q⟩ := do_sub B H v u x y z Q s hx hy e k
  exact ⟨i, j, e1, e2, q⟩
/-- x = [..]: the target is stored within the comprehension's frame; as data, as an owned list -/
theorem setLc_n {st : Stmt} {i : Nat} {g : TG} {tm : D → Env → Option Env} {is vs : List Nat} {it : Env → RE (List D)} {tt : Env → RE Bool} {te : Env → RE D} (ht : TgOk T.calm g is tm) (hs : ∀ i ∈ is, i ∈ vs)
    (h : PS X st (tAsg (tLc (tiD T it) g (ttD T.calm tt) (teD T.calm te) vs) (gName i))) : PS X st (tAsg (teN T (nComp vs tm it tt te)) (gName i)) :=
  psw h fun Dn σ H q => comp_to ht hs σ H _ q
theorem setLc_d {st : Stmt} {i : Nat} {g : TG} {tm : D → Env → Option Env} {is vs : List Nat} {it : Env → RE (List D)} {tt : Env → RE Bool} {te : Env → RE D} (ht : TgOk T.calm g is tm) (hs : ∀ i ∈ is, i ∈ vs)
    (h : PS X st (tAsg (tLc (tiD T it) g (ttD T.calm tt) (teD T.calm te) vs) (gName i))) : PS X st (tAsg (teD T fun env => frz (nComp vs tm it tt te env)) (gName i)) :=
  psw (setLc_n ht hs h) fun Dn σ H q => frz_to σ H _ q
end
end BV

/-! BV15: _law_start, the law's body behind it, the end of a law over the head by facts. -/
namespace BV
open PySem PySem.Spec PyProof.Rows L2

abbrev rPl : R2 := rI0 fun i j => .int (i + j)
abbrev rTi : R2 := rI CMul fun i j => .int (i * j)
abbrev rMo : R2 := rI (fun _ j => 0 < j) fun i j => .int (i % j)
abbrev rIn1 : List V → Hp → VK → Prop := fun xs H Q => (∃ i, xs = [.int i] ∧ Q (.int i) H) ∨ ∃ k, xs = [.bl k] ∧ Q (.int (if k then 1 else 0)) H
abbrev rLs (K : Fg) : List V → Hp → VK → Prop := fun xs H Q => ∃ p ys, xs = [.ref p] ∧ (SqL K H p ys ∨ SqT K H p ys) ∧ ∀ l, H l = none → Q (.ref l) (upd H l (.lst ys))
/-- _law_start, read off -/
def tStart (K : Fg) : TS := tSeq (tAsg (tC (.int 7)) (gName 1)) (tSeq (tFor (iList K (tVar 0)) (gName 2) (tAsg (tOp rPl (tOp rMo (tCB rIn1 (tCons (tOp rPl (tOp rTi (tVar 1) (tC (.int 48271))) (tVar 2)) tNil)) (tC (.int 2147483629))) (tC (.int 1))) (gName 1)))
  (tRet (tLst (tCons (tCB (rLs K) (tCons (tVar 0) tNil)) (tCons (tC (.int 0)) (tCons (tC (.int 0)) (tCons (tVar 1) tNil)))))))
theorem start_reads {K : Fg} {H : Hp} {Q : VK} {E : XK} {vs : List V} (h : spStart K vs H Q E) : tStart K ⟨fun _ H' => Q .non H', Q, fun _ _ => False, fun _ _ => False⟩ (L2.start ["script", "seed", "cell"] vs) H := by
  obtain ⟨a, ns, rfl, hS, hl, k⟩ := h
  refine ⟨_, rfl, a, rfl, ⟨_, hS⟩, for_list (K := K) (a := a) (xs := ns.map V.int) (fun i σ H2 => ∃ (z : Int) (c : Option V), σ = [some (.ref a), some (.int z), c] ∧ H2 = H ∧ 1 ≤ z ∧ z ≤ 2147483629)
    ⟨7, none, rfl, rfl, by decide, by decide⟩ (fun i σ H2 _ ⟨_, _, _, s2, _⟩ => s2 ▸ hS) ?_ ?_⟩
  · rintro i y σ H2 hi ⟨z, c, rfl, rfl, h1, h2⟩
    obtain ⟨n, rfl⟩ : ∃ n, y = V.int n := by
      rw [List.getElem?_map] at hi
      cases e : ns[i]? with
      | none => rw [e] at hi; cases hi
      | some n => rw [e] at hi; exact ⟨n, (Option.some.inj hi).symm⟩
    refine ⟨.int z, rfl, z, 48271, rfl, rfl, .inr (by decide), _, rfl, _, _, rfl, rfl, .inl ⟨_, rfl, ?_⟩⟩
    refine ⟨_, _, rfl, rfl, (show (0 : Int) < 2147483629 by decide), _, _, rfl, rfl, ?_⟩
    refine ⟨_, _, rfl, rfl, ?_, ?_⟩
    · have := Int.emod_nonneg (z * 48271 + n) (show (2147483629 : Int) ≠ 0 by decide)
      omega
    · have := Int.emod_lt_of_pos (z * 48271 + n) (show (0 : Int) < 2147483629 by decide)
      omega
  · rintro σ H2 ⟨z, c, rfl, rfl, h1, h2⟩
    refine ⟨_, rfl, a, ns.map V.int, rfl, .inl hS, fun q hq => ?_⟩
    refine ⟨_, rfl, show 4 ≤ sizeLine from le_lim (by decide), fun p hp => ?_⟩
    have npq : p ≠ q := fun z => by subst z; rw [upd_same] at hp; cases hp
    have hp2 : H2 p = none := by rwa [upd_ne npq] at hp
    exact k p q z _ h1 h2 (fun b o e => by rw [upd_ne (ne_of_none e hp2), upd_ne (ne_of_none e hq)]; exact e) hp2 hq npq (by rw [upd_ne (Ne.symm npq), upd_same]) upd_same
section
variable {P : Program} {w : World} {K : Fg} {mg : Str → Option Value} {base : Heap}
/-- _law_start may be called -/
structure CalS (P : Program) (w : World) (K : Fg) (mg : Str → Option Value) (base : Heap) : Prop where
  ex : ∃ (f : Addr) (fd : FuncData), mg "_law_start" = some (.ref f) ∧ PySem.W.keepIn K (.ref f) = true ∧ Binds K fd ["script"] [] ∧ FnG P w K mg base CX0 1 f fd ["script"] (spStart K)
abbrev N_start : List Str := ["script", "seed", "cell"]
theorem calS {st : Stmt} (F : DefF K mg "_law_start" st) (hb : ∀ (kV doc pm : Value) (an : Option Addr) (cdv ct : Value) (us : List Value), us.length = (["script"] : List Str).length → bindArgs (PySem.W.fnOf "_law_start" "_law_start" (defArgs st) (defBody st) (defScope st) .none kV doc pm an cdv ct) ⟨us, []⟩ = pure ((["script"] : List Str).zip us))
    (S : FnScope N_start ["script"] (defScope st))
    (go : ∀ (f : Addr) (cdv : Value) (A : Around) (outer : List PySem.Env) (s : Shared) (H : Hp) (E : XK), PSs (cxOf CX0 P w K mg base N_start "_law_start" (defScope st) f cdv A outer s H E).nox (defBody st) (tStart K)) : CalS P w K mg base := by
  obtain ⟨f, fd, h1, h2⟩ := F.ex
  exact ⟨f, fd, h1, h2.kp, h2.binds hb, fnG_of h2 S (fun vs H Q E ⟨a, ns, e, _⟩ => by rw [e]; rfl) fun cdv A outer s H vs Q E hg hr h => ⟨_, (go f cdv A outer s H E).nox, start_reads h⟩⟩
/-- state = _law_start(script) -/
theorem pe_start {X : Cx} (C : CalS X.prog X.w K X.mg X.base) {p pos : Pos} {e : Expr} {es : List Expr} {t : TA} (hK : X.K = K) (hgd : X.A.guards = some []) {k : Nat} (hr : Room k X.A) (hk : 1 ≤ k) (hg : Gl X "_law_start") (ha : PA X (e :: es) t)
    (he : starEach (e :: es) X.env = (false, eval e X.env) :: starEach es X.env := by rfl) (hpl : (backTo pos (starEach es X.env)).any (·.1) = false := by rfl) : PE X (.Call (.Name "_law_start" p) (e :: es) [] pos) (tCallG (spStart K) (fun _ => E0) t) := by
  obtain ⟨f, fd, h1, h2, h3, h4⟩ := C.ex
  subst hK
  exact pe_callG h4 hgd (hr.mono hk) hg h1 h2 h3 (fun _ _ _ _ _ _ _ z => z.elim) ha (by decide) he hpl
/-- the law: its first statement, then the mirror of the rest -/
theorem lawG {st : Stmt} {k M : Nat} {N : List Str} {body : Env → RS} {cls : Str → Option Addr} (F : DefF K mg "law" st) (S : FnScope N ["script"] (defScope st)) (hN : N.length = 2 + M)
    (go : ∀ (f : Addr) (cdv : Value) (A : Around) (outer : List PySem.Env) (s : Shared) (H : Hp) (E : XK), A.guards = some [] → Room k (A.deeper (envOfC "law" (defScope st) s.heap.objs.size f cdv)) →
      PSs (cxOf CX0 P w K mg base N "law" (defScope st) f cdv A outer s H E).nox (defBody st) (tSeq (tAsg (tCallG (spStart K) (fun _ => E0) (tCons (tVar 0) tNil)) (gName 1)) (tsS ⟨K, cls, [], none⟩ body)))
    (main : ∀ (ns : List Int) (s : Int), ns.length ≤ 63 → 1 ≤ s → s ≤ 2147483629 → ∃ e, body (.un :: .l (stD ns 0 0 s) :: List.replicate M .un) = .rt (.d (.bool true)) e) :
    ∃ (f : Addr) (fd : FuncData), mg "law" = some (.ref f) ∧ Fun K "law" "law" st f fd ∧ FnG P w K mg base CX0 (k + 1) f fd ["script"] (spLaw K) := by
  obtain ⟨f, fd, h1, h2⟩ := F.ex
  refine ⟨f, fd, h1, h2, fnG_of h2 S (fun vs H Q E ⟨a, ns, e, _⟩ => by rw [e]; rfl) fun cdv A outer s H vs Q E hg hr h => ⟨_, (go f cdv A outer s H E hg hr).nox, ?_⟩⟩
  obtain ⟨a, ns, rfl, hS, hl, k⟩ := h
  have e0 : L2.start N [.ref a] = some (.ref a) :: none :: List.replicate M none := by
    unfold L2.start
    rw [hN]
    show some (V.ref a) :: List.replicate (2 + M - 1) none = _
    rw [show 2 + M - 1 = M + 1 by omega, List.replicate_succ]
  rw [e0]
  refine ⟨_, rfl, a, ns, rfl, hS, hl, fun p q z H' h1 h2 _ _ _ npq hq hp => ?_⟩
  exact start_go npq hq hp (main ns z hl h1 h2) k
end
/-- the law's end: F gives the facts' written part, the function object, the promise over every base -/
theorem walkGE {l : PySem.W.OpenLaw} {k : Nat} {q : Program} {loose : List Str} {XP : (Str → Option Value) → Heap → Prop} {YP : World → Heap → Prop} {d : DefRec} {x : Str}
    (hn : l.most = some 63) (hdf : d.params.defaults = []) (hr : Room k callerA)
    (F : ∀ (w : World) (mg : Str → Option Value) (fa : Addr) (h : Heap), YP w h → h.Ns mainGlobals mg → mg d.name = some (.ref fa) →
      ∃ (K : Fg) (fd : FuncData), K.In h ∧ (∀ (s : Shared) (u : Value), BindsTo s fd ⟨[u], []⟩ [(x, u)]) ∧ ∀ base : Heap, K.In base → base.Ns mainGlobals mg → FnG l.prog w K mg base CX0 k fa fd [x] (spLaw K)) :
    PySem.W.WalkO q loose XP YP l.row.toRowW d [] (fun f vs => PySem.call f vs) :=
  Att.attach_call hn hdf fun w s₀ s₁ mg mb fa o pm cd doc a vs ns G Y ho hd hcd hmg hobj hints hlen hg => by
    obtain ⟨K, fd, KX, hb, hF⟩ := F w mg fa _ Y G.T.g hmg
    exact law_callG KX G.T.g G.T.b G.T.builtins G.T.nolimit hg hr hobj hints hlen hF hb
end BV

/-! BV16: reading mirrors: what holds behind them; the draws. -/
namespace BV
open PySem PySem.Spec PyProof.Rows L2

/-- what stands behind is held by its type: simp does not look into it -/
inductive Bk {α : Sort u} (a : α) : Type
  | mk
def wE {α : Type} (r : RE α) (Q : α → Env → Prop) (_ : Bk Q := .mk) : Prop := match r with | .ok a e => Q a e | _ => False
def wS (r : RS) (N : Env → Prop) (R : Sl → Env → Prop) (B C : Env → Prop) (_ : Bk (N, R, B, C) := .mk) : Prop := match r with | .nx e => N e | .rt s e => R s e | .bk e => B e | .ct e => C e | _ => False
def wF (r : RF) (Q : Sl → List Sl → Prop) (_ : Bk Q := .mk) : Prop := match r with | .ok s o => Q s o | _ => False
section
variable {α β : Type} {Q Q' : α → Env → Prop} {N N' B B' C C' : Env → Prop} {R R' : Sl → Env → Prop} {e : Env}
theorem wE_ext {r : RE α} (h : ∀ a e, Q a e = Q' a e) : wE r Q = wE r Q' := by rw [show Q = Q' from funext fun a => funext fun e => h a e]
theorem wE_ok {a : α} : wE (.ok a e) Q = Q a e := rfl
theorem wE_mono {r : RE α} (h : wE r Q) (i : ∀ a e, Q a e → Q' a e) : wE r Q' := by cases r <;> first | exact i _ _ h | exact h.elim
theorem wE_bind {r : RE α} {f : α → Env → RE β} {Q : β → Env → Prop} : wE (r.bind f) Q = wE r fun a e => wE (f a e) Q := by cases r <;> rfl
theorem wS_bindS {r : RE α} {k : α → Env → RS} : wS (bindS r k) N R B C = wE r fun a e => wS (k a e) N R B C := by cases r <;> rfl
theorem wE_lft {o : Option α} : wE (lft o e) Q = ∃ x, o = some x ∧ Q x e := by
  cases o with
  | none => exact propext ⟨fun h => (show False from h).elim, fun ⟨_, h, _⟩ => nomatch h⟩
  | some x => exact propext ⟨fun h => ⟨x, rfl, h⟩, fun ⟨_, h, q⟩ => by cases h; exact q⟩
theorem wS_nx : wS (.nx e) N R B C = N e := rfl
theorem wS_rt {s : Sl} : wS (.rt s e) N R B C = R s e := rfl
theorem wS_bk : wS (.bk e) N R B C = B e := rfl
theorem wS_ct : wS (.ct e) N R B C = C e := rfl
theorem wS_seq {a b : Env → RS} : wS (sSeq a b e) N R B C = wS (a e) (fun e => wS (b e) N R B C) R B C := by
  unfold sSeq
  cases a e <;> rfl
theorem wS_mono {r : RS} (h : wS r N R B C) (i : ∀ e, N e → N' e) (j : ∀ s e, R s e → R' s e) (k : ∀ e, B e → B' e) (l : ∀ e, C e → C' e) : wS r N' R' B' C' := by
  cases r with
  | nx e => exact i _ h
  | rt s e => exact j _ _ h
  | bk e => exact k _ h
  | ct e => exact l _ h
  | _ => exact h.elim
theorem wF_mono {r : RF} {Q Q' : Sl → List Sl → Prop} (h : wF r Q) (i : ∀ s o, Q s o → Q' s o) : wF r Q' := by cases r <;> first | exact i _ _ h | exact h.elim
theorem wF_ok {r : RF} {s : Sl} {o : List Sl} {Q : Sl → List Sl → Prop} (h : r = .ok s o) (q : Q s o) : wF r Q := by rw [h]; exact q
theorem wF_run {n N0 : Nat} {pins : List Nat} {b : Env → RS} {args : List Sl} {Q : Sl → List Sl → Prop} (hl : args.length = n) (h : wS (b (args ++ List.replicate (N0 - n) .un)) (fun e => Q (.d .none) (mask pins 0 n e)) (fun s e => Q s (mask pins 0 n e)) (fun _ => False) fun _ => False) : wF (runF n N0 pins b args) Q := by
  unfold runF
  rw [if_pos hl]
  cases e : b (args ++ List.replicate (N0 - n) .un) <;> rw [e] at h <;> exact h
/-- a call: the slots handed in, then the def, then the slots back -/
theorem wE_call {F : List Sl → RF} {ms : Env → RE (List AV)} {Q : Sl → Env → Prop} : wE (eCall false F ms e) Q = wE (ms e) fun avs e => ∃ q, takeA avs e = some q ∧ wF (F q.1) fun s o => Q s (putA avs o q.2) := by
  unfold eCall
  rw [wE_bind]
  refine wE_ext fun avs e1 => ?_
  cases et : takeA avs e1 with
  | none => exact propext ⟨fun h => (show False from h).elim, fun ⟨_, h, _⟩ => nomatch h⟩
  | some q =>
    refine propext ⟨fun h => ⟨q, rfl, ?_⟩, fun ⟨q', h, w⟩ => ?_⟩
    · dsimp only at h
      cases eF : F q.1 <;> rw [eF] at h <;> first | exact h | exact h.elim
    · cases h
      dsimp only
      cases eF : F q.1 <;> rw [eF] at w <;> first | exact w | exact w.elim
theorem wE_frz {r : RE Sl} {Q : D → Env → Prop} : wE (frz r) Q = wE r fun s e => match s with | .d x => Q x e | .l xs => Q (.list xs) e | _ => False := by
  cases r with
  | ok s e => cases s <;> rfl
  | _ => rfl
theorem wE_ite {c : Prop} [Decidable c] {a b : RE α} : wE (if c then a else b) Q = if c then wE a Q else wE b Q := by split <;> rfl
theorem wS_ite {c : Prop} [Decidable c] {a b : RS} : wS (if c then a else b) N R B C = if c then wS a N R B C else wS b N R B C := by split <;> rfl
/-! ### loops -/
/-- I: the items ahead, the slots -/
theorem wS_for {tm : D → Env → Option Env} {body : Env → RS} (I : List D → Env → Prop) (step : ∀ x r e, I (x :: r) e → ∃ e1, tm x e = some e1 ∧ wS (body e1) (I r) R N (I r)) (fin : ∀ e, I [] e → N e) : ∀ (xs : List D) (e : Env), I xs e → wS (forL tm body xs e) N R B C
  | [], e, h => by rw [forL]; exact fin e h
  | x :: xs, e, h => by
    obtain ⟨e1, h1, h2⟩ := step x xs e h
    rw [forL, h1]
    dsimp only
    cases eb : body e1 with
    | nx e2 => rw [eb] at h2; exact wS_for I step fin xs e2 h2
    | ct e2 => rw [eb] at h2; exact wS_for I step fin xs e2 h2
    | bk e2 => rw [eb] at h2; exact h2
    | rt s e2 => rw [eb] at h2; exact h2
    | ex c y e2 => rw [eb] at h2; exact h2.elim
    | no => rw [eb] at h2; exact h2.elim
/-- I m: a measure -/
theorem wS_while {c : Env → RE Bool} {body : Env → RS} (I : Nat → Env → Prop) (step : ∀ m e, I m e → wE (c e) fun b e => if b then wS (body e) (fun e' => ∃ m' < m, I m' e') R N (fun e' => ∃ m' < m, I m' e') else N e) :
    ∀ (fuel m : Nat) (e : Env), I m e → m < fuel → wS (sWhile fuel c body e) N R B C
  | 0, m, e, _, h => absurd h (Nat.not_lt_zero _)
  | fuel + 1, m, e, hI, hm => by
    have h := step m e hI
    unfold sWhile
    rw [whileL, wS_bindS]
    refine wE_mono h fun b e1 hb => ?_
    cases b with
    | false => exact hb
    | true =>
      simp only [if_true] at hb ⊢
      cases eb : body e1 with
      | nx e2 => rw [eb] at hb; obtain ⟨m', h1, h2⟩ := hb; exact wS_while I step fuel m' e2 h2 (by omega)
      | ct e2 => rw [eb] at hb; obtain ⟨m', h1, h2⟩ := hb; exact wS_while I step fuel m' e2 h2 (by omega)
      | bk e2 => rw [eb] at hb; exact hb
      | rt s e2 => rw [eb] at hb; exact hb
      | ex c y e2 => rw [eb] at hb; exact hb.elim
      | no => rw [eb] at hb; exact hb.elim
/-- a comprehension: J: the items ahead, what is made, the slots -/
theorem wE_compL {vs : List Nat} {tm : D → Env → Option Env} {tt : Env → RE Bool} {te : Env → RE D} {Q : List D → Env → Prop} (J : List D → List D → Env → Prop)
    (step : ∀ x r acc e, J (x :: r) acc e → ∃ e1, tm x (wipeE e vs) = some e1 ∧ wE (tt e1) fun b e2 => if b then wE (te e2) fun y e3 => J r (acc ++ [y]) e3 else J r acc e2) (len : ∀ x r acc e, J (x :: r) acc e → acc.length < 16777216) (fin : ∀ acc e, J [] acc e → Q acc (wipeE e vs)) :
    ∀ (xs acc : List D) (e : Env), J xs acc e → wE (compL vs tm tt te xs acc e) Q
  | [], acc, e, h => by rw [compL]; exact fin acc e h
  | x :: xs, acc, e, h => by
    obtain ⟨e1, h1, h2⟩ := step x xs acc e h
    rw [compL, h1]
    dsimp only
    cases et : tt e1 with
    | ok b e2 =>
      rw [et] at h2
      cases b with
      | false => exact wE_compL J step len fin xs acc e2 h2
      | true =>
        have h3 : wE (te e2) fun y e3 => J xs (acc ++ [y]) e3 := h2
        simp only [noex, RE.bind, if_true]
        cases ee : te e2 with
        | ok y e3 =>
          rw [ee] at h3
          simp only [if_pos (len x xs acc e h)]
          exact wE_compL J step len fin xs _ e3 h3
        | ex c y e3 => rw [ee] at h3; exact h3.elim
        | no => rw [ee] at h3; exact h3.elim
    | ex c y e2 => rw [et] at h2; exact h2.elim
    | no => rw [et] at h2; exact h2.elim
theorem wE_nComp {vs : List Nat} {tm : D → Env → Option Env} {it : Env → RE (List D)} {tt : Env → RE Bool} {te : Env → RE D} {Q : Sl → Env → Prop} : wE (nComp vs tm it tt te e) Q = wE (it e) fun xs e => wE (compL vs tm tt te xs [] e) fun acc e => Q (.l acc) e := by
  unfold nComp
  rw [wE_bind]
  refine wE_ext fun avs e1 => ?_
  rw [wE_bind]
  rfl
/-- a comprehension whose parts leave the slots: f tells each item's result (none: left out) -/
theorem compL_pure {vs : List Nat} {tm : D → Env → Option Env} {tt : Env → RE Bool} {te : Env → RE D} {E : Env} (f : D → Option D) : ∀ (xs acc : List D) (e : Env), acc.length + xs.length ≤ 16777216 → wipeE e vs = E →
    (∀ x ∈ xs, ∃ e1, tm x E = some e1 ∧ wE (tt e1) fun b e2 => if b then wE (te e2) fun y e3 => f x = some y ∧ wipeE e3 vs = E else f x = none ∧ wipeE e2 vs = E) → compL vs tm tt te xs acc e = .ok (acc ++ xs.filterMap f) E := by
  intro xs
  induction xs with
  | nil => intro acc e hl he _; rw [compL, he]; simp
  | cons x xs ih =>
    intro acc e hl he h
    rw [List.length_cons] at hl
    obtain ⟨e1, h1, h2⟩ := h x List.mem_cons_self
    rw [compL, he, h1]
    dsimp only
    have hr := fun y hy => h y (List.mem_cons_of_mem _ hy)
    cases et : tt e1 with
    | ok b e2 =>
      rw [et] at h2
      cases b with
      | false =>
        obtain ⟨h3, h4⟩ : f x = none ∧ wipeE e2 vs = E := h2
        simp only [noex, RE.bind]
        rw [List.filterMap_cons, h3]
        exact ih acc e2 (by omega) h4 hr
      | true =>
        have h3 : wE (te e2) fun y e3 => f x = some y ∧ wipeE e3 vs = E := h2
        simp only [noex, RE.bind]
        cases ee : te e2 with
        | ok y e3 =>
          rw [ee] at h3
          obtain ⟨h4, h5⟩ : f x = some y ∧ wipeE e3 vs = E := h3
          rw [List.filterMap_cons, h4]
          simp only [if_true]
          rw [if_pos (by omega), ih (acc ++ [y]) e3 (by rw [List.length_append]; simp; omega) h5 hr]
          simp
        | ex c y e3 => rw [ee] at h3; exact h3.elim
        | no => rw [ee] at h3; exact h3.elim
    | ex c y e2 => rw [et] at h2; exact h2.elim
    | no => rw [et] at h2; exact h2.elim
end

/-! ### one step of reading a combinator: rules for simp; what stands behind is not looked into -/
/-- a slot read; a step done at once; a way chosen -/
def wV (o : Option Sl) (i : Nat) (e : Env) (Q : D → Env → Prop) (_ : Bk Q := .mk) : Prop := match o with | some (.d x) => Q x e | some (.l xs) => Q (.list xs) (e.set i (.d (.list xs))) | _ => False
def wO (o : Option Sl) (e : Env) (Q : D → Env → Prop) (_ : Bk Q := .mk) : Prop := match o with | some (.d x) => Q x e | some (.l xs) => Q (.list xs) e | _ => False
def wL {α : Type} (o : Option α) (e : Env) (Q : α → Env → Prop) (_ : Bk Q := .mk) : Prop := match o with | some x => Q x e | none => False
def cB (b : Bool) (p q : Prop) (_ : Bk (p, q) := .mk) : Prop := if b then p else q
section
variable {α : Type} {e : Env} {i : Nat} {Q : α → Env → Prop} {QD : D → Env → Prop} {QB : Bool → Env → Prop} {QS : Sl → Env → Prop} {QL : List D → Env → Prop} {QA : List AV → Env → Prop} {QO : Option Int → Env → Prop} {N B C : Env → Prop} {R : Sl → Env → Prop}
theorem wV_d {x : D} : wV (some (.d x)) i e QD = QD x e := rfl
theorem wV_l {xs : List D} : wV (some (.l xs)) i e QD = QD (.list xs) (e.set i (.d (.list xs))) := rfl
theorem wO_d {x : D} : wO (some (.d x)) e QD = QD x e := rfl
theorem wO_l {xs : List D} : wO (some (.l xs)) e QD = QD (.list xs) e := rfl
theorem wL_some {x : α} : wL (some x) e Q = Q x e := rfl
theorem wL_ite {c : Prop} [Decidable c] {x : α} : wL (if c then some x else none) e Q = (c ∧ Q x e) := by
  by_cases h : c
  · rw [if_pos h]; exact propext ⟨fun q => ⟨h, q⟩, fun q => q.2⟩
  · rw [if_neg h]; exact propext ⟨fun q => (show False from q).elim, fun q => h q.1⟩
theorem wL_map {β : Type} {o : Option β} {f : β → α} : wL (o.map f) e Q = wL o e fun x e => Q (f x) e := by cases o <;> rfl
theorem cB_true {p q : Prop} : cB true p q = p := rfl
theorem cB_false {p q : Prop} : cB false p q = q := rfl
theorem cB_not {b : Bool} {p q : Prop} : cB (!b) p q = cB b q p := by cases b <;> rfl
theorem cB_intro {b : Bool} {p q : Prop} (h1 : b = true → p) (h2 : b = false → q) : cB b p q := by
  cases b with
  | false => exact h2 rfl
  | true => exact h1 rfl
theorem cB_dec {c : Prop} [Decidable c] {p q : Prop} (h1 : c → p) (h2 : ¬ c → q) : cB (decide c) p q := cB_intro (fun h => h1 (of_decide_eq_true h)) fun h => h2 (of_decide_eq_false h)
theorem wL_ext {Q' : α → Env → Prop} {o : Option α} (h : ∀ a e, Q a e = Q' a e) : wL o e Q = wL o e Q' := by rw [show Q = Q' from funext fun a => funext fun e => h a e]
theorem wV_ext {Q' : D → Env → Prop} {o : Option Sl} (h : ∀ a e, QD a e = Q' a e) : wV o i e QD = wV o i e Q' := by rw [show QD = Q' from funext fun a => funext fun e => h a e]
theorem wO_ext {Q' : D → Env → Prop} {o : Option Sl} (h : ∀ a e, QD a e = Q' a e) : wO o e QD = wO o e Q' := by rw [show QD = Q' from funext fun a => funext fun e => h a e]
theorem r_lft {o : Option α} : wE (lft o e) Q = wL o e Q := by cases o <;> rfl
theorem r_var : wE (eVar i e) QD = wV e[i]? i e QD := by
  unfold eVar
  cases e[i]? with
  | none => rfl
  | some s => cases s <;> rfl
theorem r_own : wE (eOwn i e) QD = wO e[i]? e QD := by
  unfold eOwn
  cases e[i]? with
  | none => rfl
  | some s => cases s <;> rfl
theorem r_c {x : D} : wE (eC x e) QD = QD x e := rfl
variable {f g : D → D → Option D} {fb gb : D → D → Option Bool} {a b c : Env → RE D} {t t1 t2 : Env → RE Bool} {sa sb : Env → RS} {ms : Env → RE (List D)} {pins : List Nat}
theorem r_bin : wE (eBin f a b e) QD = wE (a e) fun x e => wE (b e) fun y e => wL (f x y) e QD := by
  unfold eBin; repeat (first | rfl | (refine wE_ext fun _ _ => ?_) | (refine wL_ext fun _ _ => ?_) | (refine wV_ext fun _ _ => ?_) | (refine wO_ext fun _ _ => ?_) | (refine congrArg (And _) ?_) | simp only [wE_bind] | simp only [wS_bindS] | simp only [r_lft] | simp only [wE_if] | simp only [wS_ifb] | simp only [wL_map] | simp only [wE_ok] | simp only [r_var] | simp only [r_own] | simp only [pin_ite] | simp only [r_isl] | simp only [r_upd] | simp only [wS_rt] | simp only [wS_nx] | simp only [wE_ite])
theorem r_binO : wE (eBinO f i b e) QD = wO e[i]? e fun _ e => wE (b e) fun y e => wO e[i]? e fun x e => wL (f x y) e QD := by
  unfold eBinO; repeat (first | rfl | (refine wE_ext fun _ _ => ?_) | (refine wL_ext fun _ _ => ?_) | (refine wV_ext fun _ _ => ?_) | (refine wO_ext fun _ _ => ?_) | (refine congrArg (And _) ?_) | simp only [wE_bind] | simp only [wS_bindS] | simp only [r_lft] | simp only [wE_if] | simp only [wS_ifb] | simp only [wL_map] | simp only [wE_ok] | simp only [r_var] | simp only [r_own] | simp only [pin_ite] | simp only [r_isl] | simp only [r_upd] | simp only [wS_rt] | simp only [wS_nx] | simp only [wE_ite])
theorem r_cmp : wE (eCmp fb a b e) QD = wE (a e) fun x e => wE (b e) fun y e => wL (fb x y) e fun z e => QD (.bool z) e := by
  unfold eCmp; repeat (first | rfl | (refine wE_ext fun _ _ => ?_) | (refine wL_ext fun _ _ => ?_) | (refine wV_ext fun _ _ => ?_) | (refine wO_ext fun _ _ => ?_) | (refine congrArg (And _) ?_) | simp only [wE_bind] | simp only [wS_bindS] | simp only [r_lft] | simp only [wE_if] | simp only [wS_ifb] | simp only [wL_map] | simp only [wE_ok] | simp only [r_var] | simp only [r_own] | simp only [pin_ite] | simp only [r_isl] | simp only [r_upd] | simp only [wS_rt] | simp only [wS_nx] | simp only [wE_ite])
theorem r_tcmp : wE (tCmpD fb a b e) QB = wE (a e) fun x e => wE (b e) fun y e => wL (fb x y) e QB := by
  unfold tCmpD; repeat (first | rfl | (refine wE_ext fun _ _ => ?_) | (refine wL_ext fun _ _ => ?_) | (refine wV_ext fun _ _ => ?_) | (refine wO_ext fun _ _ => ?_) | (refine congrArg (And _) ?_) | simp only [wE_bind] | simp only [wS_bindS] | simp only [r_lft] | simp only [wE_if] | simp only [wS_ifb] | simp only [wL_map] | simp only [wE_ok] | simp only [r_var] | simp only [r_own] | simp only [pin_ite] | simp only [r_isl] | simp only [r_upd] | simp only [wS_rt] | simp only [wS_nx] | simp only [wE_ite])
theorem r_tcmpO : wE (tCmpO fb i b e) QB = wO e[i]? e fun _ e => wE (b e) fun y e => wO e[i]? e fun x e => wL (fb x y) e QB := by
  unfold tCmpO; repeat (first | rfl | (refine wE_ext fun _ _ => ?_) | (refine wL_ext fun _ _ => ?_) | (refine wV_ext fun _ _ => ?_) | (refine wO_ext fun _ _ => ?_) | (refine congrArg (And _) ?_) | simp only [wE_bind] | simp only [wS_bindS] | simp only [r_lft] | simp only [wE_if] | simp only [wS_ifb] | simp only [wL_map] | simp only [wE_ok] | simp only [r_var] | simp only [r_own] | simp only [pin_ite] | simp only [r_isl] | simp only [r_upd] | simp only [wS_rt] | simp only [wS_nx] | simp only [wE_ite])
theorem r_tru : wE (tTru a e) QB = wE (a e) fun x e => wL (dTru x) e QB := by unfold tTru; repeat (first | rfl | (refine wE_ext fun _ _ => ?_) | (refine wL_ext fun _ _ => ?_) | (refine wV_ext fun _ _ => ?_) | (refine wO_ext fun _ _ => ?_) | (refine congrArg (And _) ?_) | simp only [wE_bind] | simp only [wS_bindS] | simp only [r_lft] | simp only [wE_if] | simp only [wS_ifb] | simp only [wL_map] | simp only [wE_ok] | simp only [r_var] | simp only [r_own] | simp only [pin_ite] | simp only [r_isl] | simp only [r_upd] | simp only [wS_rt] | simp only [wS_nx] | simp only [wE_ite])
theorem wE_if {b : Bool} {x y : RE α} : wE (if b then x else y) Q = cB b (wE x Q) (wE y Q) := by cases b <;> rfl
theorem wS_ifb {b : Bool} {x y : RS} : wS (if b then x else y) N R B C = cB b (wS x N R B C) (wS y N R B C) := by cases b <;> rfl
theorem r_tand : wE (tAndD t1 t2 e) QB = wE (t1 e) fun x e => cB x (wE (t2 e) QB) (QB false e) := by unfold tAndD; repeat (first | rfl | (refine wE_ext fun _ _ => ?_) | (refine wL_ext fun _ _ => ?_) | (refine wV_ext fun _ _ => ?_) | (refine wO_ext fun _ _ => ?_) | (refine congrArg (And _) ?_) | simp only [wE_bind] | simp only [wS_bindS] | simp only [r_lft] | simp only [wE_if] | simp only [wS_ifb] | simp only [wL_map] | simp only [wE_ok] | simp only [r_var] | simp only [r_own] | simp only [pin_ite] | simp only [r_isl] | simp only [r_upd] | simp only [wS_rt] | simp only [wS_nx] | simp only [wE_ite])
theorem r_tor : wE (tOrD t1 t2 e) QB = wE (t1 e) fun x e => cB x (QB true e) (wE (t2 e) QB) := by unfold tOrD; repeat (first | rfl | (refine wE_ext fun _ _ => ?_) | (refine wL_ext fun _ _ => ?_) | (refine wV_ext fun _ _ => ?_) | (refine wO_ext fun _ _ => ?_) | (refine congrArg (And _) ?_) | simp only [wE_bind] | simp only [wS_bindS] | simp only [r_lft] | simp only [wE_if] | simp only [wS_ifb] | simp only [wL_map] | simp only [wE_ok] | simp only [r_var] | simp only [r_own] | simp only [pin_ite] | simp only [r_isl] | simp only [r_upd] | simp only [wS_rt] | simp only [wS_nx] | simp only [wE_ite])
theorem r_tnot : wE (tNotD t e) QB = wE (t e) fun x e => QB (!x) e := by unfold tNotD; repeat (first | rfl | (refine wE_ext fun _ _ => ?_) | (refine wL_ext fun _ _ => ?_) | (refine wV_ext fun _ _ => ?_) | (refine wO_ext fun _ _ => ?_) | (refine congrArg (And _) ?_) | simp only [wE_bind] | simp only [wS_bindS] | simp only [r_lft] | simp only [wE_if] | simp only [wS_ifb] | simp only [wL_map] | simp only [wE_ok] | simp only [r_var] | simp only [r_own] | simp only [pin_ite] | simp only [r_isl] | simp only [r_upd] | simp only [wS_rt] | simp only [wS_nx] | simp only [wE_ite])
theorem r_eif : wE (eIf t a b e) QD = wE (t e) fun x e => cB x (wE (a e) QD) (wE (b e) QD) := by unfold eIf; repeat (first | rfl | (refine wE_ext fun _ _ => ?_) | (refine wL_ext fun _ _ => ?_) | (refine wV_ext fun _ _ => ?_) | (refine wO_ext fun _ _ => ?_) | (refine congrArg (And _) ?_) | simp only [wE_bind] | simp only [wS_bindS] | simp only [r_lft] | simp only [wE_if] | simp only [wS_ifb] | simp only [wL_map] | simp only [wE_ok] | simp only [r_var] | simp only [r_own] | simp only [pin_ite] | simp only [r_isl] | simp only [r_upd] | simp only [wS_rt] | simp only [wS_nx] | simp only [wE_ite])
theorem r_nif {a b : Env → RE Sl} : wE (nIf t a b e) QS = wE (t e) fun x e => cB x (wE (a e) QS) (wE (b e) QS) := by unfold nIf; repeat (first | rfl | (refine wE_ext fun _ _ => ?_) | (refine wL_ext fun _ _ => ?_) | (refine wV_ext fun _ _ => ?_) | (refine wO_ext fun _ _ => ?_) | (refine congrArg (And _) ?_) | simp only [wE_bind] | simp only [wS_bindS] | simp only [r_lft] | simp only [wE_if] | simp only [wS_ifb] | simp only [wL_map] | simp only [wE_ok] | simp only [r_var] | simp only [r_own] | simp only [pin_ite] | simp only [r_isl] | simp only [r_upd] | simp only [wS_rt] | simp only [wS_nx] | simp only [wE_ite])
theorem r_and : wE (eAnd a b e) QD = wE (a e) fun x e => wL (dTru x) e fun k e => cB k (wE (b e) QD) (QD x e) := by unfold eAnd; repeat (first | rfl | (refine wE_ext fun _ _ => ?_) | (refine wL_ext fun _ _ => ?_) | (refine wV_ext fun _ _ => ?_) | (refine wO_ext fun _ _ => ?_) | (refine congrArg (And _) ?_) | simp only [wE_bind] | simp only [wS_bindS] | simp only [r_lft] | simp only [wE_if] | simp only [wS_ifb] | simp only [wL_map] | simp only [wE_ok] | simp only [r_var] | simp only [r_own] | simp only [pin_ite] | simp only [r_isl] | simp only [r_upd] | simp only [wS_rt] | simp only [wS_nx] | simp only [wE_ite])
theorem r_or : wE (eOr a b e) QD = wE (a e) fun x e => wL (dTru x) e fun k e => cB k (QD x e) (wE (b e) QD) := by unfold eOr; repeat (first | rfl | (refine wE_ext fun _ _ => ?_) | (refine wL_ext fun _ _ => ?_) | (refine wV_ext fun _ _ => ?_) | (refine wO_ext fun _ _ => ?_) | (refine congrArg (And _) ?_) | simp only [wE_bind] | simp only [wS_bindS] | simp only [r_lft] | simp only [wE_if] | simp only [wS_ifb] | simp only [wL_map] | simp only [wE_ok] | simp only [r_var] | simp only [r_own] | simp only [pin_ite] | simp only [r_isl] | simp only [r_upd] | simp only [wS_rt] | simp only [wS_nx] | simp only [wE_ite])
theorem r_not : wE (eNot a e) QD = wE (a e) fun x e => wL (dTru x) e fun k e => QD (.bool (!k)) e := by unfold eNot; repeat (first | rfl | (refine wE_ext fun _ _ => ?_) | (refine wL_ext fun _ _ => ?_) | (refine wV_ext fun _ _ => ?_) | (refine wO_ext fun _ _ => ?_) | (refine congrArg (And _) ?_) | simp only [wE_bind] | simp only [wS_bindS] | simp only [r_lft] | simp only [wE_if] | simp only [wS_ifb] | simp only [wL_map] | simp only [wE_ok] | simp only [r_var] | simp only [r_own] | simp only [pin_ite] | simp only [r_isl] | simp only [r_upd] | simp only [wS_rt] | simp only [wS_nx] | simp only [wE_ite])
theorem r_neg {n : Int} : wE (eNeg (eC (.int n)) e) QD = QD (.int (-n)) e := rfl
theorem r_cb {F : List D → Option D} : wE (eCB F ms e) QD = wE (ms e) fun xs e => wL (F xs) e QD := by unfold eCB; repeat (first | rfl | (refine wE_ext fun _ _ => ?_) | (refine wL_ext fun _ _ => ?_) | (refine wV_ext fun _ _ => ?_) | (refine wO_ext fun _ _ => ?_) | (refine congrArg (And _) ?_) | simp only [wE_bind] | simp only [wS_bindS] | simp only [r_lft] | simp only [wE_if] | simp only [wS_ifb] | simp only [wL_map] | simp only [wE_ok] | simp only [r_var] | simp only [r_own] | simp only [pin_ite] | simp only [r_isl] | simp only [r_upd] | simp only [wS_rt] | simp only [wS_nx] | simp only [wE_ite])
theorem r_ncb {F : List D → Option (List D)} : wE (nCB F ms e) QS = wE (ms e) fun xs e => wL (F xs) e fun ys e => QS (.l ys) e := by unfold nCB; repeat (first | rfl | (refine wE_ext fun _ _ => ?_) | (refine wL_ext fun _ _ => ?_) | (refine wV_ext fun _ _ => ?_) | (refine wO_ext fun _ _ => ?_) | (refine congrArg (And _) ?_) | simp only [wE_bind] | simp only [wS_bindS] | simp only [r_lft] | simp only [wE_if] | simp only [wS_ifb] | simp only [wL_map] | simp only [wE_ok] | simp only [r_var] | simp only [r_own] | simp only [pin_ite] | simp only [r_isl] | simp only [r_upd] | simp only [wS_rt] | simp only [wS_nx] | simp only [wE_ite])
theorem r_chk {Ty : String} {x : D} {Q' : Unit → Env → Prop} : wE (tyChk Ty x e) Q' = (tyD x = Ty ∧ Q' () e) := by
  unfold tyChk
  by_cases h : tyD x = Ty
  · rw [if_pos h]; exact propext ⟨fun z => ⟨h, z⟩, fun z => z.2⟩
  · rw [if_neg h]; exact propext ⟨fun z => (show False from z).elim, fun z => h z.1⟩
theorem r_bm {Ty : String} {F : D → List D → Option D} : wE (eBM Ty F a ms e) QD = wE (a e) fun x e => tyD x = Ty ∧ wE (ms e) fun xs e => wL (F x xs) e QD := by
  unfold eBM
  rw [wE_bind]
  refine wE_ext fun x e1 => ?_
  rw [wE_bind, r_chk, wE_bind]
  refine congrArg (And _) (wE_ext fun xs e2 => r_lft)
theorem r_bm0 {Ty : String} {F : D → List D → Option D} : wE (eBM0 Ty F a e) QD = wE (a e) fun x e => tyD x = Ty ∧ wL (F x []) e QD := by
  unfold eBM0
  rw [wE_bind]
  refine wE_ext fun x e1 => ?_
  rw [wE_bind, r_chk, r_lft]
theorem r_tup : wE (eTup ms e) QD = wE (ms e) fun xs e => xs.length ≤ 16777216 ∧ QD (.tuple xs) e := by
  unfold eTup
  rw [wE_bind]
  refine wE_ext fun xs e1 => ?_
  by_cases h : xs.length ≤ 16777216
  · rw [if_pos h]; exact propext ⟨fun z => ⟨h, z⟩, fun z => z.2⟩
  · rw [if_neg h]; exact propext ⟨fun z => (show False from z).elim, fun z => h z.1⟩
theorem r_lst : wE (nLst ms e) QS = wE (ms e) fun xs e => xs.length ≤ 16777216 ∧ QS (.l xs) e := by
  unfold nLst; rw [wE_bind]; refine wE_ext fun _ _ => ?_; rw [r_lft, wL_ite]
theorem r_anil : wE (aNil e) QL = QL [] e := rfl
theorem r_acons : wE (aCons a ms e) QL = wE (a e) fun x e => wE (ms e) fun xs e => QL (x :: xs) e := by unfold aCons; repeat (first | rfl | (refine wE_ext fun _ _ => ?_) | (refine wL_ext fun _ _ => ?_) | (refine wV_ext fun _ _ => ?_) | (refine wO_ext fun _ _ => ?_) | (refine congrArg (And _) ?_) | simp only [wE_bind] | simp only [wS_bindS] | simp only [r_lft] | simp only [wE_if] | simp only [wS_ifb] | simp only [wL_map] | simp only [wE_ok] | simp only [r_var] | simp only [r_own] | simp only [pin_ite] | simp only [r_isl] | simp only [r_upd] | simp only [wS_rt] | simp only [wS_nx] | simp only [wE_ite])
theorem r_aone : wE (aOne a e) QL = wE (a e) fun x e => QL [x] e := by unfold aOne; repeat (first | rfl | (refine wE_ext fun _ _ => ?_) | (refine wL_ext fun _ _ => ?_) | (refine wV_ext fun _ _ => ?_) | (refine wO_ext fun _ _ => ?_) | (refine congrArg (And _) ?_) | simp only [wE_bind] | simp only [wS_bindS] | simp only [r_lft] | simp only [wE_if] | simp only [wS_ifb] | simp only [wL_map] | simp only [wE_ok] | simp only [r_var] | simp only [r_own] | simp only [pin_ite] | simp only [r_isl] | simp only [r_upd] | simp only [wS_rt] | simp only [wS_nx] | simp only [wE_ite])
theorem r_vnil : wE (vNil e) QA = QA [] e := rfl
theorem r_vcons {m : Env → RE (List AV)} : wE (vCons a m e) QA = wE (a e) fun x e => wE (m e) fun xs e => QA (.v x :: xs) e := by unfold vCons; repeat (first | rfl | (refine wE_ext fun _ _ => ?_) | (refine wL_ext fun _ _ => ?_) | (refine wV_ext fun _ _ => ?_) | (refine wO_ext fun _ _ => ?_) | (refine congrArg (And _) ?_) | simp only [wE_bind] | simp only [wS_bindS] | simp only [r_lft] | simp only [wE_if] | simp only [wS_ifb] | simp only [wL_map] | simp only [wE_ok] | simp only [r_var] | simp only [r_own] | simp only [pin_ite] | simp only [r_isl] | simp only [r_upd] | simp only [wS_rt] | simp only [wS_nx] | simp only [wE_ite])
def okS : Option Sl → Bool
  | none => false
  | some .un => false
  | some _ => true
theorem r_has {Q' : Unit → Env → Prop} : wE (hasS i e) Q' = (okS e[i]? = true ∧ Q' () e) := by
  unfold hasS
  cases h : e[i]? with
  | none => exact propext ⟨fun z => (show False from z).elim, fun z => nomatch z.1⟩
  | some s => cases s <;> first | exact propext ⟨fun z => (show False from z).elim, fun z => nomatch z.1⟩ | exact propext ⟨fun z => ⟨rfl, z⟩, fun z => z.2⟩
theorem r_vslot {m : Env → RE (List AV)} : wE (vSlot i m e) QA = (okS e[i]? = true ∧ wE (m e) fun xs e => QA (.s i :: xs) e) := by
  unfold vSlot
  rw [wE_bind, r_has, wE_bind]
  exact congrArg (And _) rfl
theorem r_sl {lo hi : Env → RE (Option Int)} : wE (eSl a lo hi e) QD = wE (a e) fun x e => wE (lo e) fun l e => wE (hi e) fun h e => wL (dSl x l h) e QD := by unfold eSl; repeat (first | rfl | (refine wE_ext fun _ _ => ?_) | (refine wL_ext fun _ _ => ?_) | (refine wV_ext fun _ _ => ?_) | (refine wO_ext fun _ _ => ?_) | (refine congrArg (And _) ?_) | simp only [wE_bind] | simp only [wS_bindS] | simp only [r_lft] | simp only [wE_if] | simp only [wS_ifb] | simp only [wL_map] | simp only [wE_ok] | simp only [r_var] | simp only [r_own] | simp only [pin_ite] | simp only [r_isl] | simp only [r_upd] | simp only [wS_rt] | simp only [wS_nx] | simp only [wE_ite])
theorem r_onone : wE (oNone e) QO = QO none e := rfl
def asI : D → Option Int
  | .int i => some i
  | _ => none
theorem r_osome : wE (oSome a e) QO = wE (a e) fun x e => wL (asI x) e fun i e => QO (some i) e := by
  unfold oSome
  rw [wE_bind]
  refine wE_ext fun x e1 => ?_
  cases x <;> rfl
theorem chain_end {α : Type} {ret : Bool → α} {QR : α → Env → Prop} {k : Bool} {y : D} : wE (if k then (c e).bind fun z env => lft ((gb y z).map ret) env else .ok (ret false) e) QR = cB k (wE (c e) fun z e => wL (gb y z) e fun k e => QR (ret k) e) (QR (ret false) e) := by
  rw [wE_if, wE_ok, wE_bind]
  refine congrArg (fun p => cB k p _) (wE_ext fun z e1 => ?_)
  rw [r_lft, wL_map]
theorem r_chain : wE (eChain fb gb a b c e) QD = wE (a e) fun x e => wE (b e) fun y e => wL (fb x y) e fun k e => cB k (wE (c e) fun z e => wL (gb y z) e fun k e => QD (.bool k) e) (QD (.bool false) e) := by
  unfold eChain chainG
  rw [wE_bind]
  refine wE_ext fun x e1 => ?_
  rw [wE_bind]
  refine wE_ext fun y e2 => ?_
  rw [wE_bind, r_lft]
  exact wL_ext fun k e3 => chain_end (ret := PyData.bool)
theorem r_tchain : wE (tChainD fb gb a b c e) QB = wE (a e) fun x e => wE (b e) fun y e => wL (fb x y) e fun k e => cB k (wE (c e) fun z e => wL (gb y z) e QB) (QB false e) := by
  unfold tChainD chainG
  rw [wE_bind]
  refine wE_ext fun x e1 => ?_
  rw [wE_bind]
  refine wE_ext fun y e2 => ?_
  rw [wE_bind, r_lft]
  exact wL_ext fun k e3 => chain_end (ret := id)
theorem r_isi {Ty : String} : wE (eIsI Ty a e) QD = wE (a e) fun x e => wL (isI Ty x) e fun k e => QD (.bool k) e := by unfold eIsI; repeat (first | rfl | (refine wE_ext fun _ _ => ?_) | (refine wL_ext fun _ _ => ?_) | (refine wV_ext fun _ _ => ?_) | (refine wO_ext fun _ _ => ?_) | (refine congrArg (And _) ?_) | simp only [wE_bind] | simp only [wS_bindS] | simp only [r_lft] | simp only [wE_if] | simp only [wS_ifb] | simp only [wL_map] | simp only [wE_ok] | simp only [r_var] | simp only [r_own] | simp only [pin_ite] | simp only [r_isl] | simp only [r_upd] | simp only [wS_rt] | simp only [wS_nx] | simp only [wE_ite])
theorem r_iany : wE (iAny a e) QL = wE (a e) fun x e => wL (itemsOf x) e QL := by unfold iAny; repeat (first | rfl | (refine wE_ext fun _ _ => ?_) | (refine wL_ext fun _ _ => ?_) | (refine wV_ext fun _ _ => ?_) | (refine wO_ext fun _ _ => ?_) | (refine congrArg (And _) ?_) | simp only [wE_bind] | simp only [wS_bindS] | simp only [r_lft] | simp only [wE_if] | simp only [wS_ifb] | simp only [wL_map] | simp only [wE_ok] | simp only [r_var] | simp only [r_own] | simp only [pin_ite] | simp only [r_isl] | simp only [r_upd] | simp only [wS_rt] | simp only [wS_nx] | simp only [wE_ite])
theorem r_rg1 : wE (iRg1 ms e) QL = wE (ms e) fun x e => wL (dRng1 x) e QL := by unfold iRg1; repeat (first | rfl | (refine wE_ext fun _ _ => ?_) | (refine wL_ext fun _ _ => ?_) | (refine wV_ext fun _ _ => ?_) | (refine wO_ext fun _ _ => ?_) | (refine congrArg (And _) ?_) | simp only [wE_bind] | simp only [wS_bindS] | simp only [r_lft] | simp only [wE_if] | simp only [wS_ifb] | simp only [wL_map] | simp only [wE_ok] | simp only [r_var] | simp only [r_own] | simp only [pin_ite] | simp only [r_isl] | simp only [r_upd] | simp only [wS_rt] | simp only [wS_nx] | simp only [wE_ite])
theorem r_rg2 : wE (iRg2 ms e) QL = wE (ms e) fun x e => wL (dRng2 x) e QL := by unfold iRg2; repeat (first | rfl | (refine wE_ext fun _ _ => ?_) | (refine wL_ext fun _ _ => ?_) | (refine wV_ext fun _ _ => ?_) | (refine wO_ext fun _ _ => ?_) | (refine congrArg (And _) ?_) | simp only [wE_bind] | simp only [wS_bindS] | simp only [r_lft] | simp only [wE_if] | simp only [wS_ifb] | simp only [wL_map] | simp only [wE_ok] | simp only [r_var] | simp only [r_own] | simp only [pin_ite] | simp only [r_isl] | simp only [r_upd] | simp only [wS_rt] | simp only [wS_nx] | simp only [wE_ite])
theorem r_yes : wE (ttYes e) QB = QB true e := rfl
/-- frozen; a call -/
def wZ (s : Sl) (e : Env) (Q : D → Env → Prop) (_ : Bk Q := .mk) : Prop := match s with | .d x => Q x e | .l xs => Q (.list xs) e | _ => False
theorem wZ_d {x : D} : wZ (.d x) e QD = QD x e := rfl
theorem wZ_l {x : List D} : wZ (.l x) e QD = QD (.list x) e := rfl
theorem r_frz {r : RE Sl} : wE (frz r) QD = wE r fun s e => wZ s e QD := wE_frz
def wTk (o : Option (List Sl × Env)) (F : List Sl → RF) (K : Env → Sl → List Sl → Prop) (_ : Bk K := .mk) : Prop := match o with | some q => wF (F q.1) (K q.2) | none => False
theorem wTk_some {q : List Sl} {e : Env} {F : List Sl → RF} {K : Env → Sl → List Sl → Prop} : wTk (some (q, e)) F K = wF (F q) (K e) := rfl
theorem r_call {F : List Sl → RF} {m : Env → RE (List AV)} : wE (eCall false F m e) QS = wE (m e) fun avs e => wTk (takeA avs e) F fun e s o => QS s (putA avs o e) := by
  rw [wE_call]
  refine wE_ext fun avs e1 => ?_
  cases takeA avs e1 with
  | none => exact propext ⟨fun z => (by obtain ⟨_, h, _⟩ := z; cases h), fun h => (show False from h).elim⟩
  | some q => exact propext ⟨fun z => (by obtain ⟨_, h, w⟩ := z; cases h; exact w), fun h => ⟨q, rfl, h⟩⟩
theorem r_F {s : Sl} {o : List Sl} {Q : Sl → List Sl → Prop} : wF (.ok s o) Q = Q s o := rfl
theorem r_sif : wS (sIf t sa sb e) N R B C = wE (t e) fun x e => cB x (wS (sa e) N R B C) (wS (sb e) N R B C) := by unfold sIf; repeat (first | rfl | (refine wE_ext fun _ _ => ?_) | (refine wL_ext fun _ _ => ?_) | (refine wV_ext fun _ _ => ?_) | (refine wO_ext fun _ _ => ?_) | (refine congrArg (And _) ?_) | simp only [wE_bind] | simp only [wS_bindS] | simp only [r_lft] | simp only [wE_if] | simp only [wS_ifb] | simp only [wL_map] | simp only [wE_ok] | simp only [r_var] | simp only [r_own] | simp only [pin_ite] | simp only [r_isl] | simp only [r_upd] | simp only [wS_rt] | simp only [wS_nx] | simp only [wE_ite])
theorem r_snil : wS (sNil e) N R B C = N e := rfl
theorem r_pass : wS (sPass e) N R B C = N e := rfl
theorem r_break : wS (sBreak e) N R B C = B e := rfl
theorem r_cont : wS (sCont e) N R B C = C e := rfl
theorem r_no : wS (sNo e) N R B C = False := rfl
theorem r_ret : wS (sRet a e) N R B C = wE (a e) fun x e => R (.d x) e := by unfold sRet; repeat (first | rfl | (refine wE_ext fun _ _ => ?_) | (refine wL_ext fun _ _ => ?_) | (refine wV_ext fun _ _ => ?_) | (refine wO_ext fun _ _ => ?_) | (refine congrArg (And _) ?_) | simp only [wE_bind] | simp only [wS_bindS] | simp only [r_lft] | simp only [wE_if] | simp only [wS_ifb] | simp only [wL_map] | simp only [wE_ok] | simp only [r_var] | simp only [r_own] | simp only [pin_ite] | simp only [r_isl] | simp only [r_upd] | simp only [wS_rt] | simp only [wS_nx] | simp only [wE_ite])
theorem r_retN {m : Env → RE Sl} : wS (sRetN m e) N R B C = wE (m e) fun x e => R x e := by unfold sRetN; repeat (first | rfl | (refine wE_ext fun _ _ => ?_) | (refine wL_ext fun _ _ => ?_) | (refine wV_ext fun _ _ => ?_) | (refine wO_ext fun _ _ => ?_) | (refine congrArg (And _) ?_) | simp only [wE_bind] | simp only [wS_bindS] | simp only [r_lft] | simp only [wE_if] | simp only [wS_ifb] | simp only [wL_map] | simp only [wE_ok] | simp only [r_var] | simp only [r_own] | simp only [pin_ite] | simp only [r_isl] | simp only [r_upd] | simp only [wS_rt] | simp only [wS_nx] | simp only [wE_ite])
theorem r_retNone : wS (sRetNone e) N R B C = R (.d .none) e := rfl
theorem r_drop : wS (sDrop a e) N R B C = wE (a e) fun _ e => N e := by unfold sDrop; repeat (first | rfl | (refine wE_ext fun _ _ => ?_) | (refine wL_ext fun _ _ => ?_) | (refine wV_ext fun _ _ => ?_) | (refine wO_ext fun _ _ => ?_) | (refine congrArg (And _) ?_) | simp only [wE_bind] | simp only [wS_bindS] | simp only [r_lft] | simp only [wE_if] | simp only [wS_ifb] | simp only [wL_map] | simp only [wE_ok] | simp only [r_var] | simp only [r_own] | simp only [pin_ite] | simp only [r_isl] | simp only [r_upd] | simp only [wS_rt] | simp only [wS_nx] | simp only [wE_ite])
theorem r_dropN {m : Env → RE Sl} : wS (sDropN m e) N R B C = wE (m e) fun _ e => N e := by unfold sDropN; repeat (first | rfl | (refine wE_ext fun _ _ => ?_) | (refine wL_ext fun _ _ => ?_) | (refine wV_ext fun _ _ => ?_) | (refine wO_ext fun _ _ => ?_) | (refine congrArg (And _) ?_) | simp only [wE_bind] | simp only [wS_bindS] | simp only [r_lft] | simp only [wE_if] | simp only [wS_ifb] | simp only [wL_map] | simp only [wE_ok] | simp only [r_var] | simp only [r_own] | simp only [pin_ite] | simp only [r_isl] | simp only [r_upd] | simp only [wS_rt] | simp only [wS_nx] | simp only [wE_ite])
theorem pin_ite {e1 : Env} : wS (if i ∈ pins then .no else .nx e1) N R B C = (i ∉ pins ∧ N e1) := by
  by_cases h : i ∈ pins
  · rw [if_pos h]; exact propext ⟨fun z => (show False from z).elim, fun z => z.1 h⟩
  · rw [if_neg h]; exact propext ⟨fun z => ⟨h, z⟩, fun z => z.2⟩
theorem r_asg : wS (sAsg pins i a e) N R B C = wE (a e) fun x e => i ∉ pins ∧ N (e.set i (.d x)) := by unfold sAsg; repeat (first | rfl | (refine wE_ext fun _ _ => ?_) | (refine wL_ext fun _ _ => ?_) | (refine wV_ext fun _ _ => ?_) | (refine wO_ext fun _ _ => ?_) | (refine congrArg (And _) ?_) | simp only [wE_bind] | simp only [wS_bindS] | simp only [r_lft] | simp only [wE_if] | simp only [wS_ifb] | simp only [wL_map] | simp only [wE_ok] | simp only [r_var] | simp only [r_own] | simp only [pin_ite] | simp only [r_isl] | simp only [r_upd] | simp only [wS_rt] | simp only [wS_nx] | simp only [wE_ite])
theorem r_asgN {m : Env → RE Sl} : wS (sAsgN pins i m e) N R B C = wE (m e) fun x e => i ∉ pins ∧ N (e.set i x) := by unfold sAsgN; repeat (first | rfl | (refine wE_ext fun _ _ => ?_) | (refine wL_ext fun _ _ => ?_) | (refine wV_ext fun _ _ => ?_) | (refine wO_ext fun _ _ => ?_) | (refine congrArg (And _) ?_) | simp only [wE_bind] | simp only [wS_bindS] | simp only [r_lft] | simp only [wE_if] | simp only [wS_ifb] | simp only [wL_map] | simp only [wE_ok] | simp only [r_var] | simp only [r_own] | simp only [pin_ite] | simp only [r_isl] | simp only [r_upd] | simp only [wS_rt] | simp only [wS_nx] | simp only [wE_ite])
theorem r_aug : wS (sAug pins i f a e) N R B C = wV e[i]? i e fun x e => wE (a e) fun y e => wL (f x y) e fun z e => i ∉ pins ∧ N (e.set i (.d z)) := by
  unfold sAug; repeat (first | rfl | (refine wE_ext fun _ _ => ?_) | (refine wL_ext fun _ _ => ?_) | (refine wV_ext fun _ _ => ?_) | (refine wO_ext fun _ _ => ?_) | (refine congrArg (And _) ?_) | simp only [wE_bind] | simp only [wS_bindS] | simp only [r_lft] | simp only [wE_if] | simp only [wS_ifb] | simp only [wL_map] | simp only [wE_ok] | simp only [r_var] | simp only [r_own] | simp only [pin_ite] | simp only [r_isl] | simp only [r_upd] | simp only [wS_rt] | simp only [wS_nx] | simp only [wE_ite])
def wT (o : Option Env) (N : Env → Prop) (_ : Bk N := .mk) : Prop := match o with | some e => N e | none => False
theorem wT_some {e : Env} {N : Env → Prop} : wT (some e) N = N e := rfl
theorem r_stup {tm : D → Env → Option Env} : wS (sTup tm a e) N R B C = wE (a e) fun x e => wT (tm x e) N := by
  unfold sTup
  rw [wS_bindS]
  refine wE_ext fun x e1 => ?_
  cases tm x e1 <;> rfl
def lOf : Option Sl → Option (List D)
  | some (.l xs) => some xs
  | _ => none
theorem r_isl {Q' : Unit → Env → Prop} : wE (isL i e) Q' = ((lOf e[i]?).isSome = true ∧ Q' () e) := by
  unfold isL
  cases h : e[i]? with
  | none => exact propext ⟨fun z => (show False from z).elim, fun z => nomatch z.1⟩
  | some s => cases s <;> first | exact propext ⟨fun z => (show False from z).elim, fun z => nomatch z.1⟩ | exact propext ⟨fun z => ⟨rfl, z⟩, fun z => z.2⟩
theorem r_upd {F : List D → Option (List D)} : wS (updL i F e) N R B C = wL (lOf e[i]?) e fun xs e => wL (F xs) e fun ys e => N (e.set i (.l ys)) := by
  unfold updL
  cases h : e[i]? with
  | none => rfl
  | some s =>
    cases s <;> first | rfl | skip
    rename_i xs
    cases hF : F xs with
    | none =>
      show wS (match F xs with | some ys => .nx (e.set i (.l ys)) | none => .no) N R B C = wL (F xs) e fun ys e => N (e.set i (.l ys))
      rw [hF]; rfl
    | some ys =>
      show wS (match F xs with | some ys => .nx (e.set i (.l ys)) | none => .no) N R B C = wL (F xs) e fun ys e => N (e.set i (.l ys))
      rw [hF]; rfl
theorem r_app : wS (sApp i a e) N R B C = ((lOf e[i]?).isSome = true ∧ wE (a e) fun x e => wL (lOf e[i]?) e fun xs e => wL (app1 x xs) e fun ys e => N (e.set i (.l ys))) := by
  unfold sApp; repeat (first | rfl | (refine wE_ext fun _ _ => ?_) | (refine wL_ext fun _ _ => ?_) | (refine wV_ext fun _ _ => ?_) | (refine wO_ext fun _ _ => ?_) | (refine congrArg (And _) ?_) | simp only [wE_bind] | simp only [wS_bindS] | simp only [r_lft] | simp only [wE_if] | simp only [wS_ifb] | simp only [wL_map] | simp only [wE_ok] | simp only [r_var] | simp only [r_own] | simp only [pin_ite] | simp only [r_isl] | simp only [r_upd] | simp only [wS_rt] | simp only [wS_nx] | simp only [wE_ite])
theorem r_ext : wS (sExt i a e) N R B C = ((lOf e[i]?).isSome = true ∧ wE (a e) fun x e => wL (lOf e[i]?) e fun xs e => wL (ext1 x xs) e fun ys e => N (e.set i (.l ys))) := by
  unfold sExt; repeat (first | rfl | (refine wE_ext fun _ _ => ?_) | (refine wL_ext fun _ _ => ?_) | (refine wV_ext fun _ _ => ?_) | (refine wO_ext fun _ _ => ?_) | (refine congrArg (And _) ?_) | simp only [wE_bind] | simp only [wS_bindS] | simp only [r_lft] | simp only [wE_if] | simp only [wS_ifb] | simp only [wL_map] | simp only [wE_ok] | simp only [r_var] | simp only [r_own] | simp only [pin_ite] | simp only [r_isl] | simp only [r_upd] | simp only [wS_rt] | simp only [wS_nx] | simp only [wE_ite])
theorem r_setix : wS (sSetIx i b a e) N R B C = wE (a e) fun v e => (lOf e[i]?).isSome = true ∧ wE (b e) fun k e => wL (lOf e[i]?) e fun xs e => wL (setAt k v xs) e fun ys e => N (e.set i (.l ys)) := by
  unfold sSetIx; repeat (first | rfl | (refine wE_ext fun _ _ => ?_) | (refine wL_ext fun _ _ => ?_) | (refine wV_ext fun _ _ => ?_) | (refine wO_ext fun _ _ => ?_) | (refine congrArg (And _) ?_) | simp only [wE_bind] | simp only [wS_bindS] | simp only [r_lft] | simp only [wE_if] | simp only [wS_ifb] | simp only [wL_map] | simp only [wE_ok] | simp only [r_var] | simp only [r_own] | simp only [pin_ite] | simp only [r_isl] | simp only [r_upd] | simp only [wS_rt] | simp only [wS_nx] | simp only [wE_ite])
theorem r_for {tm : D → Env → Option Env} {it : Env → RE (List D)} : wS (sFor tm it sa e) N R B C = wE (it e) fun xs e => wS (forL tm sa xs e) N R B C := by unfold sFor; repeat (first | rfl | (refine wE_ext fun _ _ => ?_) | (refine wL_ext fun _ _ => ?_) | (refine wV_ext fun _ _ => ?_) | (refine wO_ext fun _ _ => ?_) | (refine congrArg (And _) ?_) | simp only [wE_bind] | simp only [wS_bindS] | simp only [r_lft] | simp only [wE_if] | simp only [wS_ifb] | simp only [wL_map] | simp only [wE_ok] | simp only [r_var] | simp only [r_own] | simp only [pin_ite] | simp only [r_isl] | simp only [r_upd] | simp only [wS_rt] | simp only [wS_nx] | simp only [wE_ite])
theorem r_retOwn : wS (sRetOwn i e) N R B C = (okS e[i]? = true ∧ R ((e[i]?).getD .un) (e.set i .un)) := by
  unfold sRetOwn
  cases h : e[i]? with
  | none => exact propext ⟨fun z => (show False from z).elim, fun z => nomatch z.1⟩
  | some s => cases s <;> first | exact propext ⟨fun z => (show False from z).elim, fun z => nomatch z.1⟩ | exact propext ⟨fun z => ⟨rfl, z⟩, fun z => z.2⟩
end
end BV

/-! BV17: the leaves; the draws, the picks, same. -/
namespace BV
open PySem PySem.Spec PyProof.Rows L2
/-! ### leaves -/
section
variable {a b : Int} {x y : Str} {xs ys : List D} {d : D}
theorem l_addI : dAdd (.int a) (.int b) = some (.int (a + b)) := rfl
theorem l_addS : dAdd (.str x) (.str y) = if x.length + y.length ≤ 16777216 then some (.str (x ++ y)) else none := rfl
theorem l_addL : dAdd (.list xs) (.list ys) = if xs.length + ys.length ≤ 16777216 then some (.list (xs ++ ys)) else none := rfl
theorem l_addT : dAdd (.tuple xs) (.tuple ys) = if xs.length + ys.length ≤ 16777216 then some (.tuple (xs ++ ys)) else none := rfl
theorem l_sub : dSub (.int a) (.int b) = some (.int (a - b)) := rfl
theorem dec_ite {α : Type} {c : Prop} [Decidable c] {p q : α} : (if decide c = true then p else q) = if c then p else q := by by_cases h : c <;> simp [h]
theorem l_div : dDiv (.int a) (.int b) = if 0 < b ∧ b < 1073741824 then some (.int (a / b)) else none := dec_ite
theorem l_mod : dMod (.int a) (.int b) = if 0 < b then some (.int (a % b)) else none := dec_ite
theorem l_mulI : dMul (.int a) (.int b) = if (-(2 ^ 64) < a ∧ a < 2 ^ 64) ∨ (-(2 ^ 64) < b ∧ b < 2 ^ 64) then some (.int (a * b)) else none := dec_ite
theorem l_mulS : dMul (.str x) (.int b) = if -(2 ^ 63) ≤ b ∧ b < 2 ^ 63 ∧ x.length * b.toNat ≤ 16777216 then some (.str (repS x b)) else none := dec_ite
theorem l_mulL : dMul (.list xs) (.int b) = if -(2 ^ 63) ≤ b ∧ b < 2 ^ 63 ∧ xs.length * b.toNat ≤ 16777216 then some (.list (List.replicate b.toNat xs).flatten) else none := dec_ite
theorem l_eqI : dEqB (.int a) (.int b) = some (decide (a = b)) := by
  show (if SeqAt.shaped (.int a) && SeqAt.shaped (.int b) then some (PyData.eqv (.int a) (.int b)) else none) = _
  rw [if_pos (by rfl), PyData.eqv]
  rfl
theorem l_eqS : dEqB (.str x) (.str y) = some (decide (x = y)) := rfl
theorem l_neI : dNeB (.int a) (.int b) = some (!decide (a = b)) := by unfold dNeB; rw [l_eqI]; rfl
theorem l_neS : dNeB (.str x) (.str y) = some (!decide (x = y)) := rfl
theorem l_ltI : dLtB (.int a) (.int b) = some (decide (a < b)) := rfl
theorem l_leI : dLeB (.int a) (.int b) = some (decide (a ≤ b)) := rfl
theorem l_gtI : dGtB (.int a) (.int b) = some (decide (b < a)) := rfl
theorem l_geI : dGeB (.int a) (.int b) = some (decide (b ≤ a)) := rfl
theorem l_ltS : dLtB (.str x) (.str y) = some (sLt x y) := rfl
theorem l_leS : dLeB (.str x) (.str y) = some (!sLt y x) := rfl
theorem l_gtS : dGtB (.str x) (.str y) = some (sLt y x) := rfl
theorem l_geS : dGeB (.str x) (.str y) = some (!sLt x y) := rfl
theorem l_truI : dTru (.int a) = some (!decide (a = 0)) := by
  show some (a != 0) = _
  refine congrArg some ?_
  by_cases h : a = 0 <;> simp [h]
theorem l_truB {k : Bool} : dTru (.bool k) = some k := rfl
theorem l_truL : dTru (.list xs) = some (!xs.isEmpty) := rfl
theorem l_truT : dTru (.tuple xs) = some (!xs.isEmpty) := rfl
theorem l_truN : dTru .none = some false := rfl
theorem l_truS : dTru (.str x) = if x.length ≤ 16777216 then some (!decide (x.length = 0)) else none := by
  show (if x.length ≤ 16777216 then some ((x.length : Int) != 0) else none) = _
  by_cases h : x.length = 0
  · rw [h]; rfl
  · have : ((x.length : Int) != 0) = !decide (x.length = 0) := by
      rw [decide_eq_false h]
      exact bne_iff_ne.mpr fun z => h (by omega)
    rw [this]
theorem l_lenS : dLen (.str x) = if x.length ≤ 16777216 then some (.int x.length) else none := rfl
theorem l_lenL : dLen (.list xs) = some (.int xs.length) := rfl
theorem l_lenT : dLen (.tuple xs) = some (.int xs.length) := rfl
theorem l_intI : dIntOf (.int a) = some (.int a) := rfl
theorem l_absI : dAbs (.int a) = some (.int (if a < 0 then -a else a)) := rfl
theorem l_tupL : dTuple (.list xs) = some (.tuple xs) := rfl
theorem l_tupT : dTuple (.tuple xs) = some (.tuple xs) := rfl
theorem l_itL : itemsOf (.list xs) = some xs := rfl
theorem l_itT : itemsOf (.tuple xs) = some xs := rfl
theorem l_itS : itemsOf (.str x) = some (x.cps.toList.map fun c => .str ⟨#[c]⟩) := rfl
theorem l_rg1 : dRng1 [.int a] = if -(2 ^ 62) ≤ a ∧ a < 2 ^ 62 then some (rng 0 a) else none := dec_ite
theorem l_rg2 : dRng2 [.int a, .int b] = if -(2 ^ 62) ≤ a ∧ a < 2 ^ 62 ∧ -(2 ^ 62) ≤ b ∧ b < 2 ^ 62 then some (rng a b) else none := dec_ite
theorem l_ixL : dIx (.list xs) (.int a) = atI xs a := rfl
theorem l_ixT : dIx (.tuple xs) (.int a) = atI xs a := rfl
theorem l_ixS : dIx (.str x) (.int a) = if x.length ≤ 16777216 then (atI x.cps.toList a).map fun c => .str ⟨#[c]⟩ else none := rfl
theorem at_0 {α : Type} {p : α} {r : List α} : atI (p :: r) 0 = some p := by
  unfold atI ixN
  rw [if_pos (by decide), if_pos (by rw [List.length_cons]; omega)]
  rfl
theorem at_1 {α : Type} {p q : α} {r : List α} : atI (p :: q :: r) 1 = some q := by
  unfold atI ixN
  rw [if_pos (by decide), if_pos (by rw [List.length_cons, List.length_cons]; omega)]
  rfl
theorem at_2 {α : Type} {p q s : α} {r : List α} : atI (p :: q :: s :: r) 2 = some s := by
  unfold atI ixN
  rw [if_pos (by decide), if_pos (by simp only [List.length_cons]; omega)]
  rfl
theorem at_3 {α : Type} {p q s t : α} {r : List α} : atI (p :: q :: s :: t :: r) 3 = some t := by
  unfold atI ixN
  rw [if_pos (by decide), if_pos (by simp only [List.length_cons]; omega)]
  rfl
theorem at_nat {α : Type} {l : List α} {i : Int} {z : α} (h0 : 0 ≤ i) (h : l[i.toNat]? = some z) : atI l i = some z := by
  have hl := (List.getElem?_eq_some_iff.mp h).1
  unfold atI ixN
  rw [if_pos h0, if_pos (by omega)]
  exact h
theorem at_last {α : Type} {l : List α} {z : α} : atI (l ++ [z]) (-1) = some z := by
  unfold atI ixN
  rw [if_neg (by decide), if_pos (by rw [List.length_append, List.length_singleton]; omega)]
  have : (-1 + ((l ++ [z]).length : Nat) : Int).toNat = l.length := by rw [List.length_append, List.length_singleton]; omega
  show (l ++ [z])[(-1 + ((l ++ [z]).length : Nat) : Int).toNat]? = some z
  rw [this]
  simp
theorem set_0 {p : D} {v : D} {r : List D} : setAt (.int 0) v (p :: r) = some (v :: r) := by
  show (ixN (p :: r).length 0).map _ = _
  unfold ixN
  rw [if_pos (by decide), if_pos (by rw [List.length_cons]; omega)]
  rfl
theorem set_1 {p q v : D} {r : List D} : setAt (.int 1) v (p :: q :: r) = some (p :: v :: r) := by
  show (ixN (p :: q :: r).length 1).map _ = _
  unfold ixN
  rw [if_pos (by decide), if_pos (by simp only [List.length_cons]; omega)]
  rfl
theorem set_2 {p q s v : D} {r : List D} : setAt (.int 2) v (p :: q :: s :: r) = some (p :: q :: v :: r) := by
  show (ixN (p :: q :: s :: r).length 2).map _ = _
  unfold ixN
  rw [if_pos (by decide), if_pos (by simp only [List.length_cons]; omega)]
  rfl
theorem set_3 {p q s t v : D} {r : List D} : setAt (.int 3) v (p :: q :: s :: t :: r) = some (p :: q :: s :: v :: r) := by
  show (ixN (p :: q :: s :: t :: r).length 3).map _ = _
  unfold ixN
  rw [if_pos (by decide), if_pos (by simp only [List.length_cons]; omega)]
  rfl
end
/-! ### draws -/
theorem okS_d {x : D} : okS (some (.d x)) = true := rfl
theorem okS_l {x : List D} : okS (some (.l x)) = true := rfl
theorem abs_nn (i : Int) : 0 ≤ (if i < 0 then -i else i) := by split <;> omega
theorem tk_nil {e : Env} : takeA [] e = some ([], e) := rfl
theorem tk_v {x : D} {r : List AV} {e : Env} : takeA (.v x :: r) e = (takeA r e).map fun q => (.d x :: q.1, q.2) := rfl
theorem tk_s {j : Nat} {r : List AV} {e : Env} : takeA (.s j :: r) e = if okS e[j]? = true then (takeA r (e.set j .un)).map fun q => ((e[j]?).getD .un :: q.1, q.2) else none := by
  rw [takeA]
  cases h : e[j]? with
  | none => rfl
  | some s => cases s <;> rfl
def bDraw : Env → RS := (sSeq (sIf (tAndD (tCmpD dEqB (eBinO dIx 0 (eC (.int 1))) (eC (.int 0))) (tCmpD dGeB (eBinO dIx 0 (eC (.int 2))) (eCB (d1 dLen) (aOne (eBinO dIx 0 (eC (.int 0))))))) (sSeq (sSetIx 0 (eC (.int 3)) (eBin dMod (eCB (d1 dIntOf) (aOne (eBin dAdd (eBin dMul (eBinO dIx 0 (eC (.int 3))) (eC (.int 48271))) (eC (.int 69621))))) (eC (.int 2147483629))))
 (sRet (eBin dMod (eCB (d1 dIntOf) (aOne (eBin dDiv (eBinO dIx 0 (eC (.int 3))) (eC (.int 13))))) (eOwn 1)))) sNil)
 (sSeq (sIf (tCmpD dEqB (eBinO dIx 0 (eC (.int 1))) (eC (.int 0))) (sSeq (sSetIx 0 (eC (.int 1)) (eCB (d1 dAbs) (aOne (eBin dIx (eBinO dIx 0 (eC (.int 0))) (eBinO dIx 0 (eC (.int 2)))))))
 (sSetIx 0 (eC (.int 2)) (eBin dAdd (eBinO dIx 0 (eC (.int 2))) (eC (.int 1))))) sNil)
 (sSeq (sAsg [0] 2 (eBin dMod (eCB (d1 dIntOf) (aOne (eBinO dIx 0 (eC (.int 1))))) (eOwn 1)))
 (sSeq (sSetIx 0 (eC (.int 1)) (eBin dDiv (eBinO dIx 0 (eC (.int 1))) (eOwn 1)))
 (sRet (eVar 2))))))
def mDraw : List Sl → RF := runF 2 3 [0] bDraw
/-- the draws' state: k is a place of the script, or behind it -/
def Stt (s : Sl) : Prop := ∃ (ns : List Int) (c k z : Int), s = .l (stD ns c k z) ∧ 0 ≤ c ∧ 0 ≤ k ∧ ns.length ≤ 63
theorem draw_ok {s : Sl} {many : Int} (h : Stt s) (h1 : 0 < many) (h2 : many < 1073741824) {Q : Sl → List Sl → Prop} (k : ∀ v s', 0 ≤ v → v < many → Stt s' → Q (.d (.int v)) [s', .un]) : wF (mDraw [s, .d (.int many)]) Q := by
  obtain ⟨ns, c, p, z, rfl, hc, hp, hl⟩ := h
  refine wF_run rfl ?_
  simp only [bDraw, stD, r_lft, r_var, r_own, r_c, r_bin, r_binO, r_cmp, r_tcmp, r_tcmpO, r_tru, r_tand, r_tor, r_tnot, r_eif, r_nif, r_and, r_or, r_not, r_neg, r_cb, r_ncb, r_bm, r_bm0, r_tup, r_lst, r_anil, r_acons, r_aone, r_vnil, r_vcons, r_vslot, r_sl, r_onone, r_osome, r_chain, r_tchain, r_isi, r_iany, r_rg1, r_rg2, r_yes, r_frz, r_call, r_F, r_sif, r_snil, r_pass, r_break, r_cont, r_no, r_ret, r_retN, r_retNone, r_drop, r_dropN, r_asg, r_asgN, r_aug, r_stup, r_app, r_ext, r_setix, r_for, r_retOwn, wE_nComp, wE_ok, wS_nx, wS_rt, wS_bk, wS_ct, wS_seq, wV_d, wV_l, wO_d, wO_l, wL_some, wL_ite, wL_map, cB_true, cB_false, cB_not, wZ_d, wZ_l, wTk_some, wT_some, tk_nil, tk_v, tk_s, putA, mask, d1, d2, tyD, okS_d, okS_l, lOf, asI, Option.isSome_some, Option.getD_some, Option.map_some, List.getElem?_cons_zero, List.getElem?_cons_succ, List.set_cons_zero, List.set_cons_succ, List.replicate_succ, List.replicate_zero, List.cons_append, List.nil_append, List.not_mem_nil, List.mem_cons, or_false, not_false_eq_true, true_and, decide_true, if_true, if_false, reduceIte, Nat.reduceEqDiff, Nat.reduceAdd, Nat.reduceSub, Nat.reduceLeDiff, Nat.reduceLT, Int.reduceLT, Int.reduceLE, Int.reduceAdd, Int.reduceSub, Int.reduceEq, Int.reduceNeg, Nat.reduceMul, decide_false, Bool.not_true, Bool.not_false, and_true, true_or, or_true, Int.reduceMul, Int.reduceToNat, Nat.reducePow, Int.reducePow, Nat.not_lt_zero, l_addI, l_addS, l_addL, l_addT, l_sub, l_div, l_mod, l_mulI, l_mulS, l_mulL, l_eqI, l_eqS, l_neI, l_neS, l_ltI, l_leI, l_gtI, l_geI, l_ltS, l_leS, l_gtS, l_geS, l_truI, l_truB, l_truL, l_truT, l_truN, l_truS, l_lenS, l_lenL, l_lenT, l_intI, l_absI, l_tupL, l_tupT, l_itL, l_itT, l_itS, l_rg1, l_rg2, l_ixL, l_ixT, l_ixS, at_0, at_1, at_2, at_3, set_0, set_1, set_2, set_3]
  have fin : ∀ (c' p' : Int), 0 ≤ c' → 0 ≤ p' → (0 < many ∧ (0 < many ∧ many < 1073741824) ∧ Q (.d (.int (c' % many))) [.l [.list (ns.map .int), .int (c' / many), .int p', .int z], .un]) := fun c' p' hc' hp' =>
    ⟨h1, ⟨h1, h2⟩, k _ _ (Int.emod_nonneg _ (by omega)) (Int.emod_lt_of_pos _ h1) ⟨ns, _, p', z, rfl, Int.ediv_nonneg hc' (by omega), hp', hl⟩⟩
  refine cB_dec (fun c0 => ?_) fun c0 => ?_
  · simp only [r_lft, r_var, r_own, r_c, r_bin, r_binO, r_cmp, r_tcmp, r_tcmpO, r_tru, r_tand, r_tor, r_tnot, r_eif, r_nif, r_and, r_or, r_not, r_neg, r_cb, r_ncb, r_bm, r_bm0, r_tup, r_lst, r_anil, r_acons, r_aone, r_vnil, r_vcons, r_vslot, r_sl, r_onone, r_osome, r_chain, r_tchain, r_isi, r_iany, r_rg1, r_rg2, r_yes, r_frz, r_call, r_F, r_sif, r_snil, r_pass, r_break, r_cont, r_no, r_ret, r_retN, r_retNone, r_drop, r_dropN, r_asg, r_asgN, r_aug, r_stup, r_app, r_ext, r_setix, r_for, r_retOwn, wE_nComp, wE_ok, wS_nx, wS_rt, wS_bk, wS_ct, wS_seq, wV_d, wV_l, wO_d, wO_l, wL_some, wL_ite, wL_map, cB_true, cB_false, cB_not, wZ_d, wZ_l, wTk_some, wT_some, tk_nil, tk_v, tk_s, putA, mask, d1, d2, tyD, okS_d, okS_l, lOf, asI, Option.isSome_some, Option.getD_some, Option.map_some, List.getElem?_cons_zero, List.getElem?_cons_succ, List.set_cons_zero, List.set_cons_succ, List.replicate_succ, List.replicate_zero, List.cons_append, List.nil_append, List.not_mem_nil, List.mem_cons, or_false, not_false_eq_true, true_and, decide_true, if_true, if_false, reduceIte, Nat.reduceEqDiff, Nat.reduceAdd, Nat.reduceSub, Nat.reduceLeDiff, Nat.reduceLT, Int.reduceLT, Int.reduceLE, Int.reduceAdd, Int.reduceSub, Int.reduceEq, Int.reduceNeg, Nat.reduceMul, decide_false, Bool.not_true, Bool.not_false, and_true, true_or, or_true, Int.reduceMul, Int.reduceToNat, Nat.reducePow, Int.reducePow, Nat.not_lt_zero, l_addI, l_addS, l_addL, l_addT, l_sub, l_div, l_mod, l_mulI, l_mulS, l_mulL, l_eqI, l_eqS, l_neI, l_neS, l_ltI, l_leI, l_gtI, l_geI, l_ltS, l_leS, l_gtS, l_geS, l_truI, l_truB, l_truL, l_truT, l_truN, l_truS, l_lenS, l_lenL, l_lenT, l_intI, l_absI, l_tupL, l_tupT, l_itL, l_itT, l_itS, l_rg1, l_rg2, l_ixL, l_ixT, l_ixS, at_0, at_1, at_2, at_3, set_0, set_1, set_2, set_3]
    refine cB_dec (fun p0 => ?_) fun p0 => ?_
    · simp only [r_lft, r_var, r_own, r_c, r_bin, r_binO, r_cmp, r_tcmp, r_tcmpO, r_tru, r_tand, r_tor, r_tnot, r_eif, r_nif, r_and, r_or, r_not, r_neg, r_cb, r_ncb, r_bm, r_bm0, r_tup, r_lst, r_anil, r_acons, r_aone, r_vnil, r_vcons, r_vslot, r_sl, r_onone, r_osome, r_chain, r_tchain, r_isi, r_iany, r_rg1, r_rg2, r_yes, r_frz, r_call, r_F, r_sif, r_snil, r_pass, r_break, r_cont, r_no, r_ret, r_retN, r_retNone, r_drop, r_dropN, r_asg, r_asgN, r_aug, r_stup, r_app, r_ext, r_setix, r_for, r_retOwn, wE_nComp, wE_ok, wS_nx, wS_rt, wS_bk, wS_ct, wS_seq, wV_d, wV_l, wO_d, wO_l, wL_some, wL_ite, wL_map, cB_true, cB_false, cB_not, wZ_d, wZ_l, wTk_some, wT_some, tk_nil, tk_v, tk_s, putA, mask, d1, d2, tyD, okS_d, okS_l, lOf, asI, Option.isSome_some, Option.getD_some, Option.map_some, List.getElem?_cons_zero, List.getElem?_cons_succ, List.set_cons_zero, List.set_cons_succ, List.replicate_succ, List.replicate_zero, List.cons_append, List.nil_append, List.not_mem_nil, List.mem_cons, or_false, not_false_eq_true, true_and, decide_true, if_true, if_false, reduceIte, Nat.reduceEqDiff, Nat.reduceAdd, Nat.reduceSub, Nat.reduceLeDiff, Nat.reduceLT, Int.reduceLT, Int.reduceLE, Int.reduceAdd, Int.reduceSub, Int.reduceEq, Int.reduceNeg, Nat.reduceMul, decide_false, Bool.not_true, Bool.not_false, and_true, true_or, or_true, Int.reduceMul, Int.reduceToNat, Nat.reducePow, Int.reducePow, Nat.not_lt_zero, l_addI, l_addS, l_addL, l_addT, l_sub, l_div, l_mod, l_mulI, l_mulS, l_mulL, l_eqI, l_eqS, l_neI, l_neS, l_ltI, l_leI, l_gtI, l_geI, l_ltS, l_leS, l_gtS, l_geS, l_truI, l_truB, l_truL, l_truT, l_truN, l_truS, l_lenS, l_lenL, l_lenT, l_intI, l_absI, l_tupL, l_tupT, l_itL, l_itT, l_itS, l_rg1, l_rg2, l_ixL, l_ixT, l_ixS, at_0, at_1, at_2, at_3, set_0, set_1, set_2, set_3]
      exact ⟨h1, k _ _ (Int.emod_nonneg _ (by omega)) (Int.emod_lt_of_pos _ h1) ⟨ns, c, p, _, rfl, hc, hp, hl⟩⟩
    · simp only [r_lft, r_var, r_own, r_c, r_bin, r_binO, r_cmp, r_tcmp, r_tcmpO, r_tru, r_tand, r_tor, r_tnot, r_eif, r_nif, r_and, r_or, r_not, r_neg, r_cb, r_ncb, r_bm, r_bm0, r_tup, r_lst, r_anil, r_acons, r_aone, r_vnil, r_vcons, r_vslot, r_sl, r_onone, r_osome, r_chain, r_tchain, r_isi, r_iany, r_rg1, r_rg2, r_yes, r_frz, r_call, r_F, r_sif, r_snil, r_pass, r_break, r_cont, r_no, r_ret, r_retN, r_retNone, r_drop, r_dropN, r_asg, r_asgN, r_aug, r_stup, r_app, r_ext, r_setix, r_for, r_retOwn, wE_nComp, wE_ok, wS_nx, wS_rt, wS_bk, wS_ct, wS_seq, wV_d, wV_l, wO_d, wO_l, wL_some, wL_ite, wL_map, cB_true, cB_false, cB_not, wZ_d, wZ_l, wTk_some, wT_some, tk_nil, tk_v, tk_s, putA, mask, d1, d2, tyD, okS_d, okS_l, lOf, asI, Option.isSome_some, Option.getD_some, Option.map_some, List.getElem?_cons_zero, List.getElem?_cons_succ, List.set_cons_zero, List.set_cons_succ, List.replicate_succ, List.replicate_zero, List.cons_append, List.nil_append, List.not_mem_nil, List.mem_cons, or_false, not_false_eq_true, true_and, decide_true, if_true, if_false, reduceIte, Nat.reduceEqDiff, Nat.reduceAdd, Nat.reduceSub, Nat.reduceLeDiff, Nat.reduceLT, Int.reduceLT, Int.reduceLE, Int.reduceAdd, Int.reduceSub, Int.reduceEq, Int.reduceNeg, Nat.reduceMul, decide_false, Bool.not_true, Bool.not_false, and_true, true_or, or_true, Int.reduceMul, Int.reduceToNat, Nat.reducePow, Int.reducePow, Nat.not_lt_zero, l_addI, l_addS, l_addL, l_addT, l_sub, l_div, l_mod, l_mulI, l_mulS, l_mulL, l_eqI, l_eqS, l_neI, l_neS, l_ltI, l_leI, l_gtI, l_geI, l_ltS, l_leS, l_gtS, l_geS, l_truI, l_truB, l_truL, l_truT, l_truN, l_truS, l_lenS, l_lenL, l_lenT, l_intI, l_absI, l_tupL, l_tupT, l_itL, l_itT, l_itS, l_rg1, l_rg2, l_ixL, l_ixT, l_ixS, at_0, at_1, at_2, at_3, set_0, set_1, set_2, set_3]
      refine cB_dec (fun _ => ?_) fun z => absurd c0 z
      rw [List.length_map] at p0
      have hk : p.toNat < ns.length := by omega
      have e : atI (ns.map PyData.int) p = some (.int ns[p.toNat]) := at_nat hp (by rw [List.getElem?_map, List.getElem?_eq_getElem hk]; rfl)
      simp only [r_lft, r_var, r_own, r_c, r_bin, r_binO, r_cmp, r_tcmp, r_tcmpO, r_tru, r_tand, r_tor, r_tnot, r_eif, r_nif, r_and, r_or, r_not, r_neg, r_cb, r_ncb, r_bm, r_bm0, r_tup, r_lst, r_anil, r_acons, r_aone, r_vnil, r_vcons, r_vslot, r_sl, r_onone, r_osome, r_chain, r_tchain, r_isi, r_iany, r_rg1, r_rg2, r_yes, r_frz, r_call, r_F, r_sif, r_snil, r_pass, r_break, r_cont, r_no, r_ret, r_retN, r_retNone, r_drop, r_dropN, r_asg, r_asgN, r_aug, r_stup, r_app, r_ext, r_setix, r_for, r_retOwn, wE_nComp, wE_ok, wS_nx, wS_rt, wS_bk, wS_ct, wS_seq, wV_d, wV_l, wO_d, wO_l, wL_some, wL_ite, wL_map, cB_true, cB_false, cB_not, wZ_d, wZ_l, wTk_some, wT_some, tk_nil, tk_v, tk_s, putA, mask, d1, d2, tyD, okS_d, okS_l, lOf, asI, Option.isSome_some, Option.getD_some, Option.map_some, List.getElem?_cons_zero, List.getElem?_cons_succ, List.set_cons_zero, List.set_cons_succ, List.replicate_succ, List.replicate_zero, List.cons_append, List.nil_append, List.not_mem_nil, List.mem_cons, or_false, not_false_eq_true, true_and, decide_true, if_true, if_false, reduceIte, Nat.reduceEqDiff, Nat.reduceAdd, Nat.reduceSub, Nat.reduceLeDiff, Nat.reduceLT, Int.reduceLT, Int.reduceLE, Int.reduceAdd, Int.reduceSub, Int.reduceEq, Int.reduceNeg, Nat.reduceMul, decide_false, Bool.not_true, Bool.not_false, and_true, true_or, or_true, Int.reduceMul, Int.reduceToNat, Nat.reducePow, Int.reducePow, Nat.not_lt_zero, l_addI, l_addS, l_addL, l_addT, l_sub, l_div, l_mod, l_mulI, l_mulS, l_mulL, l_eqI, l_eqS, l_neI, l_neS, l_ltI, l_leI, l_gtI, l_geI, l_ltS, l_leS, l_gtS, l_geS, l_truI, l_truB, l_truL, l_truT, l_truN, l_truS, l_lenS, l_lenL, l_lenT, l_intI, l_absI, l_tupL, l_tupT, l_itL, l_itT, l_itS, l_rg1, l_rg2, l_ixL, l_ixT, l_ixS, at_0, at_1, at_2, at_3, set_0, set_1, set_2, set_3, e]
      exact fin _ _ (abs_nn _) (by omega)
  · simp only [r_lft, r_var, r_own, r_c, r_bin, r_binO, r_cmp, r_tcmp, r_tcmpO, r_tru, r_tand, r_tor, r_tnot, r_eif, r_nif, r_and, r_or, r_not, r_neg, r_cb, r_ncb, r_bm, r_bm0, r_tup, r_lst, r_anil, r_acons, r_aone, r_vnil, r_vcons, r_vslot, r_sl, r_onone, r_osome, r_chain, r_tchain, r_isi, r_iany, r_rg1, r_rg2, r_yes, r_frz, r_call, r_F, r_sif, r_snil, r_pass, r_break, r_cont, r_no, r_ret, r_retN, r_retNone, r_drop, r_dropN, r_asg, r_asgN, r_aug, r_stup, r_app, r_ext, r_setix, r_for, r_retOwn, wE_nComp, wE_ok, wS_nx, wS_rt, wS_bk, wS_ct, wS_seq, wV_d, wV_l, wO_d, wO_l, wL_some, wL_ite, wL_map, cB_true, cB_false, cB_not, wZ_d, wZ_l, wTk_some, wT_some, tk_nil, tk_v, tk_s, putA, mask, d1, d2, tyD, okS_d, okS_l, lOf, asI, Option.isSome_some, Option.getD_some, Option.map_some, List.getElem?_cons_zero, List.getElem?_cons_succ, List.set_cons_zero, List.set_cons_succ, List.replicate_succ, List.replicate_zero, List.cons_append, List.nil_append, List.not_mem_nil, List.mem_cons, or_false, not_false_eq_true, true_and, decide_true, if_true, if_false, reduceIte, Nat.reduceEqDiff, Nat.reduceAdd, Nat.reduceSub, Nat.reduceLeDiff, Nat.reduceLT, Int.reduceLT, Int.reduceLE, Int.reduceAdd, Int.reduceSub, Int.reduceEq, Int.reduceNeg, Nat.reduceMul, decide_false, Bool.not_true, Bool.not_false, and_true, true_or, or_true, Int.reduceMul, Int.reduceToNat, Nat.reducePow, Int.reducePow, Nat.not_lt_zero, l_addI, l_addS, l_addL, l_addT, l_sub, l_div, l_mod, l_mulI, l_mulS, l_mulL, l_eqI, l_eqS, l_neI, l_neS, l_ltI, l_leI, l_gtI, l_geI, l_ltS, l_leS, l_gtS, l_geS, l_truI, l_truB, l_truL, l_truT, l_truN, l_truS, l_lenS, l_lenL, l_lenT, l_intI, l_absI, l_tupL, l_tupT, l_itL, l_itT, l_itS, l_rg1, l_rg2, l_ixL, l_ixT, l_ixS, at_0, at_1, at_2, at_3, set_0, set_1, set_2, set_3]
    refine cB_dec (fun z => absurd z c0) fun _ => ?_
    simp only [r_lft, r_var, r_own, r_c, r_bin, r_binO, r_cmp, r_tcmp, r_tcmpO, r_tru, r_tand, r_tor, r_tnot, r_eif, r_nif, r_and, r_or, r_not, r_neg, r_cb, r_ncb, r_bm, r_bm0, r_tup, r_lst, r_anil, r_acons, r_aone, r_vnil, r_vcons, r_vslot, r_sl, r_onone, r_osome, r_chain, r_tchain, r_isi, r_iany, r_rg1, r_rg2, r_yes, r_frz, r_call, r_F, r_sif, r_snil, r_pass, r_break, r_cont, r_no, r_ret, r_retN, r_retNone, r_drop, r_dropN, r_asg, r_asgN, r_aug, r_stup, r_app, r_ext, r_setix, r_for, r_retOwn, wE_nComp, wE_ok, wS_nx, wS_rt, wS_bk, wS_ct, wS_seq, wV_d, wV_l, wO_d, wO_l, wL_some, wL_ite, wL_map, cB_true, cB_false, cB_not, wZ_d, wZ_l, wTk_some, wT_some, tk_nil, tk_v, tk_s, putA, mask, d1, d2, tyD, okS_d, okS_l, lOf, asI, Option.isSome_some, Option.getD_some, Option.map_some, List.getElem?_cons_zero, List.getElem?_cons_succ, List.set_cons_zero, List.set_cons_succ, List.replicate_succ, List.replicate_zero, List.cons_append, List.nil_append, List.not_mem_nil, List.mem_cons, or_false, not_false_eq_true, true_and, decide_true, if_true, if_false, reduceIte, Nat.reduceEqDiff, Nat.reduceAdd, Nat.reduceSub, Nat.reduceLeDiff, Nat.reduceLT, Int.reduceLT, Int.reduceLE, Int.reduceAdd, Int.reduceSub, Int.reduceEq, Int.reduceNeg, Nat.reduceMul, decide_false, Bool.not_true, Bool.not_false, and_true, true_or, or_true, Int.reduceMul, Int.reduceToNat, Nat.reducePow, Int.reducePow, Nat.not_lt_zero, l_addI, l_addS, l_addL, l_addT, l_sub, l_div, l_mod, l_mulI, l_mulS, l_mulL, l_eqI, l_eqS, l_neI, l_neS, l_ltI, l_leI, l_gtI, l_geI, l_ltS, l_leS, l_gtS, l_geS, l_truI, l_truB, l_truL, l_truT, l_truN, l_truS, l_lenS, l_lenL, l_lenT, l_intI, l_absI, l_tupL, l_tupT, l_itL, l_itT, l_itS, l_rg1, l_rg2, l_ixL, l_ixT, l_ixS, at_0, at_1, at_2, at_3, set_0, set_1, set_2, set_3]
    exact fin c p hc hp
/-! ### picks -/
def bPick : Env → RS := (sRet (eBin dIx (eVar 1) (fun env => frz ((eCall false mDraw (vSlot 0 (vCons (eCB (d1 dLen) (aOne (eOwn 1))) vNil))) env))))
def mPick : List Sl → RF := runF 2 2 [0] bPick
theorem okS_stt {s : Sl} (h : Stt s) : okS (some s) = true := by obtain ⟨_, _, _, _, rfl, _⟩ := h; rfl
theorem pick_ok {s : Sl} {xs : List D} (h : Stt s) (h1 : xs ≠ []) (h2 : xs.length < 1073741824) {Q : Sl → List Sl → Prop} (k : ∀ v s', v ∈ xs → Stt s' → Q (.d v) [s', .un]) : wF (mPick [s, .d (.list xs)]) Q := by
  refine wF_run rfl ?_
  simp only [bPick, r_lft, r_var, r_own, r_c, r_bin, r_binO, r_cmp, r_tcmp, r_tcmpO, r_tru, r_tand, r_tor, r_tnot, r_eif, r_nif, r_and, r_or, r_not, r_neg, r_cb, r_ncb, r_bm, r_bm0, r_tup, r_lst, r_anil, r_acons, r_aone, r_vnil, r_vcons, r_vslot, r_sl, r_onone, r_osome, r_chain, r_tchain, r_isi, r_iany, r_rg1, r_rg2, r_yes, r_frz, r_call, r_F, r_sif, r_snil, r_pass, r_break, r_cont, r_no, r_ret, r_retN, r_retNone, r_drop, r_dropN, r_asg, r_asgN, r_aug, r_stup, r_app, r_ext, r_setix, r_for, r_retOwn, wE_nComp, wE_ok, wS_nx, wS_rt, wS_bk, wS_ct, wS_seq, wV_d, wV_l, wO_d, wO_l, wL_some, wL_ite, wL_map, cB_true, cB_false, cB_not, wZ_d, wZ_l, wTk_some, wT_some, tk_nil, tk_v, tk_s, putA, mask, d1, d2, tyD, okS_d, okS_l, lOf, asI, Option.isSome_some, Option.getD_some, Option.map_some, List.getElem?_cons_zero, List.getElem?_cons_succ, List.set_cons_zero, List.set_cons_succ, List.replicate_succ, List.replicate_zero, List.cons_append, List.nil_append, List.not_mem_nil, List.mem_cons, or_false, not_false_eq_true, true_and, decide_true, if_true, if_false, reduceIte, Nat.reduceEqDiff, Nat.reduceAdd, Nat.reduceSub, Nat.reduceLeDiff, Nat.reduceLT, Int.reduceLT, Int.reduceLE, Int.reduceAdd, Int.reduceSub, Int.reduceEq, Int.reduceNeg, Nat.reduceMul, decide_false, Bool.not_true, Bool.not_false, and_true, true_or, or_true, Int.reduceMul, Int.reduceToNat, Nat.reducePow, Int.reducePow, Nat.not_lt_zero, l_addI, l_addS, l_addL, l_addT, l_sub, l_div, l_mod, l_mulI, l_mulS, l_mulL, l_eqI, l_eqS, l_neI, l_neS, l_ltI, l_leI, l_gtI, l_geI, l_ltS, l_leS, l_gtS, l_geS, l_truI, l_truB, l_truL, l_truT, l_truN, l_truS, l_lenS, l_lenL, l_lenT, l_intI, l_absI, l_tupL, l_tupT, l_itL, l_itT, l_itS, l_rg1, l_rg2, l_ixL, l_ixT, l_ixS, at_0, at_1, at_2, at_3, set_0, set_1, set_2, set_3, okS_stt h]
  have hp := List.length_pos_iff.mpr h1
  refine draw_ok (many := xs.length) h (by omega) (by omega) fun v s' v0 v1 hs => ?_
  simp only [r_lft, r_var, r_own, r_c, r_bin, r_binO, r_cmp, r_tcmp, r_tcmpO, r_tru, r_tand, r_tor, r_tnot, r_eif, r_nif, r_and, r_or, r_not, r_neg, r_cb, r_ncb, r_bm, r_bm0, r_tup, r_lst, r_anil, r_acons, r_aone, r_vnil, r_vcons, r_vslot, r_sl, r_onone, r_osome, r_chain, r_tchain, r_isi, r_iany, r_rg1, r_rg2, r_yes, r_frz, r_call, r_F, r_sif, r_snil, r_pass, r_break, r_cont, r_no, r_ret, r_retN, r_retNone, r_drop, r_dropN, r_asg, r_asgN, r_aug, r_stup, r_app, r_ext, r_setix, r_for, r_retOwn, wE_nComp, wE_ok, wS_nx, wS_rt, wS_bk, wS_ct, wS_seq, wV_d, wV_l, wO_d, wO_l, wL_some, wL_ite, wL_map, cB_true, cB_false, cB_not, wZ_d, wZ_l, wTk_some, wT_some, tk_nil, tk_v, tk_s, putA, mask, d1, d2, tyD, okS_d, okS_l, lOf, asI, Option.isSome_some, Option.getD_some, Option.map_some, List.getElem?_cons_zero, List.getElem?_cons_succ, List.set_cons_zero, List.set_cons_succ, List.replicate_succ, List.replicate_zero, List.cons_append, List.nil_append, List.not_mem_nil, List.mem_cons, or_false, not_false_eq_true, true_and, decide_true, if_true, if_false, reduceIte, Nat.reduceEqDiff, Nat.reduceAdd, Nat.reduceSub, Nat.reduceLeDiff, Nat.reduceLT, Int.reduceLT, Int.reduceLE, Int.reduceAdd, Int.reduceSub, Int.reduceEq, Int.reduceNeg, Nat.reduceMul, decide_false, Bool.not_true, Bool.not_false, and_true, true_or, or_true, Int.reduceMul, Int.reduceToNat, Nat.reducePow, Int.reducePow, Nat.not_lt_zero, l_addI, l_addS, l_addL, l_addT, l_sub, l_div, l_mod, l_mulI, l_mulS, l_mulL, l_eqI, l_eqS, l_neI, l_neS, l_ltI, l_leI, l_gtI, l_geI, l_ltS, l_leS, l_gtS, l_geS, l_truI, l_truB, l_truL, l_truT, l_truN, l_truS, l_lenS, l_lenL, l_lenT, l_intI, l_absI, l_tupL, l_tupT, l_itL, l_itT, l_itS, l_rg1, l_rg2, l_ixL, l_ixT, l_ixS, at_0, at_1, at_2, at_3, set_0, set_1, set_2, set_3]
  have hv : v.toNat < xs.length := by omega
  rw [at_nat v0 (List.getElem?_eq_getElem hv), wL_some]
  exact k _ s' (List.getElem_mem hv) hs
/-! ### same -/
mutual
def wt : D → Nat
  | .none => 4
  | .bool _ => 5
  | .int i => i.natAbs.log2 + 3
  | .str x => 10 * x.length + 2
  | .list xs => wtA xs + 3
  | .tuple xs => wtA xs + 3
  | .dict _ => 0
def wtA : List D → Nat
  | [] => 0
  | x :: xs => wt x + 2 + wtA xs
end
def fine (x : D) : Bool := x.canLay0 && x.showable && decide (x.depth ≤ 64)
theorem strOk_lt {x : Str} (h : PyData.strOk x = true) : ∀ c ∈ x.cps.toList, c < 16 ^ 8 := fun c hc => by
  unfold PyData.strOk at h
  rw [← Array.all_toList, List.all_eq_true] at h
  have := of_decide_eq_true (h c hc)
  omega
theorem join_len : ∀ ts : List Str, (Str.join ", " ts).length ≤ piled ts
  | [] => by rw [piled_nil]; exact Nat.le_of_eq rfl
  | t :: ts => by have := join_length_add (t :: ts) (by simp); omega
mutual
theorem shown_wt : ∀ (x : D), x.canLay0 = true → x.showable = true → x.shown.length ≤ wt x
  | .none, _, _ => by rw [PyData.shown, wt]; decide
  | .bool b, _, _ => by rw [PyData.shown, wt]; cases b <;> decide
  | .int i, _, h => by
    rw [PyData.showable] at h
    rw [PyData.shown, wt]
    have h2 := int_text_length_le (a := i) (k := i.natAbs.log2 + 1) (by omega) (by omega)
    rw [PySem.ofString_length]; omega
  | .str x, h, _ => by
    rw [PyData.canLay0] at h
    rw [PyData.shown, wt]
    exact PySem.StrLaws.reprText_len x (strOk_lt h)
  | .list xs, h1, h2 => by
    rw [PyData.canLay0] at h1
    rw [PyData.showable] at h2
    rw [PyData.shown, wt, listText_eq_join, strLen_append, strLen_append]
    have := join_len (PyData.shownAll xs)
    have := shownAll_wt xs h1 h2
    have e1 : ((("[" : String) : Str)).length = 1 := rfl
    have e2 : ((("]" : String) : Str)).length = 1 := rfl
    omega
  | .tuple xs, h1, h2 => by
    rw [PyData.canLay0] at h1
    rw [PyData.showable] at h2
    rw [PyData.shown, wt]
    unfold tupleText
    rw [strLen_append, strLen_append]
    have := join_len (PyData.shownAll xs)
    have := shownAll_wt xs h1 h2
    have e1 : ((("(" : String) : Str)).length = 1 := rfl
    have e2 : (((if (PyData.shownAll xs).length == 1 then ",)" else ")" : String) : Str)).length ≤ 2 := by split <;> decide
    omega
  | .dict _, h, _ => nomatch h
theorem shownAll_wt : ∀ (xs : List D), PyData.canLayAll0 xs = true → PyData.showableAll xs = true → piled (PyData.shownAll xs) ≤ wtA xs
  | [], _, _ => by rw [PyData.shownAll, piled_nil]; exact Nat.zero_le _
  | x :: xs, h1, h2 => by
    rw [PyData.canLayAll0, Bool.and_eq_true] at h1
    rw [PyData.showableAll, Bool.and_eq_true] at h2
    rw [PyData.shownAll, piled_cons, wtA]
    have := shown_wt x h1.1 h2.1
    have := shownAll_wt xs h1.2 h2.2
    omega
end
mutual
theorem noDict_of : ∀ (x : D), x.canLay0 = true → x.hasDict = false
  | .none, _ => rfl
  | .bool _, _ => rfl
  | .int _, _ => rfl
  | .str _, _ => rfl
  | .list xs, h => by rw [PyData.canLay0] at h; rw [PyData.hasDict]; exact noDictAll_of xs h
  | .tuple xs, h => by rw [PyData.canLay0] at h; rw [PyData.hasDict]; exact noDictAll_of xs h
  | .dict _, h => nomatch h
theorem noDictAll_of : ∀ (xs : List D), PyData.canLayAll0 xs = true → PyData.hasDictAll xs = false
  | [], _ => rfl
  | x :: xs, h => by
    rw [PyData.canLayAll0, Bool.and_eq_true] at h
    rw [PyData.hasDictAll, noDict_of x h.1, noDictAll_of xs h.2]
    rfl
end
def bSame : Env → RS := (sRet (eAnd (eCmp dEqB (eVar 0) (eOwn 1)) (eCmp dEqB (eCB (d1 dRepr) (aOne (eOwn 0))) (eCB (d1 dRepr) (aOne (eOwn 1))))))
def mSame : List Sl → RF := runF 2 2 [] bSame
theorem fine_eq {x : D} (h : fine x = true) : dEqB x x = some true := by
  simp only [fine, Bool.and_eq_true, decide_eq_true_eq] at h
  obtain ⟨⟨h1, h2⟩, h3⟩ := h
  have hs : SeqAt.shaped x = true := by unfold SeqAt.shaped; rw [h1, decide_eq_true h3]; rfl
  have hq := PySem.SeqAt.eqv_refl x h1
  have gen : (if SeqAt.shaped x && SeqAt.shaped x then some (PyData.eqv x x) else none) = some true := by rw [hs, hq]; rfl
  cases x with
  | str a => rw [l_eqS, decide_eq_true rfl]
  | _ => exact gen
theorem fine_repr {x : D} (h : fine x = true) (hw : wt x ≤ 16777216) : dRepr x = some (.str x.shown) := by
  simp only [fine, Bool.and_eq_true, decide_eq_true_eq] at h
  obtain ⟨⟨h1, h2⟩, h3⟩ := h
  unfold dRepr
  rw [h2, noDict_of x h1, decide_eq_true h3, decide_eq_true (Nat.le_trans (shown_wt x h1 h2) hw)]
  rfl
theorem same_ok {x : D} (h : fine x = true) (hw : wt x ≤ 16777216) : mSame [.d x, .d x] = .ok (.d (.bool true)) [.un, .un] := by
  have : wF (mSame [.d x, .d x]) fun s o => RF.ok s o = .ok (.d (.bool true)) [.un, .un] := by
    refine wF_run rfl ?_
    simp only [bSame, r_lft, r_var, r_own, r_c, r_bin, r_binO, r_cmp, r_tcmp, r_tcmpO, r_tru, r_tand, r_tor, r_tnot, r_eif, r_nif, r_and, r_or, r_not, r_neg, r_cb, r_ncb, r_bm, r_bm0, r_tup, r_lst, r_anil, r_acons, r_aone, r_vnil, r_vcons, r_vslot, r_sl, r_onone, r_osome, r_chain, r_tchain, r_isi, r_iany, r_rg1, r_rg2, r_yes, r_frz, r_call, r_F, r_sif, r_snil, r_pass, r_break, r_cont, r_no, r_ret, r_retN, r_retNone, r_drop, r_dropN, r_asg, r_asgN, r_aug, r_stup, r_app, r_ext, r_setix, r_for, r_retOwn, wE_nComp, wE_ok, wS_nx, wS_rt, wS_bk, wS_ct, wS_seq, wV_d, wV_l, wO_d, wO_l, wL_some, wL_ite, wL_map, cB_true, cB_false, cB_not, wZ_d, wZ_l, wTk_some, wT_some, tk_nil, tk_v, tk_s, putA, mask, d1, d2, tyD, okS_d, okS_l, lOf, asI, Option.isSome_some, Option.getD_some, Option.map_some, List.getElem?_cons_zero, List.getElem?_cons_succ, List.set_cons_zero, List.set_cons_succ, List.replicate_succ, List.replicate_zero, List.cons_append, List.nil_append, List.not_mem_nil, List.mem_cons, or_false, not_false_eq_true, true_and, decide_true, if_true, if_false, reduceIte, Nat.reduceEqDiff, Nat.reduceAdd, Nat.reduceSub, Nat.reduceLeDiff, Nat.reduceLT, Int.reduceLT, Int.reduceLE, Int.reduceAdd, Int.reduceSub, Int.reduceEq, Int.reduceNeg, Nat.reduceMul, decide_false, Bool.not_true, Bool.not_false, and_true, true_or, or_true, Int.reduceMul, Int.reduceToNat, Nat.reducePow, Int.reducePow, Nat.not_lt_zero, l_addI, l_addS, l_addL, l_addT, l_sub, l_div, l_mod, l_mulI, l_mulS, l_mulL, l_eqI, l_eqS, l_neI, l_neS, l_ltI, l_leI, l_gtI, l_geI, l_ltS, l_leS, l_gtS, l_geS, l_truI, l_truB, l_truL, l_truT, l_truN, l_truS, l_lenS, l_lenL, l_lenT, l_intI, l_absI, l_tupL, l_tupT, l_itL, l_itT, l_itS, l_rg1, l_rg2, l_ixL, l_ixT, l_ixS, at_0, at_1, at_2, at_3, set_0, set_1, set_2, set_3, fine_eq h, fine_repr h hw]
  cases e : mSame [.d x, .d x] with
  | ok s o => rw [e] at this; exact this
  | ex c y o => rw [e] at this; exact this.elim
  | no => rw [e] at this; exact this.elim
/-- an equation from what holds behind -/
theorem eqF {r : RF} {s : Sl} {o : List Sl} (h : wF r fun s' o' => s' = s ∧ o' = o) : r = .ok s o := by
  cases r with
  | ok s' o' => obtain ⟨rfl, rfl⟩ := (show s' = s ∧ o' = o from h); rfl
  | ex c y o => exact (show False from h).elim
  | no => exact (show False from h).elim
end BV

/-! BV18: texts as lists of signs. -/
namespace BV
open PySem PySem.Spec PyProof.Rows L2
abbrev S (l : List Nat) : Str := ⟨l.toArray⟩
theorem S_len (l : List Nat) : (S l).length = l.length := List.size_toArray
theorem S_app (a b : List Nat) : S a ++ S b = S (a ++ b) := congrArg Str.mk (by simp)
theorem S_tl (x : Str) : x = S x.cps.toList := by cases x; simp
theorem S_inj {a b : List Nat} : S a = S b ↔ a = b := ⟨fun h => by have := congrArg (fun x : Str => x.cps.toList) h; simpa using this, fun h => by rw [h]⟩
theorem sLt_one (a b : Nat) : sLt ⟨#[a]⟩ ⟨#[b]⟩ = decide (a < b) := by
  unfold sLt
  by_cases h : a < b
  · rw [decide_eq_true h]; exact decide_eq_true (List.Lex.rel h)
  · rw [decide_eq_false h]
    refine decide_eq_false fun z => ?_
    cases z with
    | rel z => exact h z
    | cons z => cases z
theorem all_true : ∀ {xs : List D}, (∀ x ∈ xs, x = .bool true) → dAll (.list xs) = some (.bool true) := fun {xs} h => by
  have : ∀ ys : List D, (∀ x ∈ ys, x = .bool true) → ∃ bs : List Bool, asBools ys = some bs ∧ bs.all id = true := fun ys => by
    induction ys with
    | nil => exact fun _ => ⟨[], rfl, rfl⟩
    | cons y r ih =>
      intro h
      obtain ⟨bs, e1, e2⟩ := ih fun x hx => h x (List.mem_cons_of_mem _ hx)
      rw [h y List.mem_cons_self]
      exact ⟨true :: bs, by rw [asBools, e1]; rfl, by simp [e2]⟩
  obtain ⟨bs, e1, e2⟩ := this xs h
  show (asBools xs).map _ = _
  rw [e1]
  show some (PyData.bool (bs.all id)) = _
  rw [e2]
/-- the place of c behind p and r -/
theorem find3_at {p r q : List Nat} {c : Nat} (h : c ∉ r) : Txt.find3 (S (p ++ (r ++ c :: q))) ⟨#[c]⟩ (p.length : Nat) = ((p.length + r.length : Nat) : Int) := by
  have hl : (S (p ++ (r ++ c :: q))).length = p.length + (r.length + (q.length + 1)) := by rw [S_len]; simp
  have hf : fromIndex (S (p ++ (r ++ c :: q))).length (p.length : Nat) = p.length := by
    rw [hl]; unfold fromIndex; (first | (simp; done) | (simp; omega))
  have get : ∀ v, (S (p ++ (r ++ c :: q))).cps.getD v 0 = (p ++ (r ++ c :: q)).getD v 0 := fun v => by simp [Array.getD_eq_getD_getElem?, List.getD_eq_getElem?_getD]
  have gc : (p ++ (r ++ c :: q)).getD (p.length + r.length) 0 = c := by
    rw [List.getD_eq_getElem?_getD, List.getElem?_append_right (by omega), List.getElem?_append_right (by omega)]
    simp
  rcases PySem.StrLaws.find3_spec (S (p ++ (r ++ c :: q))) c (p.length : Nat) with ⟨_, h2⟩ | ⟨k, h1, h2, h3, h4, h5⟩
  · exact absurd gc (by have := h2 (p.length + r.length) (by rw [hf]; omega) (by rw [hl]; omega); rwa [get] at this)
  · rw [hf] at h2 h5
    rw [h1]
    have lo : ¬ k < p.length + r.length := fun z => by
      rw [get, List.getD_eq_getElem?_getD, List.getElem?_append_right h2, List.getElem?_append_left (by omega)] at h4
      have hk : k - p.length < r.length := by omega
      rw [List.getElem?_eq_getElem hk] at h4
      exact h (h4 ▸ List.getElem_mem hk)
    have hi : ¬ p.length + r.length < k := fun z => by
      have := h5 (p.length + r.length) (by omega) z
      rw [get] at this
      exact this gc
    have : k = p.length + r.length := by omega
    rw [this]
theorem cut_at {p r q : List Nat} : cutS (S (p ++ (r ++ q))) (some (p.length : Nat)) (some ((p.length + r.length : Nat) : Int)) = S r := by
  unfold cutS
  rw [HT.sIx_nat, HT.sIx_nat, S_len]
  have e1 : min p.length (p ++ (r ++ q)).length = p.length := by simp
  have e2 : min (p.length + r.length) (p ++ (r ++ q)).length = p.length + r.length := by simp
  rw [e1, e2]
  refine congrArg Str.mk ?_
  have : (S (p ++ (r ++ q))).cps.toList = p ++ (r ++ q) := by simp
  rw [this, List.drop_left, show p.length + r.length - p.length = r.length by omega, List.take_left]
/-! ### more leaves -/
section
variable {x : Str} {a : Int} {xs : List D} {k : Bool} {c : Nat}
theorem l_isSS : isI "str" (.str x) = some true := rfl
theorem l_isST : isI "str" (.tuple xs) = some false := rfl
theorem l_isSL : isI "str" (.list xs) = some false := rfl
theorem l_isSI : isI "str" (.int a) = some false := rfl
theorem l_isTT : isI "tuple" (.tuple xs) = some true := rfl
theorem l_isTS : isI "tuple" (.str x) = some false := rfl
theorem l_isTL : isI "tuple" (.list xs) = some false := rfl
theorem l_isTI : isI "tuple" (.int a) = some false := rfl
theorem l_isII : isI "int" (.int a) = some true := rfl
theorem l_isBI : isI "bool" (.int a) = some false := rfl
theorem l_isLL : isI "list" (.list xs) = some true := rfl
theorem l_ord : dOrdC (.str ⟨#[c]⟩) = some (.int c) := rfl
theorem ch_sp : (Str.ofString " ") = ⟨#[32]⟩ := rfl
theorem ch_ti : (Str.ofString "~") = ⟨#[126]⟩ := rfl
theorem ch_nl : (Str.ofString "\n") = ⟨#[10]⟩ := rfl
theorem wE_compL_eq {vs : List Nat} {tm : D → Env → Option Env} {tt : Env → RE Bool} {te : Env → RE D} {ys acc acc' : List D} {e E : Env} {Q : List D → Env → Prop} (h : compL vs tm tt te ys acc e = .ok acc' E) (q : Q acc' E) : wE (compL vs tm tt te ys acc e) Q := by rw [h]; exact q
theorem tgD_n {pins : List Nat} {i : Nat} {y : D} {e : Env} : tgDo pins (.n i) y e = if i ∈ pins then none else some (e.set i (.d y)) := by rw [tgDo]
theorem tgD_t {pins : List Nat} {ts : List Tg} {e : Env} : tgDo pins (.t ts) (.tuple xs) e = tgAll pins ts xs e := by rw [tgDo]
theorem tgA_nil {pins : List Nat} {e : Env} : tgAll pins [] [] e = some e := by rw [tgAll]
theorem tgA_cons {pins : List Nat} {t : Tg} {ts : List Tg} {y : D} {e : Env} : tgAll pins (t :: ts) (y :: xs) e = (tgDo pins t y e).bind (tgAll pins ts xs) := by
  rw [tgAll]
  cases tgDo pins t y e <;> rfl
theorem wE_comp {vs : List Nat} {tm : D → Env → Option Env} {tt : Env → RE Bool} {te : Env → RE D} {ys : List D} {e : Env} {Q : List D → Env → Prop} (E : Env) (f : D → Option D) (hE : wipeE e vs = E) (hl : ys.length ≤ 16777216)
    (h : ∀ x ∈ ys, ∃ e1, tm x E = some e1 ∧ wE (tt e1) fun b e2 => if b then wE (te e2) fun y e3 => f x = some y ∧ wipeE e3 vs = E else f x = none ∧ wipeE e2 vs = E) (q : Q (ys.filterMap f) E) : wE (compL vs tm tt te ys [] e) Q :=
  wE_compL_eq (acc' := ys.filterMap f) (by rw [compL_pure f ys [] e (by simpa using hl) hE h]; rfl) q
/-- a comprehension over ys, laid out by g; c tells each one's result -/
theorem wE_compG {α : Type} {vs : List Nat} {tm : D → Env → Option Env} {tt : Env → RE Bool} {te : Env → RE D} {e : Env} {Q : List D → Env → Prop} (E : Env) (g : α → D) (c : α → Option D) (ys : List α) (hE : wipeE e vs = E) (hl : ys.length ≤ 16777216)
    (h : ∀ p ∈ ys, ∃ e1, tm (g p) E = some e1 ∧ wE (tt e1) fun b e2 => if b then wE (te e2) fun y e3 => c p = some y ∧ wipeE e3 vs = E else c p = none ∧ wipeE e2 vs = E) (q : Q (ys.filterMap c) E) : wE (compL vs tm tt te (ys.map g) [] e) Q := by
  refine wE_compL (fun xs acc e => ∃ dn rest, ys = dn ++ rest ∧ xs = rest.map g ∧ acc = dn.filterMap c ∧ wipeE e vs = E) ?_ ?_ ?_ _ _ _ ⟨[], ys, rfl, rfl, rfl, hE⟩
  · rintro x r acc e ⟨dn, rest, rfl, h1, rfl, h2⟩
    cases rest with
    | nil => cases h1
    | cons p rest =>
      cases h1
      obtain ⟨e1, h3, h4⟩ := h p (by simp)
      rw [h2]
      refine ⟨e1, h3, wE_mono h4 fun b e2 hb => ?_⟩
      cases b with
      | true => exact wE_mono (show wE (te e2) _ from hb) fun y e3 ⟨k1, k2⟩ => ⟨dn ++ [p], rest, by simp, rfl, by simp [k1], k2⟩
      | false => exact ⟨dn ++ [p], rest, by simp, rfl, by have := hb.1; simp [this], hb.2⟩
  · rintro x r acc e ⟨dn, rest, rfl, h1, rfl, h2⟩
    cases rest with
    | nil => cases h1
    | cons p rest =>
      have := List.length_filterMap_le c dn
      rw [List.length_append, List.length_cons] at hl
      omega
  · rintro acc e ⟨dn, rest, rfl, h1, rfl, h2⟩
    cases rest with
    | nil => rw [h2]; simpa using q
    | cons p rest => cases h1
theorem sum_le : ∀ (xs : List Nat) (b : Nat), (∀ x ∈ xs, x ≤ b) → xs.sum ≤ xs.length * b
  | [], _, _ => Nat.zero_le _
  | x :: xs, b, h => by
    have := sum_le xs b fun y hy => h y (List.mem_cons_of_mem _ hy)
    have := h x List.mem_cons_self
    rw [List.sum_cons, List.length_cons, Nat.succ_mul]
    omega
theorem fm_some {α β : Type} (f : α → β) : ∀ xs : List α, xs.filterMap (fun x => some (f x)) = xs.map f := fun xs => by simp
theorem l_sum {ns : List Int} : dSum (.list (ns.map .int)) = some (.int ns.sum) := by
  show (asInts (ns.map .int)).map _ = _
  rw [asInts_map]
  rfl
theorem set_last {l : List D} {z v : D} : setAt (.int (-1)) v (l ++ [z]) = some (l ++ [v]) := by
  show (ixN (l ++ [z]).length (-1)).map _ = _
  unfold ixN
  rw [if_neg (by decide), if_pos (by rw [List.length_append, List.length_singleton]; omega)]
  have : (-1 + ((l ++ [z]).length : Nat) : Int).toNat = l.length := by rw [List.length_append, List.length_singleton]; omega
  show some ((l ++ [z]).set (-1 + ((l ++ [z]).length : Nat) : Int).toNat v) = _
  rw [this]
  simp
theorem joinL_one : ∀ l : List Nat, TL.joinL [] (l.map fun c => [c]) = l
  | [] => rfl
  | [a] => rfl
  | a :: b :: r => by
    have ih := joinL_one (b :: r)
    simp only [List.map_cons] at ih ⊢
    rw [TL.joinL, ih]
    rfl
theorem join_ones {l : List Nat} (h : l.length ≤ 16777216) : dJoin (.str (S [])) [.list (l.map fun c => .str (S [c]))] = some (.str (S l)) := by
  show joinD (S []) (l.map fun c => .str (S [c])) = _
  unfold joinD
  have e1 : (l.map fun c => PyData.str (S [c])) = (l.map fun c => S [c]).map PyData.str := by rw [List.map_map]; rfl
  rw [e1, asStrs_map]
  show (if _ then _ else _) = _
  have e2 : ((l.map fun c => S [c]).map (·.length)).sum = l.length := by
    rw [List.map_map]
    have : ((fun x : Str => x.length) ∘ fun c => S [c]) = fun _ => 1 := rfl
    rw [this]
    induction l with
    | nil => rfl
    | cons a r ih => rw [List.map_cons, List.sum_cons, ih (by rw [List.length_cons] at h; omega) (by rw [List.map_map]; rfl), List.length_cons]; omega
  rw [if_pos (by rw [e2]; show l.length + _ * 0 ≤ _; omega)]
  have e3 : (l.map fun c => S [c]) = (l.map fun c => [c]).map SX.S := by rw [List.map_map]; rfl
  rw [e3, show (S [] : Str) = SX.S [] from rfl, SX.join_S, joinL_one]
/-! ### what same takes -/
def Fx (n d : Nat) (x : D) : Prop := x.canLay0 = true ∧ x.showable = true ∧ x.depth ≤ d ∧ wt x ≤ n
theorem Fx.str {l : List Nat} {k : Nat} (h : ∀ c ∈ l, c < 1114112) (hl : l.length ≤ k) : Fx (10 * k + 2) 0 (.str (S l)) := by
  refine ⟨?_, by rw [PyData.showable], by rw [PyData.depth]; exact Nat.le_refl _, ?_⟩
  · rw [PyData.canLay0]
    unfold PyData.strOk
    rw [← Array.all_toList, List.all_eq_true]
    exact fun c hc => decide_eq_true (h c (by simpa using hc))
  · rw [wt, S_len]; omega
theorem Fx.int {i : Int} (h0 : 0 ≤ i) (h : i < 2 ^ 64) : Fx 67 0 (.int i) := by
  have hb : i.natAbs.log2 < 65 := by
    by_cases z : i.natAbs = 0
    · rw [z]; decide
    · exact (Nat.log2_lt z).mpr (by omega)
  refine ⟨by rw [PyData.canLay0], ?_, by rw [PyData.depth]; exact Nat.le_refl _, by rw [wt]; omega⟩
  rw [PyData.showable]
  exact decide_eq_true (by omega)
theorem Fx.none : Fx 4 0 .none := ⟨rfl, rfl, Nat.le_refl _, Nat.le_refl _⟩
theorem Fx.bool {b : Bool} : Fx 5 0 (.bool b) := ⟨rfl, rfl, Nat.le_refl _, Nat.le_refl _⟩
theorem Fx.all {n d : Nat} : ∀ {xs : List D}, (∀ x ∈ xs, Fx n d x) → PyData.canLayAll0 xs = true ∧ PyData.showableAll xs = true ∧ PyData.depthAll xs ≤ d ∧ wtA xs ≤ xs.length * (n + 2)
  | [], _ => ⟨rfl, rfl, by rw [PyData.depthAll]; exact Nat.zero_le _, by rw [wtA]; exact Nat.zero_le _⟩
  | x :: xs, h => by
    obtain ⟨a1, a2, a3, a4⟩ := h x List.mem_cons_self
    obtain ⟨b1, b2, b3, b4⟩ := Fx.all fun y hy => h y (List.mem_cons_of_mem _ hy)
    refine ⟨by rw [PyData.canLayAll0, a1, b1]; rfl, by rw [PyData.showableAll, a2, b2]; rfl, by rw [PyData.depthAll]; omega, ?_⟩
    rw [wtA, List.length_cons, Nat.succ_mul]
    omega
theorem Fx.list {n d k : Nat} {xs : List D} (h : ∀ x ∈ xs, Fx n d x) (hl : xs.length ≤ k) : Fx (k * (n + 2) + 3) (d + 1) (.list xs) := by
  obtain ⟨b1, b2, b3, b4⟩ := Fx.all h
  have := Nat.mul_le_mul_right (n + 2) hl
  exact ⟨by rw [PyData.canLay0]; exact b1, by rw [PyData.showable]; exact b2, by rw [PyData.depth]; omega, by rw [wt]; omega⟩
theorem Fx.tup {n d k : Nat} {xs : List D} (h : ∀ x ∈ xs, Fx n d x) (hl : xs.length ≤ k) : Fx (k * (n + 2) + 3) (d + 1) (.tuple xs) := by
  obtain ⟨b1, b2, b3, b4⟩ := Fx.all h
  have := Nat.mul_le_mul_right (n + 2) hl
  exact ⟨by rw [PyData.canLay0]; exact b1, by rw [PyData.showable]; exact b2, by rw [PyData.depth]; omega, by rw [wt]; omega⟩
theorem Fx.mono {n n' d d' : Nat} {x : D} (h : Fx n d x) (hn : n ≤ n') (hd : d ≤ d') : Fx n' d' x := ⟨h.1, h.2.1, Nat.le_trans h.2.2.1 hd, Nat.le_trans h.2.2.2 hn⟩
theorem Fx.same {n d : Nat} {x : D} (h : Fx n d x) (hn : n ≤ 16777216) (hd : d ≤ 64) : mSame [.d x, .d x] = .ok (.d (.bool true)) [.un, .un] :=
  same_ok (by unfold fine; rw [h.1, h.2.1, decide_eq_true (Nat.le_trans h.2.2.1 hd)]; rfl) (Nat.le_trans h.2.2.2 hn)
theorem Fx.two {n d : Nat} {x y : D} (hx : Fx n d x) (hy : Fx n d y) : ∀ z ∈ [x, y], Fx n d z := fun z hz => by
  simp only [List.mem_cons, List.not_mem_nil, or_false] at hz
  rcases hz with rfl | rfl
  · exact hx
  · exact hy
theorem Fx.three {n d : Nat} {x y w : D} (hx : Fx n d x) (hy : Fx n d y) (hw : Fx n d w) : ∀ z ∈ [x, y, w], Fx n d z := fun z hz => by
  simp only [List.mem_cons, List.not_mem_nil, or_false] at hz
  rcases hz with rfl | rfl | rfl
  · exact hx
  · exact hy
  · exact hw
end
end BV

/-! BV19: more iterables. -/
namespace BV
open PySem PySem.Spec PyProof.Rows L2

/-- enumerate(x), x a list -/
def enumD : Nat → List D → List D
  | _, [] => []
  | k, x :: r => .tuple [.int (k : Nat), x] :: enumD (k + 1) r
def dEnum : List D → Option (List D)
  | [.list xs] => some (enumD 0 xs)
  | _ => none
theorem enumD_len : ∀ (k : Nat) (xs : List D), (enumD k xs).length = xs.length
  | _, [] => rfl
  | k, x :: r => by rw [enumD, List.length_cons, List.length_cons, enumD_len]
theorem enumD_at : ∀ (k : Nat) (xs : List D) (i : Nat) (z : D), (enumD k xs)[i]? = some z → ∃ x, xs[i]? = some x ∧ z = .tuple [.int ((k + i : Nat) : Int), x]
  | _, [], i, z, h => by rw [enumD] at h; simp at h
  | k, x :: r, 0, z, h => by rw [enumD] at h; simp at h; subst h; exact ⟨x, rfl, rfl⟩
  | k, x :: r, i + 1, z, h => by
    rw [enumD] at h
    obtain ⟨y, h1, h2⟩ := enumD_at (k + 1) r i z (by simpa using h)
    exact ⟨y, by simpa using h1, by rw [h2, show k + 1 + i = k + (i + 1) by omega]⟩
theorem src_enum {K : Fg} {a : Addr} {vs : List V} {xs : List D} {B : Hp} (h1 : B a = some (.lst vs)) (h2 : DqAll K B vs xs) : Src K (Ite K a) B (enumD 0 xs) := fun B1 H1 s1 s2 => by
  have q : SqL K H1 a vs := SqL.of (s2 _ _ (s1 _ _ h1))
  refine ⟨⟨vs, q, by rw [enumD_len, dps_length h2]; exact Nat.le_refl _⟩, fun i z hz => ?_⟩
  obtain ⟨x, hx, rfl⟩ := enumD_at 0 xs i z hz
  obtain ⟨v, hv, hd⟩ := dps_get i h2 hx
  refine ⟨⟨vs, v, q, hv⟩, fun u H2 y => ?_⟩
  obtain ⟨t, w, rfl, ht, rfl, hw⟩ := y
  have e := hw vs q
  rw [hv] at e
  cases e
  obtain ⟨tr, s', sb⟩ := tr_new (o := .tup [.int (i : Nat), v]) ht s2
  refine ⟨_, tr, s', .tup (SqT.of upd_same) (.cons ?_ (.cons (dp_mono (s1.trans sb) _ _ hd) .nil))⟩
  rw [Nat.zero_add]
  exact .int _
/-- zip(x, y), both lists or both tuples -/
def zipD : List D → List D → List D
  | [], _ => []
  | _ :: _, [] => []
  | x :: xs, y :: ys => .tuple [x, y] :: zipD xs ys
def dZip : List D → Option (List D)
  | [.list xs, .list ys] => some (zipD xs ys)
  | _ => none
theorem zipD_len : ∀ (xs ys : List D), (zipD xs ys).length = min xs.length ys.length
  | [], _ => by rw [zipD]; simp
  | _ :: _, [] => by rw [zipD]; simp
  | x :: xs, y :: ys => by rw [zipD, List.length_cons, List.length_cons, List.length_cons, zipD_len]; omega
theorem zipD_at : ∀ (xs ys : List D) (i : Nat) (z : D), (zipD xs ys)[i]? = some z → ∃ x y, xs[i]? = some x ∧ ys[i]? = some y ∧ z = .tuple [x, y]
  | [], ys, i, z, h => by rw [zipD] at h; simp at h
  | _ :: _, [], i, z, h => by rw [zipD] at h; simp at h
  | x :: xs, y :: ys, 0, z, h => by rw [zipD] at h; simp at h; subst h; exact ⟨x, y, rfl, rfl, rfl⟩
  | x :: xs, y :: ys, i + 1, z, h => by
    rw [zipD] at h
    obtain ⟨a, b, h1, h2, h3⟩ := zipD_at xs ys i z (by simpa using h)
    exact ⟨a, b, by simpa using h1, by simpa using h2, h3⟩
theorem src_zip {K : Fg} {a b : Addr} {vs ws : List V} {xs ys : List D} {B : Hp} (h1 : B a = some (.lst vs)) (h2 : DqAll K B vs xs) (h3 : B b = some (.lst ws)) (h4 : DqAll K B ws ys) : Src K (Itz K a b) B (zipD xs ys) := fun B1 H1 s1 s2 => by
  have q : SqL K H1 a vs := SqL.of (s2 _ _ (s1 _ _ h1))
  have q' : SqL K H1 b ws := SqL.of (s2 _ _ (s1 _ _ h3))
  refine ⟨⟨vs, ws, q, q', by rw [zipD_len, dps_length h2, dps_length h4]; omega⟩, fun i z hz => ?_⟩
  obtain ⟨x, y, hx, hy, rfl⟩ := zipD_at xs ys i z hz
  obtain ⟨v, hv, hd⟩ := dps_get i h2 hx
  obtain ⟨w, hw, hd'⟩ := dps_get i h4 hy
  refine ⟨⟨vs, ws, v, w, q, q', hv, hw⟩, fun u H2 yl => ?_⟩
  obtain ⟨t, x', y', rfl, ht, rfl, k1, k2⟩ := yl
  have e := k1 vs q
  rw [hv] at e
  cases e
  have e := k2 ws q'
  rw [hw] at e
  cases e
  obtain ⟨tr, s', sb⟩ := tr_new (o := .tup [v, w]) ht s2
  exact ⟨_, tr, s', .tup (SqT.of upd_same) (.cons (dp_mono (s1.trans sb) _ _ hd) (.cons (dp_mono (s1.trans sb) _ _ hd') .nil))⟩
def iEnu (ms : Env → RE (List D)) : Env → RE (List D) := fun env => (ms env).bind fun xs env => lft (dEnum xs) env
def iZi (ms : Env → RE (List D)) : Env → RE (List D) := fun env => (ms env).bind fun xs env => lft (dZip xs) env
section
variable {X : Cx} {T : Tb} {tg e : Expr} {ms : Env → RE (List D)}
theorem bi_enum (hK : T.K = X.K) (h : PI X tg e (iEnum X.K (taD T ms))) : PI X tg e (tiD T (iEnu ms)) :=
  piw h fun σ H R q => gen_mono (seqE (R1 := rA T.K) q rA_nil) fun vs H1 ⟨xs, B1, ⟨_, hx⟩, h1⟩ => by
    obtain ⟨z, e, s, k⟩ := doneB h1
    match xs, e with
    | [.list ys], e =>
      cases e
      cases hx with
      | cons a b =>
        cases b
        cases a with
        | lst g1 g2 =>
          rw [← hK]
          exact ⟨_, _, rfl, SqL.of (s _ _ g1), k _ B1 H1 Tr.refl s ⟨rfl, src_enum g1 g2⟩⟩
theorem bi_zip (hK : T.K = X.K) (h : PI X tg e (iZip X.K (taD T ms))) : PI X tg e (tiD T (iZi ms)) :=
  piw h fun σ H R q => gen_mono (seqE (R1 := rA T.K) q rA_nil) fun vs H1 ⟨xs, B1, ⟨_, hx⟩, h1⟩ => by
    obtain ⟨z, e, s, k⟩ := doneB h1
    match xs, e with
    | [.list ys, .list zs], e =>
      cases e
      cases hx with
      | cons a b =>
        cases b with
        | cons b c =>
          cases c
          cases a with
          | lst g1 g2 =>
            cases b with
            | lst g3 g4 =>
              rw [← hK]
              exact ⟨_, _, _, _, rfl, SqL.of (s _ _ g1), SqL.of (s _ _ g3), k _ B1 H1 Tr.refl s ⟨rfl, src_zip g1 g2 g3 g4⟩⟩
end
end BV

/-! BV20: defs as values; try, where nothing is raised. -/
namespace BV
open PySem PySem.Spec PyProof.Rows L2

/-- a def's address by its name -/
def clK (K : Fg) : Str → Option Addr := fun nm => match PySem.W.nsIn K mainGlobals nm with
  | some (some (.ref a)) => some a
  | _ => none
/-- a def of the module as a value -/
structure FV (K : Fg) (mg : Str → Option Value) (nm : Str) : Prop where
  ex : ∃ a, clK K nm = some a ∧ mg nm = some (.ref a)
def vFn (nm : Str) (r : Env → RE (List AV)) : Env → RE (List AV) := fun env => (r env).bind fun as env => .ok (.f nm :: as) env
section
variable {X : Cx} {T : Tb} {e : Expr} {es : List Expr} {ms : Env → RE (List AV)}
theorem bv_fn {nm : Str} {pos : Pos} (F : FV T.K X.mg nm) (hcl : T.cls = clK T.K) (hg : Gl X nm) (hr : PA X es (taA T ms)) (hd : (nm == ("__debug__" : Str)) = false := by decide) (hs : starEach (Expr.Name nm pos :: es) X.env = (false, eval (Expr.Name nm pos) X.env) :: starEach es X.env := by rfl) : PA X (.Name nm pos :: es) (taA T (vFn nm ms)) := by
  obtain ⟨a, h1, h2⟩ := F.ex
  refine paw (pa_cons (pe_glob (v := .ref a) hg h2 rfl hd) hr hs) fun σ H Q h => ?_
  exact gen_mono (seqE (R1 := rAV T.K T.cls σ) h rAV_nil) fun vs H1 ⟨as, B1, ⟨_, hxs⟩, h1'⟩ => gB_ok h1' ⟨rfl, .f (by rw [hcl]; exact h1) hxs⟩
/-- what may be called through a name of the frame -/
structure CalF (x : Bool) (P : Program) (w : World) (K : Fg) (cls : Str → Option Addr) (mg : Str → Option Value) (base : Heap) (k : Nat) (nm : Str) (F : List Sl → RF) : Prop where
  ex : ∃ (f : Addr) (fd : FuncData) (ps : List Str), cls nm = some f ∧ PySem.W.keepIn K (.ref f) = true ∧ Binds K fd ps [] ∧ FnG P w K mg base CX0 k f fd ps (spM x K cls F)
theorem calF_of {P : Program} {w : World} {K : Fg} {mg : Str → Option Value} {base : Heap} {k : Nat} {nm : Str} {ps : List Str} {F : List Sl → RF} (C : Cal false P w K (clK K) mg base k nm ps F) (V : FV K mg nm) : CalF false P w K (clK K) mg base k nm F := by
  obtain ⟨f, fd, h1, h2, h3, h4⟩ := C.ex
  obtain ⟨a, g1, g2⟩ := V.ex
  rw [h1] at g2
  cases g2
  exact ⟨f, fd, ps, g1, h2, h3, h4⟩
/-- a call through a name of the frame: the callee may be any that Ok tells -/
theorem pe_callFV {Ok : Addr → Sp → Prop} {i j : Nat} {x : Str} {p pos : Pos} {ta : TA} (hN : X.N[i]? = some x) (hv : Vis X.env.scope x) (hok : ∀ f sp, Ok f sp → ∃ fd ps, PySem.W.keepIn X.K (.ref f) = true ∧ Binds X.K fd ps [] ∧ FnG X.prog X.w X.K X.mg X.base CX0 j f fd ps sp)
    (hgd : X.A.guards = some []) (hr : Room j X.A) (ha : PA X (e :: es) ta) (hd : (x == ("__debug__" : Str)) = false := by decide) (hcd : (x == ("__classdict__" : Str)) = false := by decide)
    (he : starEach (e :: es) X.env = (false, eval e X.env) :: starEach es X.env := by rfl) (hpl : (backTo pos (starEach es X.env)).any (·.1) = false := by rfl) :
    PE X (.Call (.Name x p) (e :: es) [] pos) (fun σ H Q => ∃ f sp, σ[i]? = some (some (.ref f)) ∧ Ok f sp ∧ ta σ H fun vs H1 => sp vs H1 Q E0) := by
  refine ⟨fun pins s σ H Q I ⟨f, sp, hs, ok, ht⟩ => ?_⟩
  obtain ⟨fd, ps, kp, b, F⟩ := hok f sp ok
  refine wpAny_Call_Name_kw (thn ((pe_var (pos := p) hN hv hd hcd).run pins s σ H (fun v H1 => v = .ref f ∧ H1 = H) I ⟨.ref f, hs, rfl, rfl⟩) fun u s1 ⟨v, H1, I1, r1, q1⟩ => ?_)
  obtain ⟨rfl, rfl⟩ := q1
  cases r1
  exact PySem.W.callWith_K (h₀ := X.base) I.ok.mod.kin kp (thn (ha.run pos pins s1 σ _ _ I1 ht) fun us s2 ⟨vs, H2, I2, r, q⟩ => ⟨I2.kIn, runG (E := fun _ => E0) F hgd hr b (fun _ _ _ _ _ _ z => z.elim) I2 r q⟩) he hpl
def eCallV (i : Nat) (tbl : Str → Option (List Sl → RF)) (ms : Env → RE (List AV)) : Env → RE Sl := fun env => match env[i]? with
  | some (.f nm) => (match tbl nm with
    | some F => eCall false F ms env
    | none => .no)
  | _ => .no
theorem bn_callV {i j : Nat} {x : Str} {p pos : Pos} {tbl : Str → Option (List Sl → RF)} (hK : X.K = T.K) (hN : X.N[i]? = some x) (hv : Vis X.env.scope x) (hok : ∀ nm F, tbl nm = some F → CalF false X.prog X.w T.K T.cls X.mg X.base j nm F)
    (hgd : X.A.guards = some []) (hr : Room j X.A) (ha : PA X (e :: es) (taA T ms)) (hd : (x == ("__debug__" : Str)) = false := by decide) (hcd : (x == ("__classdict__" : Str)) = false := by decide)
    (he : starEach (e :: es) X.env = (false, eval e X.env) :: starEach es X.env := by rfl) (hpl : (backTo pos (starEach es X.env)).any (·.1) = false := by rfl) :
    PE X (.Call (.Name x p) (e :: es) [] pos) (teN T (eCallV i tbl ms)) := by
  refine pew (pe_callFV (Ok := fun f sp => ∃ nm F, T.cls nm = some f ∧ tbl nm = some F ∧ sp = spM false T.K T.cls F) hN hv (fun f sp ⟨nm, F, h1, h2, h3⟩ => ?_) hgd hr ha hd hcd he hpl) fun σ H Q ⟨B, env, A, g, h⟩ => ?_
  · obtain ⟨f', fd, ps, g1, g2, g3, g4⟩ := (hok nm F h2).ex
    rw [h1] at g1
    cases g1
    subst h3
    rw [hK]
    exact ⟨fd, ps, g2, g3, g4⟩
  · unfold eCallV at h
    cases ei : env[i]? with
    | none => simp only [ei] at h; exact h.elim
    | some s =>
      cases s with
      | f nm =>
        simp only [ei] at h
        cases et : tbl nm with
        | none => simp only [et] at h; exact h.elim
        | some F =>
          simp only [et] at h
          obtain ⟨v, A1, A2, A3, h1, h2, _⟩ := env_at i g.er ei (fun z => nomatch z)
          cases h2 with
          | f hc =>
            exact ⟨_, _, h1, ⟨nm, F, hc, et, rfl⟩, call_go (x := false) (E := fun _ => E0) (fun z => nomatch z) ⟨B, env, A, g, h⟩⟩
      | _ => simp only [ei] at h; exact h.elim
/-- try .. except, where nothing is raised -/
theorem bs_try {body : List Stmt} {h0 : ExceptHandler} {hs : List ExceptHandler} {pos : Pos} {m : Env → RS} (hb : PSs X.nox body (tsS T m)) : PS X (.Try body (h0 :: hs) [] [] pos) (tsS T m) := ps_try_thru0 hb
theorem bn_callC0 {k j : Nat} {nm : Str} {F : List Sl → RF} {p pos : Pos} (C : Cal false X.prog X.w T.K T.cls X.mg X.base k nm [] F) (hK : X.K = T.K) (hgd : X.A.guards = some []) (hr : Room j X.A) (hk : k ≤ j) (hg : Gl X nm)
    (hdb : (nm == ("__debug__" : Str)) = false := by decide) : PE X (.Call (.Name nm p) [] [] pos) (teN T (eCall false F vNil)) := by
  obtain ⟨f, fd, h1, h2, h3, h4⟩ := C.ex
  rw [← hK] at h2 h3 h4
  refine bn_call0 (E := fun _ => E0) (fun z => nomatch z) ?_
  rw [← hK]
  exact pe_callG0 h4 hgd (hr.mono hk) hg h1 h2 h3 (fun _ _ _ _ _ _ _ z => z.elim) hdb
end
theorem FnG.mono {P : Program} {w : World} {K : Fg} {mg : Str → Option Value} {base : Heap} {CX : CXT} {k j : Nat} {f : Addr} {fd : FuncData} {ps : List Str} {sp : Sp} (F : FnG P w K mg base CX k f fd ps sp) (h : k ≤ j) : FnG P w K mg base CX j f fd ps sp := ⟨F.len, fun A outer s H args us vs Q E hg hr => F.run A outer s H args us vs Q E hg (hr.mono h)⟩
theorem CalF.mono {x : Bool} {P : Program} {w : World} {K : Fg} {cls : Str → Option Addr} {mg : Str → Option Value} {base : Heap} {k j : Nat} {nm : Str} {F : List Sl → RF} (C : CalF x P w K cls mg base k nm F) (h : k ≤ j) : CalF x P w K cls mg base j nm F := by
  obtain ⟨f, fd, ps, h1, h2, h3, h4⟩ := C.ex
  exact ⟨f, fd, ps, h1, h2, h3, h4.mono h⟩
theorem fv_of {fa : List He.Fa} {mo : Fg → Bool} {fn : List He.FnD} {K : Fg} {h : Heap} {mg : Str → Option Value} (X : K.In h) (G : h.Ns mainGlobals mg) (c : SaysM fa mo fn K) {nm : Str} (j : Nat) (h2 : fa[j]? = some (.glo nm)) : FV K mg nm := by
  have q := He.SaysE.fact c.1 j h2
  refine ⟨_, ?_, He.glo_ok X G q⟩
  unfold clK
  rw [He.eqO_ok q]
end BV

/-! BV21: ranges with a step, lists turned round, pop. -/
namespace BV
open PySem PySem.Spec PyProof.Rows L2

/-- range(i, j, c) -/
def rng3 (i c : Int) (n : Nat) : List D := (List.range n).map fun k => .int (i + (k : Nat) * c)
def dRng3 : List D → Option (List D)
  | [.int i, .int j, .int c] => if c ≠ 0 ∧ c.natAbs < 1073741824 ∧ Builtin.Range.small i j c = true ∧ Builtin.Range.rangeSize i j c = ((Builtin.Range.rangeSize i j c).toNat : Int) then some (rng3 i c (Builtin.Range.rangeSize i j c).toNat) else none
  | _ => none
theorem dRng3_eq {xs z : List D} (e : dRng3 xs = some z) : ∃ i j c : Int, xs = [.int i, .int j, .int c] ∧ (c ≠ 0 ∧ c.natAbs < 1073741824 ∧ Builtin.Range.small i j c = true ∧ Builtin.Range.rangeSize i j c = ((Builtin.Range.rangeSize i j c).toNat : Int)) ∧ z = rng3 i c (Builtin.Range.rangeSize i j c).toNat := by
  unfold dRng3 at e
  split at e
  · rename_i i j c
    obtain ⟨g, rfl⟩ := ifs e
    exact ⟨i, j, c, rfl, g, rfl⟩
  · cases e
def iRg3 (ms : Env → RE (List D)) : Env → RE (List D) := fun env => (ms env).bind fun xs env => lft (dRng3 xs) env
theorem src_rng3 {K : Fg} {i c : Int} {n : Nat} {B : Hp} : Src K (Itc i c n) B (rng3 i c n) := fun B1 H1 s1 s2 => by
  refine ⟨by unfold rng3; rw [List.length_map, List.length_range]; exact Nat.le_refl _, fun k z hz => ?_⟩
  unfold rng3 at hz
  rw [List.getElem?_map] at hz
  obtain ⟨k', e1, rfl⟩ := Option.map_eq_some_iff.mp hz
  obtain ⟨hk, e2⟩ := List.getElem?_eq_some_iff.mp e1
  rw [List.getElem_range] at e2
  subst e2
  rw [List.length_range] at hk
  refine ⟨hk, fun u H2 y => ?_⟩
  obtain ⟨rfl, rfl⟩ := y
  exact ⟨B1, Tr.refl, s2, .int _⟩
section
variable {X : Cx} {T : Tb} {tg e : Expr} {ms : Env → RE (List D)} {m : Env → RE D}
theorem bi_range3 (h : PI X tg e (iRng3 (taD T ms))) : PI X tg e (tiD T (iRg3 ms)) :=
  piw h fun σ H R q => gen_mono (seqE (R1 := rA T.K) q rA_nil) fun vs H1 ⟨xs, B1, ⟨_, hx⟩, h1⟩ => by
    obtain ⟨z, e, s, k⟩ := doneB h1
    obtain ⟨i, j, c, rfl, ⟨g1, g2, g3, g4⟩, rfl⟩ := dRng3_eq e
    cases hx with
    | cons a hx =>
      cases hx with
      | cons b hx =>
        cases hx with
        | cons d hx =>
          cases hx
          cases a
          cases b
          cases d
          exact ⟨i, j, c, _, rfl, ⟨g1, g2, g3, g4⟩, k _ B1 H1 Tr.refl s ⟨rfl, src_rng3⟩⟩
/-- x[::-1], x a list -/
def nRev (m : Env → RE D) : Env → RE Sl := fun env => (m env).bind fun x env => lft ((match x with | .list xs => some xs.reverse | _ => none).map .l) env
theorem dqs_rev {K : Fg} {B : Hp} : ∀ {vs : List V} {xs : List D}, DqAll K B vs xs → DqAll K B vs.reverse xs.reverse
  | _, _, .nil => .nil
  | _, _, .cons a b => by rw [List.reverse_cons, List.reverse_cons]; exact dps_app (dqs_rev b) (dps_one a)
theorem bn_rev (hK : T.K = X.K) (h : PE X e (tRevL X.K (teP T m))) : PE X e (teN T (nRev m)) :=
  pew h fun σ H Q h => gen_mono (seqE (R1 := rP T.K) h rP_nil) fun v H1 ⟨x, B1, ⟨_, hx⟩, h1⟩ => by
    obtain ⟨z, e, s, k⟩ := doneN h1
    cases x with
    | list xs =>
      cases e
      obtain ⟨p, vs, rfl, g1, g2⟩ := hx.items s
      refine ⟨p, vs, rfl, SqL.of g1, fun q hq => ?_⟩
      obtain ⟨t, s', bn⟩ := tr_own (o := .lst vs.reverse) hq s
      exact k (.ref q) B1 _ [q] t s' (.l bn upd_same (dqs_rev g2)) (by simp) fun a ha => by rw [List.mem_singleton.mp ha]; exact hq
    | _ => cases e
end
end BV

/-! BV22: y = x.pop(). -/
namespace BV
open PySem PySem.Spec PyProof.Rows L2

def sPop (pins : List Nat) (j i : Nat) : Env → RS := fun env => match env[i]? with
  | some (.l xs) => (match xs[xs.length - 1]? with
    | some x => if j ∈ pins then .no else .nx ((env.set i (.l (xs.take (xs.length - 1)))).set j (.d x))
    | none => .no)
  | _ => .no
section
variable {X : Cx} {T : Tb} {st : Stmt} {i j : Nat}
theorem bs_pop (h : PS X st (tAsg (tBM0 X.K "list" rPop (tVar i)) (gName j))) : PS X st (tsS T (sPop T.pins j i)) := psw h fun Dn σ H ⟨B, env, A, g, h⟩ => by
  unfold sPop at h
  cases ei : env[i]? with
  | none => simp only [ei] at h; exact h.elim
  | some s =>
    cases s with
    | l xs =>
      simp only [ei] at h
      cases ex : xs[xs.length - 1]? with
      | none => simp only [ex] at h; exact h.elim
      | some x =>
        simp only [ex] at h
        split at h
        · exact h.elim
        · rename_i hp
          obtain ⟨p, vs, h1, h2, h3, h4⟩ := own_write g ei
          obtain ⟨v, hv, hx⟩ := dps_get _ h3 ex
          have hl := dps_length h3
          have hd : vs.dropLast = vs.take (xs.length - 1) := by rw [← hl, List.dropLast_eq_take]
          obtain ⟨g1, t1⟩ := h4 vs.dropLast (xs.take (xs.length - 1)) (by rw [hd]; exact dps_take _ h3)
          refine ⟨_, h1, .inl ⟨rfl, vs, SqL.of h2⟩, p, vs, v, rfl, rfl, h2, by rw [hl]; exact hv, ?_⟩
          obtain ⟨A', g', t'⟩ := store_d (i := j) (v := v) (x := x) g1 hx
          exact h _ B _ A' (pin_set hp) (t1.trans t') g'
    | _ => simp only [ei] at h; exact h.elim
end
def popQ (o : Option (List D)) (N : D → List D → Prop) : Prop := match o with | some xs => (match xs[xs.length - 1]? with | some x => N x (xs.take (xs.length - 1)) | none => False) | none => False
theorem r_pop {pins : List Nat} {i j : Nat} {e : Env} {N B C : Env → Prop} {R : Sl → Env → Prop} : wS (sPop pins j i e) N R B C = popQ (lOf e[i]?) fun x xs => j ∉ pins ∧ N ((e.set i (.l xs)).set j (.d x)) := by
  unfold sPop popQ
  cases h : e[i]? with
  | none => rfl
  | some s =>
    cases s <;> first | rfl | skip
    rename_i xs
    show wS (match xs[xs.length - 1]? with | some x => if j ∈ pins then .no else .nx ((e.set i (.l (xs.take (xs.length - 1)))).set j (.d x)) | none => .no) N R B C = (match xs[xs.length - 1]? with | some x => j ∉ pins ∧ N ((e.set i (.l (xs.take (xs.length - 1)))).set j (.d x)) | none => False)
    cases xs[xs.length - 1]? with
    | none => rfl
    | some x => exact pin_ite
end BV

/-! BV23: a, b = x, y and a, b, c = x, y, z. -/
namespace BV
open PySem PySem.Spec PyProof.Rows L2

def sPar2 (pins : List Nat) (i j : Nat) (ms : Env → RE (List D)) : Env → RS := fun env => bindS (ms env) fun xs env => match xs with
  | [x, y] => if i ∈ pins ∨ j ∈ pins then .no else .nx ((env.set i (.d x)).set j (.d y))
  | _ => .no
def sPar3 (pins : List Nat) (i j l : Nat) (ms : Env → RE (List D)) : Env → RS := fun env => bindS (ms env) fun xs env => match xs with
  | [x, y, z] => if i ∈ pins ∨ (j ∈ pins ∨ l ∈ pins) then .no else .nx (((env.set i (.d x)).set j (.d y)).set l (.d z))
  | _ => .no
section
variable {X : Cx} {T : Tb} {st : Stmt} {i j l : Nat} {ms : Env → RE (List D)}
theorem bs_par2 (h : PS X st (tPar i j (taD T ms))) : PS X st (tsS T (sPar2 T.pins i j ms)) := psw h fun Dn σ H h => gen_mono (seqSE (R1 := rA T.K) h rA_nil) fun vs H1 ⟨xs, B1, ⟨_, hx⟩, env, A, g, h1⟩ => by
  match xs, hx, h1 with
  | [x, y], hx, h1 =>
    cases hx with
    | cons a hx =>
      cases hx with
      | cons b hx =>
        cases hx
        dsimp only at h1
        split at h1
        · exact h1.elim
        · rename_i hp
          obtain ⟨A', g', t'⟩ := store_d (i := i) g a
          obtain ⟨A2, g2, t2⟩ := store_d (i := j) g' b
          exact ⟨_, _, rfl, h1 _ B1 H1 A2 ((pin_set fun z => hp (.inl z)).trans (pin_set fun z => hp (.inr z))) (t'.trans t2) g2⟩
theorem bs_par3 (h : PS X st (tPar3 i j l (taD T ms))) : PS X st (tsS T (sPar3 T.pins i j l ms)) := psw h fun Dn σ H h => gen_mono (seqSE (R1 := rA T.K) h rA_nil) fun vs H1 ⟨xs, B1, ⟨_, hx⟩, env, A, g, h1⟩ => by
  match xs, hx, h1 with
  | [x, y, z], hx, h1 =>
    cases hx with
    | cons a hx =>
      cases hx with
      | cons b hx =>
        cases hx with
        | cons c hx =>
          cases hx
          dsimp only at h1
          split at h1
          · exact h1.elim
          · rename_i hp
            obtain ⟨A', g', t'⟩ := store_d (i := i) g a
            obtain ⟨A2, g2, t2⟩ := store_d (i := j) g' b
            obtain ⟨A3, g3, t3⟩ := store_d (i := l) g2 c
            exact ⟨_, _, _, rfl, h1 _ B1 H1 A3 (((pin_set fun z => hp (.inl z)).trans (pin_set fun z => hp (.inr (.inl z)))).trans (pin_set fun z => hp (.inr (.inr z)))) ((t'.trans t2).trans t3) g3⟩
end
end BV

/-! BV24: instances of own classes whose attributes are data: made, read, stored, their methods called. -/
namespace BV
open PySem PySem.Spec PyProof.Rows L2

/-- the attributes of the instance of the class c in a slot -/
def oFs (c : Str) : Option Sl → Option (List (Str × Sl))
  | some (.o c' fs) => if c' = c then some fs else none
  | _ => none
theorem oFs_eq {c : Str} {s : Option Sl} {fs : List (Str × Sl)} (h : oFs c s = some fs) : s = some (.o c fs) := by
  unfold oFs at h
  split at h
  · split at h
    · rename_i e
      cases h
      rw [e]
    · cases h
  · cases h
/-- an attribute put in its place, or at the end -/
def putS (f : Str) (x : Sl) : List (Str × Sl) → List (Str × Sl)
  | [] => [(f, x)]
  | (g, y) :: r => if g = f then (g, x) :: r else (g, y) :: putS f x r
/-- a class with attributes of these names -/
structure ClsF (K : Fg) (mg : Str → Option Value) (c : Str) : Prop where
  ex : ∃ C, clK K c = some C ∧ mg c = some (.ref C) ∧ Cls K C
structure NoAt (K : Fg) (c f : Str) : Prop where
  ex : ∃ C, clK K c = some C ∧ NoAttr K C f
section
variable {K : Fg} {cls : Str → Option Addr} {B H : Hp}
theorem ownF_at : ∀ {fs : List (Str × Sl)} {vs : List (Str × V)} {A : List Addr} {f : Str} {x : D}, OwnF K cls B H fs vs A → fs.lookup f = some (.d x) → ∃ v, vs.lookup f = some v ∧ Dq K B v x
  | _, _, _, _, _, .nil, e => by simp at e
  | (g, s) :: fs, (_, v) :: vs, _, f, x, .cons a b, e => by
    rw [List.lookup_cons] at e ⊢
    cases h : (f == g) with
    | true =>
      simp only [h] at e ⊢
      cases e
      cases a with
      | d hx => exact ⟨v, rfl, hx⟩
    | false =>
      simp only [h] at e ⊢
      exact ownF_at b e
theorem ownF_none : ∀ {fs : List (Str × Sl)} {vs : List (Str × V)} {A : List Addr} {f : Str}, OwnF K cls B H fs vs A → fs.lookup f = none → vs.lookup f = none
  | _, _, _, _, .nil, _ => rfl
  | (g, s) :: fs, (_, v) :: vs, _, f, .cons a b, e => by
    rw [List.lookup_cons] at e ⊢
    cases h : (f == g) with
    | true => simp only [h] at e; cases e
    | false =>
      simp only [h] at e ⊢
      exact ownF_none b e
theorem ownF_len : ∀ {fs : List (Str × Sl)} {vs : List (Str × V)} {A : List Addr}, OwnF K cls B H fs vs A → vs.length = fs.length
  | _, _, _, .nil => rfl
  | _, _, _, .cons _ b => by rw [List.length_cons, List.length_cons, ownF_len b]
theorem ownF_put : ∀ {fs : List (Str × Sl)} {vs : List (Str × V)} {A : List Addr} (f : Str) {v : V} {x : D}, OwnF K cls B H fs vs A → Dq K B v x → ∃ A', OwnF K cls B H (putS f (.d x) fs) (putF f v vs) A' ∧ A'.Sublist A
  | _, _, _, f, v, x, .nil, hx => ⟨_, .cons (.d hx) .nil, List.Sublist.refl _⟩
  | (g, s) :: fs, (_, u) :: vs, _, f, v, x, .cons (A1 := A1) (A2 := A2) a b, hx => by
    unfold putS putF
    by_cases h : g = f
    · rw [if_pos h, if_pos h]
      exact ⟨_, .cons (.d hx) b, List.sublist_append_right _ _⟩
    · rw [if_neg h, if_neg h]
      obtain ⟨A', h1, h2⟩ := ownF_put f b hx
      exact ⟨_, .cons a h1, (List.Sublist.refl _).append h2⟩
end
section
variable {T : Tb} {σ : St}
theorem good_o {B H : Hp} {env : Env} {A : List Addr} {i : Nat} {c : Str} {fs : List (Str × Sl)} (g : Good T B H σ env A) (h : oFs c env[i]? = some fs) :
    ∃ C p dx vs Af, σ[i]? = some (some (.ref p)) ∧ T.cls c = some C ∧ B p = none ∧ H p = some (.ins C dx vs) ∧ OwnF T.K T.cls B H fs vs Af ∧
      ∀ f v x, Dq T.K B v x → ∃ A', Good T B (upd H p (.ins C dx (putF f v vs))) σ (env.set i (.o c (putS f (.d x) fs))) A' ∧ Tr B H A B (upd H p (.ins C dx (putF f v vs))) A' := by
  obtain ⟨v, A1, A2, A3, h1, h2, h3, h4⟩ := env_at i g.er (oFs_eq h) (fun z => nomatch z)
  cases h2 with
  | o hc b1 b2 b3 =>
    rename_i C dx p vs Af
    refine ⟨C, p, dx, vs, Af, h1, hc, b1, b2, b3, fun f u x hx => ?_⟩
    have nd : (A1 ++ (p :: Af) ++ A3).Nodup := h3 ▸ g.nd
    have n1 := List.nodup_append.mp nd
    have n2 := List.nodup_append.mp n1.1
    have n3 := List.nodup_cons.mp n2.2.1
    have dis : ∀ a ∈ A1 ++ A3, a ≠ p := fun a ha z => by
      subst z
      rcases List.mem_append.mp ha with q | q
      · exact n2.2.2 a q a List.mem_cons_self rfl
      · exact n1.2.2 a (List.mem_append_right _ List.mem_cons_self) a q rfl
    obtain ⟨A', p1, p2⟩ := ownF_put f b3 hx
    have p3 := ownF_keep p1 (B' := B) (H' := upd H p (.ins C dx (putF f u vs))) ⟨Same.refl B, fun a o ha e => by rw [upd_ne fun z => n3.1 (by rw [← z]; exact p2.subset ha)]; exact e, fun _ _ z => z⟩
    have er := h4 (B' := B) (H' := upd H p (.ins C dx (putF f u vs))) (s' := some (.ref p)) (e' := .o c (putS f (.d x) fs)) (A2' := p :: A') (.inr ⟨_, rfl, .o hc b1 upd_same p3⟩) ⟨Same.refl B, fun a o ha e => by rw [upd_ne (dis a ha)]; exact e, fun _ _ z => z⟩
    rw [set_self h1] at er
    have sub : (A1 ++ (p :: A') ++ A3).Sublist A := by
      rw [h3]
      exact ((List.Sublist.refl _).append (p2.cons_cons p)).append (List.Sublist.refl _)
    refine ⟨_, ⟨fun a o e => by rw [upd_ne (ne_of_none e b1)]; exact g.bh a o e, er, g.nd.sublist sub⟩, (tr_write (A := A) (by rw [h3]; simp) (ne_none_of b2)).less fun a ha => sub.subset ha⟩
end
/-- x.f -/
def eFld (c : Str) (i : Nat) (f : Str) : Env → RE D := fun env => match oFs c env[i]? with
  | some fs => (match fs.lookup f with
    | some (.d x) => .ok x env
    | _ => .no)
  | none => .no
/-- x.f = e -/
def sFldP (c : Str) (i : Nat) (f : Str) (m : Env → RE D) : Env → RS := fun env => bindS (m env) fun x env => match oFs c env[i]? with
  | some fs => if fs.length < 1000 then .nx (env.set i (.o c (putS f (.d x) fs))) else .no
  | none => .no
/-- x.f op= e -/
def sFldA (c : Str) (i : Nat) (f : Str) (op : D → D → Option D) (m : Env → RE D) : Env → RS := fun env => bindS (eFld c i f env) fun x env => bindS (m env) fun y env => bindS (lft (op x y) env) fun z env => match oFs c env[i]? with
  | some fs => if fs.length < 1000 then .nx (env.set i (.o c (putS f (.d z) fs))) else .no
  | none => .no
section
variable {X : Cx} {T : Tb} {e o : Expr} {i : Nat} {c f : Str} {pos p2 : Pos} {m : Env → RE D}
theorem fld_at {B H : Hp} {σ : St} {env : Env} {A : List Addr} {x : D} {env1 : Env} (g : Good T B H σ env A) (h : eFld c i f env = .ok x env1) : env1 = env ∧ ∃ C p dx vs v, σ[i]? = some (some (.ref p)) ∧ T.cls c = some C ∧ H p = some (.ins C dx vs) ∧ vs.lookup f = some v ∧ Dq T.K B v x := by
  unfold eFld at h
  split at h
  · rename_i fs hf
    obtain ⟨C, p, dx, vs, Af, h1, h2, _, h3, h4, _⟩ := good_o g hf
    split at h
    · rename_i y hy
      cases h
      obtain ⟨v, h5, h6⟩ := ownF_at h4 hy
      exact ⟨rfl, C, p, dx, vs, v, h1, h2, h3, h5, h6⟩
    · cases h
  · cases h
theorem fld_ex {env env1 : Env} {c' : Str} {x : D} (h : eFld c i f env = .ex c' x env1) : False := by
  unfold eFld at h
  split at h
  · split at h <;> cases h
  · cases h
theorem be_fld (hK : T.K = X.K) (hcl : T.cls = clK T.K) (F : ClsF T.K X.mg c) (N : NoAt T.K c f) (h : PE X o (tVar i)) (hb : attributeBase o f X.env (eval o X.env) = eval o X.env := by rfl) : PE X (.Attribute o f pos) (teD T (eFld c i f)) :=
  pew (pe_fld h hb) fun σ H Q ⟨B, env, A, g, q⟩ => by
    cases e1 : eFld c i f env with
    | ok x env1 =>
      obtain ⟨rfl, C, p, dx, vs, v, h1, h2, h3, h4, h5⟩ := fld_at g e1
      rw [e1] at q
      obtain ⟨C1, f1, _, f2⟩ := F.ex
      obtain ⟨C2, n1, n2⟩ := N.ex
      rw [hcl, f1] at h2
      cases h2
      rw [f1] at n1
      cases n1
      exact ⟨_, h1, p, C, dx, vs, v, rfl, h3, hK ▸ f2, hK ▸ n2, h4, q v B H A [] (by simpa using Tr.refl) g ⟨rfl, h5⟩ List.nodup_nil fun _ z => nomatch z⟩
    | ex c' x env1 => exact (fld_ex e1).elim
    | no => rw [e1] at q; exact q.elim
theorem bs_fldP (hK : T.K = X.K) (hcl : T.cls = clK T.K) (F : ClsF T.K X.mg c) (N : NoAt T.K c f) (ho : PE X o (tVar i)) (hm : PE X e (teD T m)) (hs : swapsWith e (some (.Attribute o f p2)) pos.line X.env = pure false := by rfl) : PS X (.Assign [.Attribute o f p2] e pos) (tsS T (sFldP c i f m)) :=
  psw (ps_fld ho hm hs) fun Dn σ H h => gen_mono (seqSE (R1 := rD T.K) h rD_nil) fun v H1 ⟨x, B1, ⟨_, hx⟩, env, A, g, h1⟩ => by
    dsimp only at h1
    split at h1
    · rename_i fs hf
      split at h1
      · rename_i hl
        obtain ⟨C, p, dx, vs, Af, g1, g2, _, g3, g4, g5⟩ := good_o g hf
        obtain ⟨C1, f1, _, f2⟩ := F.ex
        obtain ⟨C2, n1, n2⟩ := N.ex
        rw [hcl, f1] at g2
        cases g2
        rw [f1] at n1
        cases n1
        obtain ⟨A', k1, k2⟩ := g5 f v x hx
        exact ⟨_, g1, p, C, dx, vs, rfl, g3, hK ▸ f2, hK ▸ n2, by rw [ownF_len g4]; exact hl, h1 σ B1 _ A' Pin.refl k2 k1⟩
      · exact h1.elim
    · exact h1.elim
theorem bs_fldA {op : Operator} {r : R2} {k : D → D → Option D} (hK : T.K = X.K) (hcl : T.cls = clK T.K) (F : ClsF T.K X.mg c) (N : NoAt T.K c f) (ho : PE X o (tVar i)) (hm : PE X e (teD T m)) (hop : PIp X op r) (hr : DOp T.K r k) :
    PS X (.AugAssign (.Attribute o f p2) op e pos) (tsS T (sFldA c i f k m)) :=
  psw (ps_fldaug (rd := r) ho hm hop) fun Dn σ H ⟨B, env, A, g, h⟩ => by
    cases e1 : eFld c i f env with
    | ok x env1 =>
      obtain ⟨rfl, C, p, dx, vs, v, h1, h2, h3, h4, h5⟩ := fld_at g e1
      simp only [sFldA, e1, bindS] at h
      obtain ⟨C1, f1, _, f2⟩ := F.ex
      obtain ⟨C2, n1, n2⟩ := N.ex
      rw [hcl, f1] at h2
      cases h2
      rw [f1] at n1
      cases n1
      refine ⟨_, h1, p, C, dx, vs, v, rfl, h3, hK ▸ f2, hK ▸ n2, h4, ?_⟩
      refine gB_mono (seqSB (R1 := rD T.K) (D := Dn) (m := m) (k := fun y env => bindS (lft (k x y) env) fun z env => match oFs c env[i]? with | some fs => if fs.length < 1000 then .nx (env.set i (.o c (putS f (.d z) fs))) else .no | none => .no) (B := B) ⟨env1, A, g, h⟩ rD_nil) fun u H2 ⟨y, B2, sb, ⟨_, hy⟩, env2, A2, g2, q2⟩ => ?_
      cases ef : k x y with
      | none => simp only [ef, lft, bindS] at q2; exact q2.elim
      | some z =>
        simp only [ef, lft, bindS] at q2
        refine hr B2 H2 v u x y z _ g2.bh (dp_mono sb _ _ h5) (.inl hy) ef fun w B' H' t s' d => ?_
        have kp : Keeps B2 H2 B' H' A2 := t.keeps (fun _ _ => List.not_mem_nil) fun a ha => (env_known g2.er a ha).1
        have g3 : Good T B' H' σ env2 A2 := ⟨s', env_keep g2.er kp, g2.nd⟩
        cases hf : oFs c env2[i]? with
        | none => simp only [hf] at q2; exact q2.elim
        | some fs =>
          simp only [hf] at q2
          split at q2
          · rename_i hl
            obtain ⟨C3, p3, dx3, vs3, Af, k1, k2, _, k3, k4, k5⟩ := good_o g3 hf
            rw [h1] at k1
            cases k1
            rw [hcl, f1] at k2
            cases k2
            obtain ⟨A', l1, l2⟩ := k5 f w z d
            exact ⟨dx3, vs3, k3, by rw [ownF_len k4]; exact hl, q2 σ B' _ A' Pin.refl (t.widen0.trans l2) l1⟩
          · exact q2.elim
    | ex c' x env1 => exact (fld_ex e1).elim
    | no => simp only [sFldA, e1, bindS] at h; exact h.elim
end

/-! ### methods -/
/-- a method that may be called: its mirror, of the instance and the arguments -/
structure CalMt (P : Program) (w : World) (K : Fg) (mg : Str → Option Value) (base : Heap) (k : Nat) (c m : Str) (ps : List Str) (F : List Sl → RF) : Prop where
  ex : ∃ C f fd, clK K c = some C ∧ Cls K C ∧ Meth K C m f ∧ Binds K fd ps [] ∧ FnG P w K mg base CX0 k f fd ps (spM false K (clK K) F)
/-- what a method's datum must be -/
structure MethF (K : Fg) (c m : Str) (st : Stmt) (q : Str) : Prop where
  ex : ∃ C f fd, clK K c = some C ∧ Cls K C ∧ Meth K C m f ∧ Fun K m q st f fd
theorem calMt {P : Program} {w : World} {K : Fg} {mg : Str → Option Value} {base : Heap} {k n : Nat} {c nm q : Str} {st : Stmt} {N ps : List Str} {pins : List Nat} {body : Env → RS}
    (F : MethF K c nm st q) (hb : ∀ (kV doc pm : Value) (an : Option Addr) (cdv ct : Value) (us : List Value), us.length = ps.length → bindArgs (PySem.W.fnOf nm q (defArgs st) (defBody st) (defScope st) .none kV doc pm an cdv ct) ⟨us, []⟩ = pure (ps.zip us))
    (S : FnScope N ps (defScope st)) (hn : ps.length = n) (hN : n ≤ N.length)
    (go : ∀ (f : Addr) (cdv : Value) (A : Around) (outer : List PySem.Env) (s : Shared) (H : Hp) (E : XK), A.guards = some [] → Room k (A.deeper (envOfC q (defScope st) s.heap.objs.size f cdv)) →
      PSs (cxOf CX0 P w K mg base N q (defScope st) f cdv A outer s H E).nox (defBody st) (tsS ⟨K, clK K, pins, none⟩ body)) : CalMt P w K mg base (k + 1) c nm ps (runF n N.length pins body) := by
  obtain ⟨C, f, fd, h1, h2, h3, h4⟩ := F.ex
  exact ⟨C, f, fd, h1, h2, h3, h4.binds hb, fnM h4 S hn hN fun cdv A outer s H E hg hr => (go f cdv A outer s H E hg hr).nox⟩
section
variable {X : Cx} {T : Tb} {e o : Expr} {es : List Expr} {i j k : Nat} {c m x : Str} {p pos apos : Pos} {F : List Sl → RF} {ps : List Str}
/-- x.m(..): x in slot i -/
def eMeth (c : Str) (i : Nat) (m : Str) (F : List Sl → RF) (ms : Env → RE (List AV)) : Env → RE Sl := fun env => match oFs c env[i]? with
  | some fs => (match fs.lookup m with
    | none => eCall false F (vSlot i ms) env
    | some _ => .no)
  | none => .no
theorem pe_methG {sp : Sp} {C f : Addr} {fd : FuncData} {pl : Sem Bool} {to : TE} {ta : TA} (G : FnG X.prog X.w X.K X.mg X.base CX0 k f fd ps sp) (cl : Cls X.K C) (mt : Meth X.K C m f) (bd : Binds X.K fd ps []) (hgd : X.A.guards = some []) (hr : Room k X.A) (ho : PE X o to) (ha : PA X (e :: es) ta)
    (h1 : starEach (e :: es) X.env = (false, eval e X.env) :: starEach es X.env := by rfl) (h2 : (backTo pos (starEach es X.env)).any (·.1) = false := by rfl)
    (h3 : eval (.Call (.Attribute o m apos) (e :: es) [] pos) X.env = (eval o X.env >>= fun ov => standAt apos.atName >>= fun _ => holding [ov] (getMethod ov m pl) >>= fun r => callWith pos r.1 r.2 (backTo pos (starEach (e :: es) X.env)) (backToKw pos (keywordEach [] X.env))) := by rfl) :
    PE X (.Call (.Attribute o m apos) (e :: es) [] pos) (fun σ H Q => to σ H fun v H1 => ∃ a dx fs, v = .ref a ∧ H1 a = some (.ins C dx fs) ∧ fs.lookup m = none ∧ ta σ H1 fun vs H2 => sp (v :: vs) H2 Q E0) := by
  refine ⟨fun pins s σ H Q I h => PySem.W.methodCall_KW (pl := pl) (thn (ho.run pins s σ H _ I h) fun u s1 ⟨v, H1, I1, rv, a, dx, fs, e1, e2, e3, q⟩ => ?_) h3⟩
  subst e1
  cases rv
  refine getmeth_ok I1 e2 cl mt e3 (PySem.W.callWith_K (first := [.ref a]) (h₀ := X.base) I1.ok.mod.kin mt.kp (thn (ha.run pos pins s1 σ H1 _ I1 q) fun us s2 ⟨vs, H2, I2, r2, q2⟩ => ⟨I2.kIn, ?_⟩) h1 h2)
  exact runG (us := .ref a :: us) (vs := .ref a :: vs) (E := fun _ => E0) G hgd hr bd (fun _ _ _ _ _ _ z => z.elim) I2 (.cons rfl r2) q2
theorem bn_meth {ms : Env → RE (List AV)} {pl : Sem Bool} (C : CalMt X.prog X.w T.K X.mg X.base k c m ps F) (hK : X.K = T.K) (hcl : T.cls = clK T.K) (hgd : X.A.guards = some []) (hr : Room j X.A) (hk : k ≤ j) (ho : PE X o (tVar i)) (ha : PA X (e :: es) (taA T ms))
    (h1 : starEach (e :: es) X.env = (false, eval e X.env) :: starEach es X.env := by rfl) (h2 : (backTo pos (starEach es X.env)).any (·.1) = false := by rfl)
    (h3 : eval (.Call (.Attribute o m apos) (e :: es) [] pos) X.env = (eval o X.env >>= fun ov => standAt apos.atName >>= fun _ => holding [ov] (getMethod ov m pl) >>= fun r => callWith pos r.1 r.2 (backTo pos (starEach (e :: es) X.env)) (backToKw pos (keywordEach [] X.env))) := by rfl) :
    PE X (.Call (.Attribute o m apos) (e :: es) [] pos) (teN T (eMeth c i m F ms)) := by
  obtain ⟨C0, f, fd, g1, g2, g3, g4, g5⟩ := C.ex
  rw [← hK] at g2 g3 g4 g5
  refine pew (pe_methG g5 g2 g3 g4 hgd (hr.mono hk) ho ha h1 h2 h3) fun σ H Q ⟨B, env, A, g, h⟩ => ?_
  unfold eMeth at h
  cases hf : oFs c env[i]? with
  | none => simp only [hf] at h; exact h.elim
  | some fs =>
    simp only [hf] at h
    cases hl : fs.lookup m with
    | some z => simp only [hl] at h; exact h.elim
    | none =>
      simp only [hl] at h
      obtain ⟨C1, p, dx, vs, Af, k1, k2, _, k3, k4, _⟩ := good_o g hf
      rw [hcl, g1] at k2
      cases k2
      refine ⟨_, k1, p, dx, vs, rfl, k3, ownF_none k4 hl, ?_⟩
      have q := call_go (x := false) (E := fun _ => E0) (fun z => nomatch z) (⟨B, env, A, g, h⟩ : teN T (eCall false F (vSlot i ms)) σ H Q)
      -- the instance is the first argument
      have q' : gen T (rAV T.K T.cls σ) (vSlot i ms) σ H (fun vs H1 => spM false T.K T.cls F vs H1 Q E0) := q
      obtain ⟨v, hv, q2⟩ := gB_has (B := H) q'
      rw [k1] at hv
      cases hv
      rw [hK, ← hcl]
      exact gen_mono (seqE (R1 := rAV T.K T.cls σ) q2 rAV_nil) fun ws H2 ⟨as, B2, ⟨_, hxs⟩, h5⟩ => gB_ok h5 ⟨rfl, .s k1 hxs⟩
/-- C(..), __init__ by its mirror; the arguments data -/
def nMake (c : Str) (F : List Sl → RF) (ms : Env → RE (List D)) : Env → RE Sl := fun env => (ms env).bind fun xs env => match F (.o c [] :: xs.map .d) with
  | .ok (.d .none) (.o c' fs :: _) => .ok (.o c' fs) env
  | _ => .no
/-- a class that may be made -/
structure MkF (P : Program) (w : World) (K : Fg) (mg : Str → Option Value) (base : Heap) (k : Nat) (c : Str) (ps : List Str) (F : List Sl → RF) : Prop where
  ex : ∃ C f fd, clK K c = some C ∧ mg c = some (.ref C) ∧ Mk K C f ∧ Binds K fd ps [] ∧ FnG P w K mg base CX0 k f fd ps (spM false K (clK K) F)
theorem pe_makeG {sp : Sp} {C f : Addr} {fd : FuncData} {ta : TA} (G : FnG X.prog X.w X.K X.mg X.base CX0 k f fd ps sp) (M : Mk X.K C f) (bd : Binds X.K fd ps []) (hgd : X.A.guards = some []) (hr : Room (k + 1) X.A) (hg : Gl X x) (hm : X.mg x = some (.ref C)) (ha : PA X (e :: es) ta)
    (hdb : (x == ("__debug__" : Str)) = false := by decide) (h1 : starEach (e :: es) X.env = (false, eval e X.env) :: starEach es X.env := by rfl) (h2 : (backTo pos (starEach es X.env)).any (·.1) = false := by rfl) :
    PE X (.Call (.Name x p) (e :: es) [] pos) (fun σ H Q => ta σ H fun vs H1 => ∀ a dx, H1 a = none → H1 dx = none → dx ≠ a → sp (.ref a :: vs) (upd (upd H1 dx (.own a)) a (.ins C dx [])) (fun v H2 => v = .non ∧ Q (.ref a) H2) E0) := by
  refine ⟨fun pins s σ H Q I h => wpAny_Call_Name_kw (ld_glob I hg hm (PySem.W.callWith_K (h₀ := X.base) I.ok.mod.kin M.kp (thn (ha.run pos pins s σ H _ I h) fun us s1 ⟨vs, H1, I1, r1, q⟩ => ⟨I1.kIn, ?_⟩) h1 h2) hdb)⟩
  have I2 := Inv.made (C := C) I1
  have sq := q (s1.heap.objs.size + 1) s1.heap.objs.size (I1.hok.fresh (Nat.le_succ _)) (I1.hok.fresh (Nat.le_refl _)) (Nat.ne_of_lt (Nat.lt_succ_self _))
  have rv : Vals (V.ref (s1.heap.objs.size + 1) :: vs) (Value.ref (s1.heap.objs.size + 1) :: us) := .cons rfl r1
  have hl : (Value.ref (s1.heap.objs.size + 1) :: us).length = ps.length := rv.length.symm.trans (G.len _ _ _ _ sq)
  have bs := bd _ (Value.ref (s1.heap.objs.size + 1) :: us) I2.kIn ((congrArg List.length (List.append_nil _)).trans hl)
  rw [List.append_nil] at bs
  refine wpAny_call (make_map (f := f) I1.kIn M.makes M.init (beq_iff_eq.mp M.fn) (codeAny_mono (G.run _ X.stack _ _ ⟨_, []⟩ _ _ _ E0 hgd (hr.make C us []) (I2.env0.make C us []) bs rv sq) fun rr s' hq => ?_))
  match rr, hq with
  | .error ev, hq => exact hq.elim
  | .ok (.ret u), hq =>
    obtain ⟨v, H', I3, r3, e3, q3⟩ := I2.after hq
    subst e3
    exact ⟨r3, V.ref (s1.heap.objs.size + 1), H', I3, rfl, q3⟩
  | .ok .next, hq => exact hq.elim
  | .ok .brk, hq => exact hq.elim
  | .ok .cont, hq => exact hq.elim
theorem dqs_env {K : Fg} {cls : Str → Option Addr} {B H : Hp} : ∀ {vs : List V} {xs : List D}, DqAll K B vs xs → EnvR K cls B H (vs.map some) (xs.map .d) []
  | _, _, .nil => .nil
  | _, _, .cons a b => .cons (A1 := []) (.d a) (dqs_env b)
theorem bn_make {ms : Env → RE (List D)} (C : MkF X.prog X.w T.K X.mg X.base k c ps F) (hK : X.K = T.K) (hcl : T.cls = clK T.K) (hgd : X.A.guards = some []) (hr : Room j X.A) (hk : k + 1 ≤ j) (hg : Gl X c) (ha : PA X (e :: es) (taD T ms))
    (hdb : (c == ("__debug__" : Str)) = false := by decide) (h1 : starEach (e :: es) X.env = (false, eval e X.env) :: starEach es X.env := by rfl) (h2 : (backTo pos (starEach es X.env)).any (·.1) = false := by rfl) :
    PE X (.Call (.Name c p) (e :: es) [] pos) (teN T (nMake c F ms)) := by
  obtain ⟨C0, f, fd, g1, g0, g3, g4, g5⟩ := C.ex
  rw [← hK] at g3 g4 g5
  refine pew (pe_makeG g5 g3 g4 hgd (hr.mono hk) hg g0 ha hdb h1 h2) fun σ H Q h => ?_
  refine gen_mono (seqE (R1 := rA T.K) h rA_nil) fun vs H1 ⟨xs, B1, ⟨_, hx⟩, env, A, g, h1⟩ a dx na nd ne => ?_
  dsimp only at h1
  have nb : B1 a = none := g.bh.free na
  have nbd : B1 dx = none := g.bh.free nd
  have sB : Same B1 (upd (upd H1 dx (.own a)) a (.ins C0 dx [])) := fun b o eb => by
    rw [upd_ne (ne_of_none eb nb), upd_ne (ne_of_none eb nbd)]
    exact g.bh b o eb
  refine ⟨B1, .o c [] :: xs.map .d, [a] ++ [], sB, .cons (.o (by rw [hK]; exact g1) nb upd_same .nil) (dqs_env (hK ▸ hx)), by simp, ?_⟩
  cases eF : F (.o c [] :: xs.map .d) with
  | no => simp only [eF] at h1; exact h1.elim
  | ex c' x' outs => simp only [eF] at h1; exact h1.elim
  | ok r outs =>
    simp only [eF] at h1
    intro v B' H' A1 A2 t s' eo n1 o2 n2 dj
    split at h1
    · rename_i c' fs rest q
      injection q with q1 q2
      subst q1 q2
      cases o2 with
      | d o2 =>
      cases o2
      refine ⟨rfl, ?_⟩
      cases eo with
      | cons oo er =>
        rename_i Ah At
        rw [List.append_nil, List.append_nil] at t
        -- from the caller's heap on
        have t1 : Tr B1 H1 [] B' H' (Ah ++ At) := by
          refine ⟨t.bb, fun b o _ eb => ?_, fun b hb => ?_, fun b _ hb z => ?_, fun b hb => ?_⟩
          · have n1 : b ≠ a := ne_of_none eb na
            refine t.fr b o (by simpa using n1) ?_
            rw [upd_ne n1, upd_ne (ne_of_none eb nd)]
            exact eb
          · have := t.st b hb
            by_cases h1 : b = a
            · rw [h1]; exact na
            · rw [upd_ne h1] at this
              by_cases h2 : b = dx
              · rw [h2]; exact nd
              · rw [upd_ne h2] at this; exact this
          · have n1 : b ≠ a := fun q => hb (q ▸ na)
            refine t.nb b (by simpa using n1) (fun q => ?_) z
            rw [upd_ne n1] at q
            by_cases h2 : b = dx
            · rw [h2, upd_same] at q; cases q
            · rw [upd_ne h2] at q; exact hb q
          · right
            rcases t.na b hb with q | q
            · rw [List.mem_singleton.mp q]; exact na
            · by_cases h1 : b = a
              · rw [h1]; exact na
              · rw [upd_ne h1] at q
                by_cases h2 : b = dx
                · rw [h2]; exact nd
                · rw [upd_ne h2] at q; exact q
        have t2 : Tr B1 H1 [] B' H' Ah := t1.less fun b hb => List.mem_append_left _ hb
        have kp : Keeps B1 H1 B' H' A := t2.keeps (fun _ _ => List.not_mem_nil) fun b hb => (env_known g.er b hb).1
        have w := t2.widen (R := A)
        have nAh := (List.nodup_append.mp n1).1
        refine h1 (.ref a) B' H' A Ah (w.perm (fun b => by simp) fun b hb => ?_) ⟨s', env_keep g.er kp, g.nd⟩ (by show Own T.K T.cls B' H' (Sl.o c' fs) (V.ref a) Ah; rw [hcl, ← hK]; exact oo) nAh fun b hb hb2 => (env_known g.er b hb2).1 ((t2.na b hb).elim (fun z => nomatch z) id)
        rcases List.mem_append.mp hb with z | z
        · exact List.mem_append_right _ z
        · exact List.mem_append_left _ z
    · exact h1.elim
end
/-! ### facts -/
section
variable {fa : List He.Fa} {mo : Fg → Bool} {fn : List He.FnD} {K : Fg} {h : Heap} {mg : Str → Option Value}
theorem clK_of {x : Str} (q : (He.Fa.glo x).ok K = true) : clK K x = some (He.ga K x) := by
  unfold clK
  rw [He.eqO_ok q]
theorem clsF_of (X : K.In h) (G : h.Ns mainGlobals mg) (c : SaysM fa mo fn K) {nm : Str} (i j : Nat) (h1 : fa[i]? = some (.glo nm)) (h2 : fa[j]? = some (.cls nm)) : ClsF K mg nm :=
  ⟨_, clK_of (He.SaysE.fact c.1 i h1), He.glo_ok X G (He.SaysE.fact c.1 i h1), He.cls_ok (He.SaysE.fact c.1 j h2)⟩
theorem noAt_of (c : SaysM fa mo fn K) {nm f : Str} (i j : Nat) (h1 : fa[i]? = some (.glo nm)) (h2 : fa[j]? = some (.noat nm f)) : NoAt K nm f :=
  ⟨_, clK_of (He.SaysE.fact c.1 i h1), He.noat_ok (He.SaysE.fact c.1 j h2)⟩
/-- a method's datum -/
abbrev mtD (c nm : Str) (q : Str) (st : Stmt) : He.FnD := ⟨(c, some nm), nm, q, defArgs st, defBody st, defScope st⟩
theorem methF_of (c : SaysM fa mo fn K) {cl nm q : Str} {st : Stmt} (i j l n : Nat) (h1 : fn[i]? = some (mtD cl nm q st)) (h2 : fa[j]? = some (.glo cl)) (h3 : fa[l]? = some (.cls cl)) (h4 : fa[n]? = some (.meth cl nm)) : MethF K cl nm st q := by
  obtain ⟨oc, od, osl, kV, doc, pm, an, cdv, ct, lk, hc⟩ := He.SaysE.def_ c.1 i h1
  have m := He.meth_ok (He.SaysE.fact c.1 n h4)
  exact ⟨_, _, _, clK_of (He.SaysE.fact c.1 j h2), He.cls_ok (He.SaysE.fact c.1 l h3), m, fun_mk lk hc m.kp⟩
structure MkrF (K : Fg) (mg : Str → Option Value) (c : Str) (st : Stmt) (q : Str) : Prop where
  ex : ∃ C f fd, clK K c = some C ∧ mg c = some (.ref C) ∧ Mk K C f ∧ Fun K "__init__" q st f fd
theorem mkrF_of (X : K.In h) (G : h.Ns mainGlobals mg) (c : SaysM fa mo fn K) {cl q : Str} {st : Stmt} (i j l n : Nat) (h1 : fn[i]? = some (mtD cl "__init__" q st)) (h2 : fa[j]? = some (.glo cl)) (h3 : fa[l]? = some (.mkr cl)) (h4 : fa[n]? = some (.meth cl "__init__")) : MkrF K mg cl st q := by
  obtain ⟨oc, od, osl, kV, doc, pm, an, cdv, ct, lk, hc⟩ := He.SaysE.def_ c.1 i h1
  have m := He.meth_ok (He.SaysE.fact c.1 n h4)
  exact ⟨_, _, _, clK_of (He.SaysE.fact c.1 j h2), He.glo_ok X G (He.SaysE.fact c.1 j h2), He.mkr_ok (He.SaysE.fact c.1 l h3), fun_mk lk hc m.kp⟩
theorem mkF {P : Program} {w : World} {base : Heap} {k n : Nat} {c q : Str} {st : Stmt} {N ps : List Str} {pins : List Nat} {body : Env → RS}
    (F : MkrF K mg c st q) (hb : ∀ (kV doc pm : Value) (an : Option Addr) (cdv ct : Value) (us : List Value), us.length = ps.length → bindArgs (PySem.W.fnOf "__init__" q (defArgs st) (defBody st) (defScope st) .none kV doc pm an cdv ct) ⟨us, []⟩ = pure (ps.zip us))
    (S : FnScope N ps (defScope st)) (hn : ps.length = n) (hN : n ≤ N.length)
    (go : ∀ (f : Addr) (cdv : Value) (A : Around) (outer : List PySem.Env) (s : Shared) (H : Hp) (E : XK), A.guards = some [] → Room k (A.deeper (envOfC q (defScope st) s.heap.objs.size f cdv)) →
      PSs (cxOf CX0 P w K mg base N q (defScope st) f cdv A outer s H E).nox (defBody st) (tsS ⟨K, clK K, pins, none⟩ body)) : MkF P w K mg base (k + 1) c ps (runF n N.length pins body) := by
  obtain ⟨C, f, fd, h1, h2, h3, h4⟩ := F.ex
  exact ⟨C, f, fd, h1, h2, h3, h4.binds hb, fnM h4 S hn hN fun cdv A outer s H E hg hr => (go f cdv A outer s H E hg hr).nox⟩
end
end BV

/-! BV25: divmod, order of tuples of ints, t.index(text). -/
namespace BV
open PySem PySem.Spec PyProof.Rows L2

/-- the body of a class -/
def inCls (st : Stmt) (j : Nat) : Stmt := match st with
  | .ClassDef (body := b) .. => b.getD j (.Pass ⟨0, 0, 0, 0⟩)
  | _ => .Pass ⟨0, 0, 0, 0⟩
theorem bt_divmod : bootBuiltins "divmod" = some (.builtin "divmod") := by decide +kernel
theorem bt_sorted : bootBuiltins "sorted" = some (.builtin "sorted") := by decide +kernel
def dDivmod : D → D → Option D
  | .int i, .int j => if decide (0 < j ∧ j < 1073741824) then some (.tuple [.int (i / j), .int (i % j)]) else none
  | _, _ => none
theorem dc_divmod {K : Fg} : DCall K (fun xs H Q => ∃ i j, xs = [.int i, .int j] ∧ CDiv i j ∧ ∀ p, H p = none → Q (.ref p) (upd H p (.tup [.int (i / j), .int (i % j)]))) (d2 dDivmod) := dc2 fun B H v u x y z Q s hx hy e k => by
  cases x with
  | int i =>
    cases y with
    | int j =>
      rw [hx.int, hy.int]
      replace e : (if decide (0 < j ∧ j < 1073741824) = true then some (PyData.tuple [.int (i / j), .int (i % j)]) else none) = some z := e
      obtain ⟨h, rfl⟩ := ifs e
      refine ⟨i, j, rfl, (show 0 < j ∧ j < 1073741824 from of_decide_eq_true h), fun p hp => ?_⟩
      obtain ⟨t, s', sb⟩ := tr_new (o := .tup [.int (i / j), .int (i % j)]) hp s
      exact k _ _ _ t s' (.tup (SqT.of upd_same) (.cons (.int _) (.cons (.int _) .nil)))
    | _ => cases e
  | _ => cases y <;> cases e
/-- tuples of ints: at or below -/
def leT (ns ms : List Int) : Bool := Ob.lexAt (fun j => decide (ns.getD j 0 = ms.getD j 0)) (fun j => decide (ns.getD j 0 ≤ ms.getD j 0)) (decide (ns.length ≤ ms.length)) 0 (min ns.length ms.length)
def dLeT : D → D → Option Bool
  | .tuple xs, .tuple ys => (asInts xs).bind fun ns => (asInts ys).map fun ms => leT ns ms
  | _, _ => none
theorem do_leT {K : Fg} : DOpBO K (rLeT K) dLeT := by
  intro B H v u x y c Q s hx hy e k
  cases x with
  | tuple xs =>
    cases y with
    | tuple ys =>
      obtain ⟨ns, e1, e2⟩ := Option.bind_eq_some_iff.mp e
      obtain ⟨ms, e3, rfl⟩ := Option.map_eq_some_iff.mp e2
      obtain rfl := asInts_eq e1
      obtain rfl := asInts_eq e3
      obtain ⟨p, vs, rfl, h1, h2⟩ := hx.tup s
      obtain ⟨q, ws, rfl, h3, h4⟩ := hy.tup s
      obtain rfl := dqs_ints h2
      obtain rfl := dqs_ints h4
      exact ⟨p, q, ns, ms, rfl, rfl, h1, h3, k⟩
    | _ => cases e
  | _ => cases y <;> cases e
/-- t.index(x), a tuple of texts -/
def dTIndex : D → List D → Option D
  | .tuple xs, [.str z] => (asStrs xs).bind fun ys => (ys.findIdx? fun y => decide (y = z)).map fun j => .int (j : Nat)
  | _, _ => none
theorem dm_tindex {K : Fg} : DMt K (fun x xs H Q => ∃ p, ∃ ys : List Str, ∃ z j, x = .ref p ∧ xs = [.str z] ∧ SqT K H p (ys.map V.str) ∧ ys[j]? = some z ∧ (∀ m, m < j → ys[m]? ≠ some z) ∧ Q (.int (j : Nat)) H) dTIndex := by
  intro B H v vs x xs z Q s hx hxs e k
  match x, xs, hx, hxs, e with
  | .tuple ds, [.str a], hx, hxs, e =>
    obtain ⟨u, rfl, hu⟩ := pk1 hxs
    obtain ⟨ys, e1, e2⟩ := Option.bind_eq_some_iff.mp e
    obtain ⟨j, e3, rfl⟩ := Option.map_eq_some_iff.mp e2
    obtain rfl := asStrs_eq e1
    obtain ⟨p, ws, rfl, h1, h2⟩ := (show Pk K B H v (.tuple (ys.map .str)) from .inl hx).tup s
    obtain rfl := dqs_strs h2
    obtain ⟨hj, h3, h4⟩ := List.findIdx?_eq_some_iff_getElem.mp e3
    refine ⟨p, ys, a, j, rfl, by rw [hu.str], h1, ?_, fun m hm hh => ?_, k _ B H Tr.refl s (.int _)⟩
    · rw [List.getElem?_eq_getElem hj, of_decide_eq_true h3]
    · have := h4 m hm
      obtain ⟨hl, hm2⟩ := List.getElem?_eq_some_iff.mp hh
      rw [hm2] at this
      simp at this
/-- a tuple of the module -/
theorem gvT {K : Fg} {h : Heap} {mg : Str → Option Value} (X : K.In h) (G : h.Ns mainGlobals mg) {x : Str} {vs : List He.Dv} {ds : List D} (hb : He.tupB K x vs = true)
    (hn : (match PySem.W.nsIn K mainGlobals x with | some (some (.ref _)) => true | _ => false) = true) (hd : ∀ B, DqAll K B (vs.map (He.Dv.v K)) ds) : GV K mg x (.tuple ds) := by
  have e : PySem.W.nsIn K mainGlobals x = some (some (.ref (He.ga K x))) := by
    unfold He.ga
    split at hn
    · rename_i a ea
      rw [ea]
    · cases hn
  exact ⟨.ref (He.ga K x), _, PySem.W.mg_of X G e, rfl, fun B => .tup (He.tupB_ok hb B) (hd B)⟩
end BV

/-! BV26: reading mirrors of instances. -/
namespace BV
open PySem PySem.Spec PyProof.Rows L2

def wFl (o : Option Sl) (e : Env) (Q : D → Env → Prop) (_ : Bk Q := .mk) : Prop := match o with | some (.d x) => Q x e | _ => False
theorem wFl_d {x : D} {e : Env} {Q : D → Env → Prop} : wFl (some (.d x)) e Q = Q x e := rfl
section
variable {e : Env} {QD : D → Env → Prop} {QS : Sl → Env → Prop} {N B C : Env → Prop} {R : Sl → Env → Prop} {c f m : Str} {i : Nat} {a : Env → RE D}
theorem r_fld : wE (eFld c i f e) QD = wL (oFs c e[i]?) e fun fs e => wFl (fs.lookup f) e QD := by
  unfold eFld
  cases oFs c e[i]? with
  | none => rfl
  | some fs =>
    show wE (match fs.lookup f with | some (.d x) => .ok x e | _ => .no) QD = wFl (fs.lookup f) e QD
    cases fs.lookup f with
    | none => rfl
    | some s => cases s <;> rfl
theorem fld_end {x : D} : wS (match oFs c e[i]? with | some fs => if fs.length < 1000 then .nx (e.set i (.o c (putS f (.d x) fs))) else .no | none => .no) N R B C = wL (oFs c e[i]?) e fun fs e => fs.length < 1000 ∧ N (e.set i (.o c (putS f (.d x) fs))) := by
  cases oFs c e[i]? with
  | none => rfl
  | some fs =>
    show wS (if fs.length < 1000 then .nx (e.set i (.o c (putS f (.d x) fs))) else .no) N R B C = (fs.length < 1000 ∧ N (e.set i (.o c (putS f (.d x) fs))))
    by_cases h : fs.length < 1000
    · rw [if_pos h]; exact propext ⟨fun z => ⟨h, z⟩, fun z => z.2⟩
    · rw [if_neg h]; exact propext ⟨fun z => (show False from z).elim, fun z => h z.1⟩
theorem r_fldP : wS (sFldP c i f a e) N R B C = wE (a e) fun x e => wL (oFs c e[i]?) e fun fs e => fs.length < 1000 ∧ N (e.set i (.o c (putS f (.d x) fs))) := by
  unfold sFldP
  rw [wS_bindS]
  exact wE_ext fun x e1 => fld_end
theorem r_fldA {op : D → D → Option D} : wS (sFldA c i f op a e) N R B C = wE (eFld c i f e) fun x e => wE (a e) fun y e => wL (op x y) e fun z e => wL (oFs c e[i]?) e fun fs e => fs.length < 1000 ∧ N (e.set i (.o c (putS f (.d z) fs))) := by
  unfold sFldA
  rw [wS_bindS]
  refine wE_ext fun x e1 => ?_
  rw [wS_bindS]
  refine wE_ext fun y e2 => ?_
  rw [wS_bindS, r_lft]
  exact wL_ext fun z e3 => fld_end
def wNo (o : Option Sl) (p : Prop) (_ : Bk p := .mk) : Prop := match o with | none => p | some _ => False
theorem wNo_none {p : Prop} : wNo none p = p := rfl
theorem r_meth {F : List Sl → RF} {ms : Env → RE (List AV)} : wE (eMeth c i m F ms e) QS = wL (oFs c e[i]?) e fun fs e => wNo (fs.lookup m) (wE (eCall false F (vSlot i ms) e) QS) := by
  unfold eMeth
  cases oFs c e[i]? with
  | none => rfl
  | some fs =>
    show wE (match fs.lookup m with | none => eCall false F (vSlot i ms) e | some _ => .no) QS = wNo (fs.lookup m) (wE (eCall false F (vSlot i ms) e) QS)
    cases fs.lookup m <;> rfl
def wMk (r : RF) (e : Env) (Q : Sl → Env → Prop) (_ : Bk Q := .mk) : Prop := match r with | .ok (.d .none) (.o c' fs :: _) => Q (.o c' fs) e | _ => False
theorem wMk_ok {c' : Str} {fs : List (Str × Sl)} {r : List Sl} : wMk (.ok (.d .none) (.o c' fs :: r)) e QS = QS (.o c' fs) e := rfl
theorem r_make {F : List Sl → RF} {ms : Env → RE (List D)} : wE (nMake c F ms e) QS = wE (ms e) fun xs e => wMk (F (.o c [] :: xs.map .d)) e QS := by
  unfold nMake
  rw [wE_bind]
  refine wE_ext fun xs e1 => ?_
  unfold wMk
  cases F (.o c [] :: xs.map .d) with
  | ok r outs =>
    cases r with
    | d x =>
      cases x <;> first | rfl | skip
      cases outs with
      | nil => rfl
      | cons o os => cases o <;> rfl
    | _ => rfl
  | _ => rfl
theorem okS_o {c : Str} {fs : List (Str × Sl)} : okS (some (.o c fs)) = true := rfl
theorem oFs_o {fs : List (Str × Sl)} : oFs c (some (.o c fs)) = some fs := by
  show (if c = c then some fs else none) = some fs
  exact if_pos rfl
end
/-- a, b = x, y -/
def wP2 (xs : List D) (p : D → D → Prop) (_ : Bk p := .mk) : Prop := match xs with | [x, y] => p x y | _ => False
theorem wP2_c {x y : D} {p : D → D → Prop} : wP2 [x, y] p = p x y := rfl
def wP3 (xs : List D) (p : D → D → D → Prop) (_ : Bk p := .mk) : Prop := match xs with | [x, y, z] => p x y z | _ => False
theorem wP3_c {x y z : D} {p : D → D → D → Prop} : wP3 [x, y, z] p = p x y z := rfl
section
variable {e : Env} {N B C : Env → Prop} {R : Sl → Env → Prop} {ms : Env → RE (List D)} {pins : List Nat} {i j l : Nat}
theorem pin_ite2 {e1 : Env} {p : Prop} [Decidable p] : wS (if p then .no else .nx e1) N R B C = (¬ p ∧ N e1) := by
  by_cases h : p
  · rw [if_pos h]; exact propext ⟨fun z => (show False from z).elim, fun z => z.1 h⟩
  · rw [if_neg h]; exact propext ⟨fun z => ⟨h, z⟩, fun z => z.2⟩
theorem r_par2 : wS (sPar2 pins i j ms e) N R B C = wE (ms e) fun xs e => wP2 xs fun x y => ¬ (i ∈ pins ∨ j ∈ pins) ∧ N ((e.set i (.d x)).set j (.d y)) := by
  unfold sPar2
  rw [wS_bindS]
  refine wE_ext fun xs e1 => ?_
  match xs with
  | [] => rfl
  | [_] => rfl
  | [x, y] => exact pin_ite2
  | _ :: _ :: _ :: _ => rfl
theorem r_par3 : wS (sPar3 pins i j l ms e) N R B C = wE (ms e) fun xs e => wP3 xs fun x y z => ¬ (i ∈ pins ∨ (j ∈ pins ∨ l ∈ pins)) ∧ N (((e.set i (.d x)).set j (.d y)).set l (.d z)) := by
  unfold sPar3
  rw [wS_bindS]
  refine wE_ext fun xs e1 => ?_
  match xs with
  | [] => rfl
  | [_] => rfl
  | [_, _] => rfl
  | [x, y, z] => exact pin_ite2
  | _ :: _ :: _ :: _ :: _ => rfl
end
end BV

/-! BV27: loops over ranges. -/
namespace BV
open PySem PySem.Spec PyProof.Rows L2

theorem rng_nil {a b : Int} (h : b ≤ a) : rng a b = [] := by
  unfold rng
  rw [show (b - a).toNat = 0 by omega]
  rfl
theorem rng_cons {a b : Int} (h : a < b) : rng a b = .int a :: rng (a + 1) b := by
  unfold rng
  rw [show (b - a).toNat = (b - (a + 1)).toNat + 1 by omega, List.range_succ_eq_map, List.map_cons, List.map_map]
  refine congr (congrArg _ (by simp)) (List.map_congr_left fun i _ => ?_)
  simp only [Function.comp]
  refine congrArg _ ?_
  have : ((i.succ : Nat) : Int) = (i : Int) + 1 := by omega
  rw [this]; omega
theorem wS_rng {N B C : Env → Prop} {R : Sl → Env → Prop} {tm : D → Env → Option Env} {body : Env → RS} {a b : Int} (I : Int → Env → Prop) (hab : a ≤ b) (step : ∀ i e, a ≤ i → i < b → I i e → ∃ e1, tm (.int i) e = some e1 ∧ wS (body e1) (I (i + 1)) R N (I (i + 1)))
    (fin : ∀ e, I b e → N e) (e : Env) (h : I a e) : wS (forL tm body (rng a b) e) N R B C := by
  refine wS_for (fun xs e => ∃ i, a ≤ i ∧ i ≤ b ∧ xs = rng i b ∧ I i e) ?_ ?_ _ _ ⟨a, Int.le_refl _, hab, rfl, h⟩
  · rintro x r e ⟨i, h1, h2, h3, h4⟩
    by_cases hi : i < b
    · rw [rng_cons hi] at h3
      cases h3
      obtain ⟨e1, g1, g2⟩ := step i e h1 hi h4
      refine ⟨e1, g1, wS_mono g2 (fun e q => ⟨i + 1, by omega, by omega, rfl, q⟩) (fun _ _ q => q) (fun _ q => q) fun e q => ⟨i + 1, by omega, by omega, rfl, q⟩⟩
    · rw [rng_nil (by omega)] at h3
      cases h3
  · rintro e ⟨i, h1, h2, h3, h4⟩
    by_cases hi : i < b
    · rw [rng_cons hi] at h3
      cases h3
    · have : i = b := by omega
      subst this
      exact fin e h4
end BV

/-! BV28: tuples of the module by their names: t.index(x), a slot that holds one. -/
namespace BV
open PySem PySem.Spec PyProof.Rows L2

structure TpF (K : Fg) (mg : Str → Option Value) (nm : Str) (ds : List D) : Prop where
  ex : ∃ a o, clK K nm = some a ∧ mg nm = some (.ref a) ∧ K.lookup a = some o ∧ o.cls = .type "tuple" ∧ o.dict = none ∧ ∀ B, Dq K B (.ref a) (.tuple ds)
theorem TpF.fv {K : Fg} {mg : Str → Option Value} {nm : Str} {ds : List D} (h : TpF K mg nm ds) : FV K mg nm := by
  obtain ⟨a, o, h1, h2, _⟩ := h.ex
  exact ⟨a, h1, h2⟩
/-- what is asked of a tuple's object beside its items -/
def tpB (K : Fg) (x : Str) : Bool := match K.lookup (He.ga K x) with
  | some o => decide (o.cls = .type "tuple") && o.dict.isNone
  | none => false
theorem tpF_of {K : Fg} {h : Heap} {mg : Str → Option Value} (X : K.In h) (G : h.Ns mainGlobals mg) {x : Str} {vs : List He.Dv} {ds : List D} (hb : He.tupB K x vs = true)
    (hn : (match PySem.W.nsIn K mainGlobals x with | some (some (.ref _)) => true | _ => false) = true) (ht : tpB K x = true) (hd : ∀ B, DqAll K B (vs.map (He.Dv.v K)) ds) : TpF K mg x ds := by
  have e : PySem.W.nsIn K mainGlobals x = some (some (.ref (He.ga K x))) := by
    unfold He.ga
    split at hn
    · rename_i a ea
      rw [ea]
    · cases hn
  unfold tpB at ht
  cases ho : K.lookup (He.ga K x) with
  | none => rw [ho] at ht; cases ht
  | some o =>
    rw [ho] at ht
    obtain ⟨t1, t2⟩ := Bool.and_eq_true_iff.mp ht
    refine ⟨He.ga K x, o, by unfold clK; rw [e], PySem.W.mg_of X G e, ho, of_decide_eq_true t1, Option.isNone_iff_eq_none.mp t2, fun B => .tup (He.tupB_ok hb B) (hd B)⟩
def eTIx (ds : List D) (m : Env → RE D) : Env → RE D := fun env => (m env).bind fun z env => lft (dTIndex (.tuple ds) [z]) env
/-- the module's tuple that slot i holds -/
def glOf (tb : Str → Option (List D)) : Option Sl → Option (List D)
  | some (.f nm) => tb nm
  | _ => none
def eGl (i : Nat) (tb : Str → Option (List D)) : Env → RE D := fun env => lft ((glOf tb env[i]?).map .tuple) env
def eTIxS (i : Nat) (tb : Str → Option (List D)) (m : Env → RE D) : Env → RE D := fun env => match glOf tb env[i]? with
  | some ds => eTIx ds m env
  | none => .no
section
variable {X : Cx} {T : Tb} {e o : Expr} {m : Env → RE D} {nm : Str} {ds : List D} {p apos cpos : Pos} {i : Nat} {tb : Str → Option (List D)}
theorem gl_at {B H : Hp} {σ : St} {env : Env} {A : List Addr} (g : Good T B H σ env A) (h : glOf tb env[i]? = some ds) : ∃ nm a, tb nm = some ds ∧ T.cls nm = some a ∧ σ[i]? = some (some (.ref a)) := by
  unfold glOf at h
  split at h
  · rename_i nm hn
    obtain ⟨v, _, _, _, h1, h2, _⟩ := env_at i g.er hn (fun z => nomatch z)
    cases h2 with
    | f hc => exact ⟨nm, _, h, hc, h1⟩
  · cases h
theorem be_gl (hK : T.K = X.K) (hcl : T.cls = clK T.K) (hF : ∀ nm ds, tb nm = some ds → TpF T.K X.mg nm ds) (h : PE X e (tVar i)) : PE X e (teD T (eGl i tb)) := pew h fun σ H Q ⟨B, env, A, g, q⟩ => by
  unfold eGl at q
  cases hg : glOf tb env[i]? with
  | none => simp only [hg, Option.map_none, lft] at q; exact q.elim
  | some ds =>
    simp only [hg, Option.map_some, lft] at q
    obtain ⟨nm, a, h1, h2, h3⟩ := gl_at g hg
    obtain ⟨a', o', f1, f2, f3, f4, f5, f6⟩ := (hF nm ds h1).ex
    rw [hcl, f1] at h2
    cases h2
    exact ⟨_, h3, q (.ref a) B H A [] (by simpa using Tr.refl) g ⟨rfl, f6 B⟩ List.nodup_nil fun _ z => nomatch z⟩
theorem tix_go {a : Addr} {ob : Obj} {σ : St} {H : Hp} {Q : VK} (hl : X.K.lookup a = some ob) (hc : ob.cls = .type "tuple") (hd : ob.dict = none) (hq : ∀ B, Dq X.K B (.ref a) (.tuple ds)) (hK : T.K = X.K) (h : gen T (rD T.K) (eTIx ds m) σ H Q) :
    tyV X.K "tuple" (.ref a) H ∧ tCons (teD T m) tNil σ H fun xs H2 => ∃ p, ∃ ys : List Str, ∃ z j, V.ref a = .ref p ∧ xs = [.str z] ∧ SqT X.K H2 p (ys.map V.str) ∧ ys[j]? = some z ∧ (∀ m, m < j → ys[m]? ≠ some z) ∧ Q (.int (j : Nat)) H2 := by
  refine ⟨.inr (.inl ⟨rfl, ob, hl, hc, hd⟩), ?_⟩
  refine gen_mono (seqE (R1 := rD T.K) h rD_nil) fun v H1 ⟨z, B1, ⟨_, hz⟩, h1⟩ => ?_
  obtain ⟨w, e, s, k⟩ := doneB h1
  exact dm_tindex (K := X.K) B1 H1 (.ref a) [v] (.tuple ds) [z] w (fun v H => Q v H) s (hq B1) (.cons (.inl (hK ▸ hz)) .nil) e fun v B' H' t s' d => k v B' H' t s' ⟨rfl, hK ▸ d⟩
theorem be_tix (hK : T.K = X.K) (F : TpF X.K X.mg nm ds) (hg : Gl X nm) (ha : PE X e (teD T m)) (hdb : (nm == ("__debug__" : Str)) = false := by decide)
    (hbase : attributeBase (.Name nm p) "index" X.env (eval (.Name nm p) X.env) = eval (.Name nm p) X.env := by rfl)
    (hfew : ((backTo cpos (starEach [e] X.env)).all (fun x => !x.1) && (backToKw cpos (keywordEach [] X.env)).all (fun x => x.1.isSome) && decide ([e].length + ([] : List Keyword).length + (if ([] : List Keyword).isEmpty then 0 else 1) < 30)) = true := by rfl)
    (hline : (apos.endLine == cpos.line) = true := by rfl) (hs : starEach [e] X.env = (false, eval e X.env) :: starEach [] X.env := by rfl) (hplain : (backTo cpos (starEach [] X.env)).any (·.1) = false := by rfl) :
    PE X (.Call (.Attribute (.Name nm p) "index" apos) [e] [] cpos) (teD T (eTIx ds m)) := by
  obtain ⟨a, ob, f1, f2, f3, f4, f5, f6⟩ := F.ex
  refine pew (pe_bm PySem.F.plainAttrs_tuple PySem.F.slot_tuple_index PySem.F.type_tuple_index mt_tup_index (pe_glob (v := .ref a) hg f2 rfl hdb) (pa_cons ha pa_nil hs) hbase hfew hline hs hplain) fun σ H Q h => ?_
  exact tix_go f3 f4 f5 f6 hK h
theorem be_tixS (hK : T.K = X.K) (hcl : T.cls = clK T.K) (hF : ∀ nm ds, tb nm = some ds → TpF T.K X.mg nm ds) (ho : PE X o (tVar i)) (ha : PE X e (teD T m))
    (hbase : attributeBase o "index" X.env (eval o X.env) = eval o X.env := by rfl)
    (hfew : ((backTo cpos (starEach [e] X.env)).all (fun x => !x.1) && (backToKw cpos (keywordEach [] X.env)).all (fun x => x.1.isSome) && decide ([e].length + ([] : List Keyword).length + (if ([] : List Keyword).isEmpty then 0 else 1) < 30)) = true := by rfl)
    (hline : (apos.endLine == cpos.line) = true := by rfl) (hs : starEach [e] X.env = (false, eval e X.env) :: starEach [] X.env := by rfl) (hplain : (backTo cpos (starEach [] X.env)).any (·.1) = false := by rfl) :
    PE X (.Call (.Attribute o "index" apos) [e] [] cpos) (teD T (eTIxS i tb m)) := by
  refine pew (pe_bm PySem.F.plainAttrs_tuple PySem.F.slot_tuple_index PySem.F.type_tuple_index mt_tup_index ho (pa_cons ha pa_nil hs) hbase hfew hline hs hplain) fun σ H Q ⟨B, env, A, g, q⟩ => ?_
  unfold eTIxS at q
  cases hg : glOf tb env[i]? with
  | none => simp only [hg] at q; exact q.elim
  | some ds =>
    simp only [hg] at q
    obtain ⟨nm, a, h1, h2, h3⟩ := gl_at g hg
    obtain ⟨a', o', f1, f2, f3, f4, f5, f6⟩ := (hF nm ds h1).ex
    rw [hcl, f1] at h2
    cases h2
    rw [hK] at f3
    exact ⟨_, h3, tix_go f3 f4 f5 (hK ▸ f6) hK ⟨B, env, A, g, q⟩⟩
end
section
variable {e : Env} {QD : D → Env → Prop} {m : Env → RE D} {ds : List D} {i : Nat} {tb : Str → Option (List D)}
theorem r_tix : wE (eTIx ds m e) QD = wE (m e) fun z e => wL (dTIndex (.tuple ds) [z]) e QD := by
  unfold eTIx; rw [wE_bind]; exact wE_ext fun _ _ => r_lft
theorem r_gl : wE (eGl i tb e) QD = wL (glOf tb e[i]?) e fun ds e => QD (.tuple ds) e := by
  unfold eGl; rw [r_lft, wL_map]
theorem r_tixS : wE (eTIxS i tb m e) QD = wL (glOf tb e[i]?) e fun ds e => wE (m e) fun z e => wL (dTIndex (.tuple ds) [z]) e QD := by
  unfold eTIxS
  cases glOf tb e[i]? with
  | none => rfl
  | some ds => exact r_tix
end
end BV

/-! BV29: more reading rules. -/
namespace BV
open PySem PySem.Spec PyProof.Rows L2

def negD : D → Option D
  | .int i => some (.int (-i))
  | _ => none
theorem l_neg {i : Int} : negD (.int i) = some (.int (-i)) := rfl
theorem r_negv {a : Env → RE D} {e : Env} {Q : D → Env → Prop} : wE (eNeg a e) Q = wE (a e) fun x e => wL (negD x) e Q := by
  unfold eNeg
  rw [wE_bind]
  refine wE_ext fun x e1 => ?_
  cases x <;> rfl
theorem r_vfn {nm : Str} {r : Env → RE (List AV)} {e : Env} {Q : List AV → Env → Prop} : wE (vFn nm r e) Q = wE (r e) fun as e => Q (.f nm :: as) e := by
  unfold vFn
  rw [wE_bind]
  rfl
theorem tk_f {nm : Str} {r : List AV} {e : Env} : takeA (.f nm :: r) e = (takeA r e).map fun q => (.f nm :: q.1, q.2) := rfl
end BV

/-! law_k40_dates: mirrors and walk, printed by gen.py -/
namespace K40
open PySem PySem.Spec PyProof.Rows L2 BV
def top (i : Nat) : Stmt := PySem.Challenge.pw_oncehome_k40_dates.main.body.getD i (.Pass ⟨0, 0, 0, 0⟩)
abbrev s__law_start : Stmt := top 37
abbrev s__law_draw : Stmt := top 38
abbrev s__law_pick : Stmt := top 39
abbrev s__law_leap : Stmt := top 41
abbrev s__law_length : Stmt := top 42
abbrev s__law_drawn : Stmt := top 46
abbrev s__law_number : Stmt := top 45
abbrev s__law_same : Stmt := top 40
abbrev s_is_integer : Stmt := top 5
abbrev s_is_leap : Stmt := top 15
abbrev s_length_of : Stmt := top 16
abbrev s_is_date : Stmt := top 17
abbrev s_years_ahead : Stmt := top 18
abbrev s_count : Stmt := top 21
abbrev s_days_of : Stmt := top 22
abbrev s_check_days : Stmt := top 23
abbrev s_date_in : Stmt := top 24
abbrev s_date_of : Stmt := top 25
abbrev s_weekday : Stmt := top 26
abbrev s__law_next_day : Stmt := top 51
abbrev s__law_is_whole : Stmt := top 43
abbrev s__law_is_date : Stmt := top 44
abbrev s_next_weekday : Stmt := top 27
abbrev s__law_names : Stmt := top 49
abbrev s__law_moved : Stmt := top 52
abbrev s_add_months : Stmt := top 28
abbrev s_months_between : Stmt := top 29
abbrev s__law_between : Stmt := top 53
abbrev s__law_days_hold : Stmt := top 54
abbrev s__law_two : Stmt := top 48
abbrev s__law_months : Stmt := top 50
abbrev s__law_text : Stmt := top 47
abbrev s_check_moment : Stmt := top 30
abbrev s_two : Stmt := top 31
abbrev s_write_date : Stmt := top 32
abbrev s_Reader___init__ : Stmt := inCls (top 33) 0
abbrev s_Reader_one_of : Stmt := inCls (top 33) 2
abbrev s_Reader_take : Stmt := inCls (top 33) 1
abbrev s_Reader_number : Stmt := inCls (top 33) 3
abbrev s_read_zone : Stmt := top 35
abbrev s_read_date : Stmt := top 34
abbrev s__law_text_holds : Stmt := top 55
abbrev s_law : Stmt := top 56
section
/-! ### mirrors -/
/-- tuples of the module that are handed on by their names -/
def tbT : Str → Option (List D) := fun nm =>
  if nm = "NAMES" then some [(.str "Mon"), (.str "Tue"), (.str "Wed"), (.str "Thu"), (.str "Fri"), (.str "Sat"), (.str "Sun")] else
  if nm = "MONTHS" then some [(.str "Jan"), (.str "Feb"), (.str "Mar"), (.str "Apr"), (.str "May"), (.str "Jun"), (.str "Jul"), (.str "Aug"), (.str "Sep"), (.str "Oct"), (.str "Nov"), (.str "Dec")] else none
/-- _law_draw: 0 state, 1 many, 2 value -/
def b__law_draw : BV.Env → RS := (sSeq (sIf (tAndD (tCmpD dEqB (eBinO dIx 0 (eC (.int 1))) (eC (.int 0))) (tCmpD dGeB (eBinO dIx 0 (eC (.int 2))) (eCB (d1 dLen) (aOne (eBinO dIx 0 (eC (.int 0))))))) (sSeq (sSetIx 0 (eC (.int 3)) (eBin dMod (eCB (d1 dIntOf) (aOne (eBin dAdd (eBin dMul (eBinO dIx 0 (eC (.int 3))) (eC (.int 48271))) (eC (.int 69621))))) (eC (.int 2147483629))))
 (sRet (eBin dMod (eCB (d1 dIntOf) (aOne (eBin dDiv (eBinO dIx 0 (eC (.int 3))) (eC (.int 13))))) (eOwn 1)))) sNil)
 (sSeq (sIf (tCmpD dEqB (eBinO dIx 0 (eC (.int 1))) (eC (.int 0))) (sSeq (sSetIx 0 (eC (.int 1)) (eCB (d1 dAbs) (aOne (eBin dIx (eBinO dIx 0 (eC (.int 0))) (eBinO dIx 0 (eC (.int 2)))))))
 (sSetIx 0 (eC (.int 2)) (eBin dAdd (eBinO dIx 0 (eC (.int 2))) (eC (.int 1))))) sNil)
 (sSeq (sAsg [0] 2 (eBin dMod (eCB (d1 dIntOf) (aOne (eBinO dIx 0 (eC (.int 1))))) (eOwn 1)))
 (sSeq (sSetIx 0 (eC (.int 1)) (eBin dDiv (eBinO dIx 0 (eC (.int 1))) (eOwn 1)))
 (sRet (eVar 2))))))
def m__law_draw : List Sl → RF := runF 2 3 [0] b__law_draw
/-- _law_pick: 0 state, 1 some -/
def b__law_pick : BV.Env → RS := (sRet (eBin dIx (eVar 1) (fun env => frz ((eCall false m__law_draw (vSlot 0 (vCons (eCB (d1 dLen) (aOne (eOwn 1))) vNil))) env))))
def m__law_pick : List Sl → RF := runF 2 2 [0] b__law_pick
/-- _law_leap: 0 year -/
def b__law_leap : BV.Env → RS := (sRet (eOr (eAnd (eCmp dEqB (eBin dMod (eCB (d1 dIntOf) (aOne (eOwn 0))) (eC (.int 4))) (eC (.int 0))) (eCmp dNeB (eBin dMod (eCB (d1 dIntOf) (aOne (eOwn 0))) (eC (.int 100))) (eC (.int 0)))) (eCmp dEqB (eBin dMod (eCB (d1 dIntOf) (aOne (eOwn 0))) (eC (.int 400))) (eC (.int 0)))))
def m__law_leap : List Sl → RF := runF 1 1 [] b__law_leap
/-- _law_length: 0 year, 1 month -/
def b__law_length : BV.Env → RS := (sRet (eIf (tCmpD dEqB (eVar 1) (eC (.int 2))) (eBin dAdd (eC (.int 28)) (eCB (d1 dIntOf) (aOne (fun env => frz ((eCall false m__law_leap (vCons (eVar 0) vNil)) env))))) (eIf (tCmpD dInB (eVar 1) (fun env => frz ((nLst (aCons (eC (.int 4)) (aCons (eC (.int 6)) (aCons (eC (.int 9)) (aCons (eC (.int 11)) aNil))))) env))) (eC (.int 30)) (eC (.int 31)))))
def m__law_length : List Sl → RF := runF 2 2 [] b__law_length
/-- _law_drawn: 0 state, 1 year, 2 month, 3 last -/
def b__law_drawn : BV.Env → RS := (sSeq (sAsg [0] 1 (fun env => frz ((eCall false m__law_pick (vSlot 0 (vCons (fun env => frz ((nLst (aCons (eC (.int 1)) (aCons (eC (.int 4)) (aCons (eC (.int 100)) (aCons (eC (.int 400)) (aCons (eC (.int 1600)) (aCons (eC (.int 1900)) (aCons (eC (.int 1970)) (aCons (eC (.int 1972)) (aCons (eC (.int 2000)) (aCons (eC (.int 2024)) (aCons (eC (.int 2100)) (aCons (eC (.int 9999)) (aCons (eBin dAdd (eC (.int 1)) (fun env => frz ((eCall false m__law_draw (vSlot 0 (vCons (eC (.int 9999)) vNil))) env))) aNil)))))))))))))) env)) vNil))) env)))
 (sSeq (sAsg [0] 2 (fun env => frz ((eCall false m__law_pick (vSlot 0 (vCons (fun env => frz ((nLst (aCons (eC (.int 1)) (aCons (eC (.int 2)) (aCons (eC (.int 2)) (aCons (eC (.int 12)) (aCons (eBin dAdd (eC (.int 1)) (fun env => frz ((eCall false m__law_draw (vSlot 0 (vCons (eC (.int 12)) vNil))) env))) aNil)))))) env)) vNil))) env)))
 (sSeq (sAsg [0] 3 (fun env => frz ((eCall false m__law_length (vCons (eVar 1) (vCons (eVar 2) vNil))) env)))
 (sRet (eTup (aCons (eVar 1) (aCons (eVar 2) (aCons (fun env => frz ((eCall false m__law_pick (vSlot 0 (vCons (fun env => frz ((nLst (aCons (eC (.int 1)) (aCons (eVar 3) (aCons (eVar 3) (aCons (eC (.int 28)) (aCons (eBin dAdd (eC (.int 1)) (fun env => frz ((eCall false m__law_draw (vSlot 0 (vCons (eVar 3) vNil))) env))) aNil)))))) env)) vNil))) env)) aNil))))))))
def m__law_drawn : List Sl → RF := runF 1 4 [0] b__law_drawn
/-- _law_number: 0 year, 1 month, 2 day, 3 cycles, 4 years, 5 days, 6 own -/
def b__law_number : BV.Env → RS := (sSeq (sPar2 [] 3 4 (aCons (eBin dDiv (eBin dSub (eVar 0) (eC (.int 1))) (eC (.int 400))) (aCons (eBin dMod (eCB (d1 dIntOf) (aOne (eBin dSub (eVar 0) (eC (.int 1))))) (eC (.int 400))) aNil)))
 (sSeq (sAsg [] 5 (eBin dMul (eVar 3) (eC (.int 146097))))
 (sSeq (sFor (tgDo [] (.n 6)) (iRg2 (aCons (eBin dAdd (eBin dMul (eC (.int 400)) (eOwn 3)) (eC (.int 1))) (aCons (eBin dAdd (eBin dAdd (eBin dMul (eC (.int 400)) (eOwn 3)) (eC (.int 1))) (eOwn 4)) aNil)))
 (sAsg [] 5 (eBin dAdd (eBin dAdd (eVar 5) (eC (.int 365))) (eCB (d1 dIntOf) (aOne (fun env => frz ((eCall false m__law_leap (vCons (eVar 6) vNil)) env)))))))
 (sRet (eBin dSub (eBin dSub (eBin dAdd (eBin dAdd (eVar 5) (eCB (d1 dSum) (aOne (fun env => frz ((nComp [6] (tgDo [] (.n 6)) (iRg2 (aCons (eC (.int 1)) (aCons (eVar 1) aNil))) ttYes (fun env => frz ((eCall false m__law_length (vCons (eVar 0) (vCons (eVar 6) vNil))) env))) env))))) (eOwn 2)) (eC (.int 1))) (eC (.int 719162)))))))
def m__law_number : List Sl → RF := runF 3 7 [] b__law_number
/-- _law_same: 0 actual, 1 due -/
def b__law_same : BV.Env → RS := (sRet (eAnd (eCmp dEqB (eVar 0) (eOwn 1)) (eCmp dEqB (eCB (d1 dRepr) (aOne (eOwn 0))) (eCB (d1 dRepr) (aOne (eOwn 1))))))
def m__law_same : List Sl → RF := runF 2 2 [] b__law_same
/-- is_integer: 0 value -/
def b_is_integer : BV.Env → RS := (sRet (eAnd (eIsI "int" (eOwn 0)) (eNot (eIsI "bool" (eOwn 0)))))
def m_is_integer : List Sl → RF := runF 1 1 [] b_is_integer
/-- is_leap: 0 year -/
def b_is_leap : BV.Env → RS := (sRet (eAnd (eCmp dEqB (eBin dMod (eVar 0) (eC (.int 4))) (eC (.int 0))) (eOr (eCmp dNeB (eBin dMod (eVar 0) (eC (.int 100))) (eC (.int 0))) (eCmp dEqB (eBin dMod (eVar 0) (eC (.int 400))) (eC (.int 0))))))
def m_is_leap : List Sl → RF := runF 1 1 [] b_is_leap
/-- length_of: 0 year, 1 month -/
def b_length_of : BV.Env → RS := (sRet (eBin dAdd (eBin dIx (eC (.tuple [(.int 31), (.int 28), (.int 31), (.int 30), (.int 31), (.int 30), (.int 31), (.int 31), (.int 30), (.int 31), (.int 30), (.int 31)])) (eBin dSub (eVar 1) (eC (.int 1)))) (eIf (tAndD (tCmpD dEqB (eVar 1) (eC (.int 2))) (tTru (fun env => frz ((eCall false m_is_leap (vCons (eVar 0) vNil)) env)))) (eC (.int 1)) (eC (.int 0)))))
def m_length_of : List Sl → RF := runF 2 2 [] b_length_of
/-- is_date: 0 year, 1 month, 2 day -/
def b_is_date : BV.Env → RS := (sSeq (sIf (tOrD (tNotD (tTru (fun env => frz ((eCall false m_is_integer (vCons (eVar 0) vNil)) env)))) (tOrD (tNotD (tChainD dLeB dLeB (eC (.int 1)) (eVar 0) (eC (.int 9999)))) (tOrD (tNotD (tTru (fun env => frz ((eCall false m_is_integer (vCons (eVar 1) vNil)) env)))) (tNotD (tChainD dLeB dLeB (eC (.int 1)) (eVar 1) (eC (.int 12))))))) (sRet (eC (.bool false))) sNil)
 (sRet (eAnd (fun env => frz ((eCall false m_is_integer (vCons (eVar 2) vNil)) env)) (eChain dLeB dLeB (eC (.int 1)) (eVar 2) (fun env => frz ((eCall false m_length_of (vCons (eVar 0) (vCons (eVar 1) vNil))) env))))))
def m_is_date : List Sl → RF := runF 3 3 [] b_is_date
/-- years_ahead: 0 year, 1 past -/
def b_years_ahead : BV.Env → RS := (sSeq (sAsg [] 1 (eBin dSub (eVar 0) (eC (.int 1))))
 (sRet (eBin dAdd (eBin dSub (eBin dAdd (eBin dMul (eC (.int 365)) (eOwn 1)) (eBin dDiv (eVar 1) (eC (.int 4)))) (eBin dDiv (eVar 1) (eC (.int 100)))) (eBin dDiv (eVar 1) (eC (.int 400))))))
def m_years_ahead : List Sl → RF := runF 1 2 [] b_years_ahead
/-- count: 0 year, 1 month, 2 day, 3 own -/
def b_count : BV.Env → RS := (sRet (eBin dSub (eBin dSub (eBin dAdd (eBin dAdd (fun env => frz ((eCall false m_years_ahead (vCons (eVar 0) vNil)) env)) (eCB (d1 dSum) (aOne (fun env => frz ((nComp [3] (tgDo [] (.n 3)) (iRg2 (aCons (eC (.int 1)) (aCons (eVar 1) aNil))) ttYes (fun env => frz ((eCall false m_length_of (vCons (eVar 0) (vCons (eVar 3) vNil))) env))) env))))) (eOwn 2)) (eC (.int 1))) (eC (.int 719162))))
def m_count : List Sl → RF := runF 3 4 [] b_count
/-- days_of: 0 year, 1 month, 2 day -/
def b_days_of : BV.Env → RS := (sSeq (sIf (tNotD (tTru (fun env => frz ((eCall false m_is_date (vCons (eVar 0) (vCons (eVar 1) (vCons (eVar 2) vNil)))) env)))) sNo sNil)
 (sRetN (eCall false m_count (vCons (eVar 0) (vCons (eVar 1) (vCons (eVar 2) vNil))))))
def m_days_of : List Sl → RF := runF 3 3 [] b_days_of
/-- check_days: 0 days -/
def b_check_days : BV.Env → RS := (sIf (tOrD (tNotD (tTru (fun env => frz ((eCall false m_is_integer (vCons (eVar 0) vNil)) env)))) (tNotD (tChainD dLeB dLtB (eNeg (eC (.int 719162))) (eVar 0) (eBin dSub (eC (.int 3652059)) (eC (.int 719162)))))) sNo sNil)
def m_check_days : List Sl → RF := runF 1 1 [] b_check_days
/-- date_in: 0 days, 1 number, 2 low, 3 high, 4 middle, 5 left, 6 month -/
def b_date_in : BV.Env → RS := (sSeq (sAsg [] 1 (eBin dAdd (eVar 0) (eC (.int 719162))))
 (sSeq (sPar2 [] 2 3 (aCons (eC (.int 1)) (aCons (eC (.int 9999)) aNil)))
 (sSeq (sWhile 100000 (tCmpD dLtB (eVar 2) (eOwn 3))
 (sSeq (sAsg [] 4 (eBin dDiv (eBin dAdd (eBin dAdd (eVar 2) (eOwn 3)) (eC (.int 1))) (eC (.int 2))))
 (sIf (tCmpD dLeB (fun env => frz ((eCall false m_years_ahead (vCons (eVar 4) vNil)) env)) (eOwn 1)) (sAsg [] 2 (eVar 4)) (sAsg [] 3 (eBin dSub (eVar 4) (eC (.int 1)))))))
 (sSeq (sAsg [] 5 (eBin dSub (eVar 1) (fun env => frz ((eCall false m_years_ahead (vCons (eVar 2) vNil)) env))))
 (sSeq (sAsg [] 6 (eC (.int 1)))
 (sSeq (sWhile 100000 (tCmpD dGeB (eVar 5) (fun env => frz ((eCall false m_length_of (vCons (eVar 2) (vCons (eVar 6) vNil))) env)))
 (sSeq (sAug [] 5 dSub (fun env => frz ((eCall false m_length_of (vCons (eVar 2) (vCons (eVar 6) vNil))) env)))
 (sAug [] 6 dAddI (eC (.int 1)))))
 (sRet (eTup (aCons (eVar 2) (aCons (eVar 6) (aCons (eBin dAdd (eVar 5) (eC (.int 1))) aNil)))))))))))
def m_date_in : List Sl → RF := runF 1 7 [] b_date_in
/-- date_of: 0 days -/
def b_date_of : BV.Env → RS := (sSeq (sDropN (eCall false m_check_days (vCons (eVar 0) vNil)))
 (sRetN (eCall false m_date_in (vCons (eVar 0) vNil))))
def m_date_of : List Sl → RF := runF 1 1 [] b_date_of
/-- weekday: 0 days -/
def b_weekday : BV.Env → RS := (sSeq (sDropN (eCall false m_check_days (vCons (eVar 0) vNil)))
 (sRet (eBin dMod (eBin dAdd (eVar 0) (eC (.int 3))) (eC (.int 7)))))
def m_weekday : List Sl → RF := runF 1 1 [] b_weekday
/-- _law_next_day: 0 date, 1 year, 2 month, 3 day -/
def b__law_next_day : BV.Env → RS := (sSeq (sTup (tgDo [] (.t [(.n 1), (.n 2), (.n 3)])) (eVar 0))
 (sSeq (sIf (tCmpD dLtB (eVar 3) (fun env => frz ((eCall false m__law_length (vCons (eVar 1) (vCons (eVar 2) vNil))) env))) (sRet (eTup (aCons (eVar 1) (aCons (eVar 2) (aCons (eBin dAdd (eVar 3) (eC (.int 1))) aNil))))) sNil)
 (sRet (eIf (tCmpD dLtB (eVar 2) (eC (.int 12))) (eTup (aCons (eVar 1) (aCons (eBin dAdd (eVar 2) (eC (.int 1))) (aCons (eC (.int 1)) aNil)))) (eTup (aCons (eBin dAdd (eVar 1) (eC (.int 1))) (aCons (eC (.int 1)) (aCons (eC (.int 1)) aNil))))))))
def m__law_next_day : List Sl → RF := runF 1 4 [] b__law_next_day
/-- _law_is_whole: 0 value -/
def b__law_is_whole : BV.Env → RS := (sRet (eAnd (eIsI "int" (eOwn 0)) (eNot (eIsI "bool" (eOwn 0)))))
def m__law_is_whole : List Sl → RF := runF 1 1 [] b__law_is_whole
/-- _law_is_date: 0 year, 1 month, 2 day -/
def b__law_is_date : BV.Env → RS := (sSeq (sIf (tOrD (tNotD (tTru (fun env => frz ((eCall false m__law_is_whole (vCons (eVar 0) vNil)) env)))) (tOrD (tNotD (tChainD dLeB dLeB (eC (.int 1)) (eVar 0) (eC (.int 9999)))) (tOrD (tNotD (tTru (fun env => frz ((eCall false m__law_is_whole (vCons (eVar 1) vNil)) env)))) (tNotD (tChainD dLeB dLeB (eC (.int 1)) (eVar 1) (eC (.int 12))))))) (sRet (eC (.bool false))) sNil)
 (sRet (eAnd (fun env => frz ((eCall false m__law_is_whole (vCons (eVar 2) vNil)) env)) (eChain dLeB dLeB (eC (.int 1)) (eVar 2) (fun env => frz ((eCall false m__law_length (vCons (eVar 0) (vCons (eVar 1) vNil))) env))))))
def m__law_is_date : List Sl → RF := runF 3 3 [] b__law_is_date
/-- next_weekday: 0 days, 1 name, 2 found -/
def b_next_weekday : BV.Env → RS := (sSeq (sDropN (eCall false m_check_days (vCons (eVar 0) vNil)))
 (sSeq (sIf (tOrD (tNotD (tTru (eIsI "str" (eOwn 1)))) (tCmpD dNinB (eVar 1) (eC (.tuple [(.str "Mon"), (.str "Tue"), (.str "Wed"), (.str "Thu"), (.str "Fri"), (.str "Sat"), (.str "Sun")])))) sNo sNil)
 (sSeq (sAsg [] 2 (eBin dAdd (eVar 0) (eBin dMod (eBin dSub (eBin dSub (eTIx [(.str "Mon"), (.str "Tue"), (.str "Wed"), (.str "Thu"), (.str "Fri"), (.str "Sat"), (.str "Sun")] (eVar 1)) (eOwn 0)) (eC (.int 3))) (eC (.int 7)))))
 (sSeq (sDropN (eCall false m_check_days (vCons (eVar 2) vNil)))
 (sRet (eVar 2))))))
def m_next_weekday : List Sl → RF := runF 2 3 [] b_next_weekday
/-- _law_names:  -/
def b__law_names : BV.Env → RS := (sRetN (nLst (aCons (eC (.str "Mon")) (aCons (eC (.str "Tue")) (aCons (eC (.str "Wed")) (aCons (eC (.str "Thu")) (aCons (eC (.str "Fri")) (aCons (eC (.str "Sat")) (aCons (eC (.str "Sun")) aNil)))))))))
def m__law_names : List Sl → RF := runF 0 0 [] b__law_names
/-- _law_moved: 0 date, 1 months, 2 place, 3 year, 4 month -/
def b__law_moved : BV.Env → RS := (sSeq (sAsg [] 2 (eBin dAdd (eBin dSub (eBin dAdd (eBin dMul (eC (.int 12)) (eBin dIx (eVar 0) (eC (.int 0)))) (eBin dIx (eVar 0) (eC (.int 1)))) (eC (.int 1))) (eOwn 1)))
 (sSeq (sPar2 [] 3 4 (aCons (eBin dDiv (eVar 2) (eC (.int 12))) (aCons (eBin dAdd (eBin dMod (eCB (d1 dIntOf) (aOne (eOwn 2))) (eC (.int 12))) (eC (.int 1))) aNil)))
 (sRet (eIf (tChainD dLeB dLeB (eC (.int 1)) (eVar 3) (eC (.int 9999))) (eTup (aCons (eVar 3) (aCons (eVar 4) (aCons (eCB (d1 dMinL) (aOne (fun env => frz ((nLst (aCons (eBin dIx (eVar 0) (eC (.int 2))) (aCons (fun env => frz ((eCall false m__law_length (vCons (eVar 3) (vCons (eVar 4) vNil))) env)) aNil))) env)))) aNil)))) (eC .none)))))
def m__law_moved : List Sl → RF := runF 2 5 [] b__law_moved
/-- add_months: 0 days, 1 months, 2 year, 3 month, 4 day, 5 place -/
def b_add_months : BV.Env → RS := (sSeq (sDropN (eCall false m_check_days (vCons (eVar 0) vNil)))
 (sSeq (sIf (tOrD (tNotD (tTru (fun env => frz ((eCall false m_is_integer (vCons (eVar 1) vNil)) env)))) (tCmpD dGtB (eCB (d1 dAbs) (aOne (eOwn 1))) (eBin dMul (eC (.int 12)) (eC (.int 9999))))) sNo sNil)
 (sSeq (sTup (tgDo [] (.t [(.n 2), (.n 3), (.n 4)])) (fun env => frz ((eCall false m_date_in (vCons (eVar 0) vNil)) env)))
 (sSeq (sAsg [] 5 (eBin dAdd (eBin dSub (eBin dAdd (eBin dMul (eC (.int 12)) (eOwn 2)) (eOwn 3)) (eC (.int 1))) (eOwn 1)))
 (sSeq (sIf (tNotD (tChainD dLeB dLtB (eC (.int 12)) (eVar 5) (eBin dMul (eC (.int 12)) (eBin dAdd (eC (.int 9999)) (eC (.int 1)))))) sNo sNil)
 (sSeq (sPar2 [] 2 3 (aCons (eBin dDiv (eVar 5) (eC (.int 12))) (aCons (eBin dAdd (eBin dMod (eVar 5) (eC (.int 12))) (eC (.int 1))) aNil)))
 (sRetN (eCall false m_count (vCons (eVar 2) (vCons (eVar 3) (vCons (eCB (d2 dMin2) (aCons (eVar 4) (aCons (fun env => frz ((eCall false m_length_of (vCons (eVar 2) (vCons (eVar 3) vNil))) env)) aNil))) vNil)))))))))))
def m_add_months : List Sl → RF := runF 2 6 [] b_add_months
/-- months_between: 0 first, 1 second, 2 year, 3 month, 4 day, 5 further, 6 other, 7 last, 8 found -/
def b_months_between : BV.Env → RS := (sSeq (sDropN (eCall false m_check_days (vCons (eVar 0) vNil)))
 (sSeq (sDropN (eCall false m_check_days (vCons (eVar 1) vNil)))
 (sSeq (sTup (tgDo [] (.t [(.n 2), (.n 3), (.n 4)])) (fun env => frz ((eCall false m_date_in (vCons (eVar 0) vNil)) env)))
 (sSeq (sTup (tgDo [] (.t [(.n 5), (.n 6), (.n 7)])) (fun env => frz ((eCall false m_date_in (vCons (eVar 1) vNil)) env)))
 (sSeq (sAsg [] 8 (eBin dSub (eBin dAdd (eBin dMul (eC (.int 12)) (eBin dSub (eVar 5) (eOwn 2))) (eOwn 6)) (eOwn 3)))
 (sRet (eBin dSub (eVar 8) (eIf (tCmpD dGtB (eCB (d2 dMin2) (aCons (eVar 4) (aCons (fun env => frz ((eCall false m_length_of (vCons (eVar 5) (vCons (eVar 6) vNil))) env)) aNil))) (eOwn 7)) (eC (.int 1)) (eC (.int 0))))))))))
def m_months_between : List Sl → RF := runF 2 9 [] b_months_between
/-- _law_between: 0 first, 1 second, 2 found -/
def b__law_between : BV.Env → RS := (sSeq (sAsg [] 2 (eBin dSub (eBin dAdd (eBin dMul (eC (.int 12)) (eBin dSub (eBin dIx (eVar 1) (eC (.int 0))) (eBin dIx (eVar 0) (eC (.int 0))))) (eBin dIx (eVar 1) (eC (.int 1)))) (eBin dIx (eVar 0) (eC (.int 1)))))
 (sRet (eIf (tCmpD dLeT (fun env => frz ((eCall false m__law_moved (vCons (eVar 0) (vCons (eVar 2) vNil))) env)) (eOwn 1)) (eVar 2) (eBin dSub (eVar 2) (eC (.int 1))))))
def m__law_between : List Sl → RF := runF 2 3 [] b__law_between
/-- _law_days_hold: 0 state, 1 date, 2 number, 3 some, 4 wanted, 5 later, 6 months, 7 due, 8 other, 9 told -/
def b__law_days_hold : BV.Env → RS := (sSeq (sAsg [0] 1 (fun env => frz ((eCall false m__law_drawn (vSlot 0 vNil)) env)))
 (sSeq (sAsg [0] 2 (fun env => frz ((eCall false m__law_number (vCons (eBin dIx (eVar 1) (eC (.int 0))) (vCons (eBin dIx (eVar 1) (eC (.int 1))) (vCons (eBin dIx (eVar 1) (eC (.int 2))) vNil)))) env)))
 (sSeq (sIf (tNotD (tTru (fun env => frz ((eCall false m__law_same (vCons (fun env => frz ((nLst (aCons (fun env => frz ((eCall false m_days_of (vCons (eBin dIx (eVar 1) (eC (.int 0))) (vCons (eBin dIx (eVar 1) (eC (.int 1))) (vCons (eBin dIx (eVar 1) (eC (.int 2))) vNil)))) env)) (aCons (fun env => frz ((eCall false m_date_of (vCons (eVar 2) vNil)) env)) (aCons (fun env => frz ((eCall false m_weekday (vCons (eVar 2) vNil)) env)) aNil)))) env)) (vCons (fun env => frz ((nLst (aCons (eVar 2) (aCons (eVar 1) (aCons (eBin dMod (eCB (d1 dIntOf) (aOne (eBin dAdd (eVar 2) (eC (.int 3))))) (eC (.int 7))) aNil)))) env)) vNil))) env)))) (sRet (eC (.bool false))) sNil)
 (sSeq (sIf (tAndD (tCmpD dNeB (eVar 1) (eTup (aCons (eC (.int 9999)) (aCons (eC (.int 12)) (aCons (eC (.int 31)) aNil))))) (tNotD (tTru (fun env => frz ((eCall false m__law_same (vCons (fun env => frz ((eCall false m_date_of (vCons (eBin dAdd (eVar 2) (eC (.int 1))) vNil)) env)) (vCons (fun env => frz ((eCall false m__law_next_day (vCons (eVar 1) vNil)) env)) vNil))) env))))) (sRet (eC (.bool false))) sNil)
 (sSeq (sAsgN [0] 3 (nLst (aCons (eBin dAdd (eBin dIx (eVar 1) (eC (.int 0))) (fun env => frz ((eCall false m__law_pick (vSlot 0 (vCons (fun env => frz ((nLst (aCons (eC (.int 0)) (aCons (eC (.int 0)) (aCons (eNeg (eC (.int 1))) (aCons (eC (.int 9999)) aNil))))) env)) vNil))) env))) (aCons (eBin dAdd (eBin dIx (eVar 1) (eC (.int 1))) (fun env => frz ((eCall false m__law_pick (vSlot 0 (vCons (fun env => frz ((nLst (aCons (eC (.int 0)) (aCons (eC (.int 0)) (aCons (eC (.int 12)) (aCons (eNeg (eC (.int 1))) aNil))))) env)) vNil))) env))) (aCons (eBin dAdd (eBin dIx (eVar 1) (eC (.int 2))) (fun env => frz ((eCall false m__law_pick (vSlot 0 (vCons (fun env => frz ((nLst (aCons (eC (.int 0)) (aCons (eC (.int 1)) (aCons (eNeg (eC (.int 1))) (aCons (eC (.int 3)) aNil))))) env)) vNil))) env))) aNil)))))
 (sSeq (sSetIx 3 (fun env => frz ((eCall false m__law_draw (vSlot 0 (vCons (eC (.int 3)) vNil))) env)) (fun env => frz ((eCall false m__law_pick (vSlot 0 (vCons (eBinO dAdd 3 (fun env => frz ((nLst (aCons (eC .none) (aCons (eC (.bool true)) (aCons (eC (.int 0)) (aCons (eC (.str "1")) (aCons (eC (.int 29)) (aCons (eBin dPow (eC (.int 10)) (eC (.int 30))) aNil))))))) env))) vNil))) env)))
 (sSeq (sIf (tNotD (tTru (fun env => frz ((eCall false m__law_same (vCons (fun env => frz ((eCall false m_is_date (vCons (eBinO dIx 3 (eC (.int 0))) (vCons (eBinO dIx 3 (eC (.int 1))) (vCons (eBinO dIx 3 (eC (.int 2))) vNil)))) env)) (vCons (fun env => frz ((eCall false m__law_is_date (vCons (eBinO dIx 3 (eC (.int 0))) (vCons (eBinO dIx 3 (eC (.int 1))) (vCons (eBinO dIx 3 (eC (.int 2))) vNil)))) env)) vNil))) env)))) (sRet (eC (.bool false))) sNil)
 (sSeq (sAsg [0] 4 (fun env => frz ((eCall false m__law_draw (vSlot 0 (vCons (eC (.int 7)) vNil))) env)))
 (sSeq (sAsg [0] 5 (eBin dAdd (eVar 2) (eBin dMod (eCB (d1 dIntOf) (aOne (eBin dSub (eBin dSub (eVar 4) (eOwn 2)) (eC (.int 3))))) (eC (.int 7)))))
 (sSeq (sIf (tAndD (tCmpD dLeB (eVar 5) (eC (.int 2932896))) (tNotD (tTru (fun env => frz ((eCall false m__law_same (vCons (fun env => frz ((eCall false m_next_weekday (vCons (eVar 2) (vCons (eBin dIx (fun env => frz ((eCall false m__law_names vNil) env)) (eOwn 4)) vNil))) env)) (vCons (eVar 5) vNil))) env))))) (sRet (eC (.bool false))) sNil)
 (sSeq (sAsg [0] 6 (fun env => frz ((eCall false m__law_pick (vSlot 0 (vCons (fun env => frz ((nLst (aCons (eC (.int 0)) (aCons (eC (.int 1)) (aCons (eNeg (eC (.int 1))) (aCons (eC (.int 12)) (aCons (eNeg (eC (.int 12))) (aCons (eC (.int 48)) (aCons (eBin dSub (fun env => frz ((eCall false m__law_draw (vSlot 0 (vCons (eC (.int 2000)) vNil))) env)) (eC (.int 1000))) (aCons (eC (.int 100000)) aNil))))))))) env)) vNil))) env)))
 (sSeq (sAsg [0] 7 (fun env => frz ((eCall false m__law_moved (vCons (eVar 1) (vCons (eVar 6) vNil))) env)))
 (sSeq (sIf (tAndD (tCmpD dIsNB (eVar 7) (eC .none)) (tNotD (tTru (fun env => frz ((eCall false m__law_same (vCons (fun env => frz ((eCall false m_add_months (vCons (eVar 2) (vCons (eVar 6) vNil))) env)) (vCons (fun env => frz ((eCall false m__law_number (vCons (eBin dIx (eVar 7) (eC (.int 0))) (vCons (eBin dIx (eVar 7) (eC (.int 1))) (vCons (eBin dIx (eVar 7) (eC (.int 2))) vNil)))) env)) vNil))) env))))) (sRet (eC (.bool false))) sNil)
 (sSeq (sAsg [0] 8 (fun env => frz ((eCall false m__law_pick (vSlot 0 (vCons (fun env => frz ((nLst (aCons (fun env => frz ((eCall false m__law_drawn (vSlot 0 vNil)) env)) (aCons (eTup (aCons (eBin dIx (eVar 1) (eC (.int 0))) (aCons (eBin dIx (eVar 1) (eC (.int 1))) (aCons (eC (.int 1)) aNil)))) (aCons (eTup (aCons (eBin dIx (eVar 1) (eC (.int 0))) (aCons (fun env => frz ((eCall false m__law_pick (vSlot 0 (vCons (fun env => frz ((nLst (aCons (eC (.int 2)) (aCons (eC (.int 3)) (aCons (eC (.int 12)) aNil)))) env)) vNil))) env)) (aCons (eC (.int 28)) aNil)))) aNil)))) env)) vNil))) env)))
 (sSeq (sAsg [0] 9 (fun env => frz ((nLst (aCons (fun env => frz ((eCall false m_months_between (vCons (eVar 2) (vCons (fun env => frz ((eCall false m__law_number (vCons (eBin dIx (eVar 8) (eC (.int 0))) (vCons (eBin dIx (eVar 8) (eC (.int 1))) (vCons (eBin dIx (eVar 8) (eC (.int 2))) vNil)))) env)) vNil))) env)) (aCons (fun env => frz ((eCall false m_months_between (vCons (fun env => frz ((eCall false m__law_number (vCons (eBin dIx (eVar 8) (eC (.int 0))) (vCons (eBin dIx (eVar 8) (eC (.int 1))) (vCons (eBin dIx (eVar 8) (eC (.int 2))) vNil)))) env)) (vCons (eVar 2) vNil))) env)) aNil))) env)))
 (sRetN (eCall false m__law_same (vCons (eVar 9) (vCons (fun env => frz ((nLst (aCons (fun env => frz ((eCall false m__law_between (vCons (eVar 1) (vCons (eVar 8) vNil))) env)) (aCons (fun env => frz ((eCall false m__law_between (vCons (eVar 8) (vCons (eVar 1) vNil))) env)) aNil))) env)) vNil)))))))))))))))))))
def m__law_days_hold : List Sl → RF := runF 1 10 [0] b__law_days_hold
/-- _law_two: 0 number -/
def b__law_two : BV.Env → RS := (sRet (eBin dAdd (eBin dIx (eC (.str "0123456789")) (eBin dDiv (eVar 0) (eC (.int 10)))) (eBin dIx (eC (.str "0123456789")) (eBin dMod (eCB (d1 dIntOf) (aOne (eOwn 0))) (eC (.int 10))))))
def m__law_two : List Sl → RF := runF 1 1 [] b__law_two
/-- _law_months:  -/
def b__law_months : BV.Env → RS := (sRetN (nLst (aCons (eC (.str "Jan")) (aCons (eC (.str "Feb")) (aCons (eC (.str "Mar")) (aCons (eC (.str "Apr")) (aCons (eC (.str "May")) (aCons (eC (.str "Jun")) (aCons (eC (.str "Jul")) (aCons (eC (.str "Aug")) (aCons (eC (.str "Sep")) (aCons (eC (.str "Oct")) (aCons (eC (.str "Nov")) (aCons (eC (.str "Dec")) aNil))))))))))))))
def m__law_months : List Sl → RF := runF 0 0 [] b__law_months
/-- _law_text: 0 state_of, 1 day, 2 date, 3 month, 4 year, 5 hour, 6 minute, 7 second, 8 sign, 9 zone, 10 clock, 11 front -/
def b__law_text : BV.Env → RS := (sSeq (sTup (tgDo [] (.t [(.n 1), (.n 2), (.n 3), (.n 4), (.n 5), (.n 6), (.n 7), (.n 8), (.n 9)])) (eVar 0))
 (sSeq (sAsg [] 10 (eBin dAdd (eBin dAdd (eBin dAdd (eBin dAdd (fun env => frz ((eCall false m__law_two (vCons (eVar 5) vNil)) env)) (eC (.str ":"))) (fun env => frz ((eCall false m__law_two (vCons (eVar 6) vNil)) env))) (eC (.str ":"))) (fun env => frz ((eCall false m__law_two (vCons (eVar 7) vNil)) env))))
 (sSeq (sAsg [] 11 (eBin dAdd (eBin dAdd (eBin dAdd (eBin dAdd (eBin dAdd (eBin dAdd (eBin dAdd (eBin dIx (fun env => frz ((eCall false m__law_names vNil) env)) (eOwn 1)) (eC (.str ", "))) (fun env => frz ((eCall false m__law_two (vCons (eVar 2) vNil)) env))) (eC (.str " "))) (eBin dIx (fun env => frz ((eCall false m__law_months vNil) env)) (eBin dSub (eVar 3) (eC (.int 1))))) (eC (.str " "))) (fun env => frz ((eCall false m__law_two (vCons (eBin dDiv (eVar 4) (eC (.int 100))) vNil)) env))) (fun env => frz ((eCall false m__law_two (vCons (eBin dMod (eCB (d1 dIntOf) (aOne (eOwn 4))) (eC (.int 100))) vNil)) env))))
 (sRet (eBin dAdd (eBin dAdd (eBin dAdd (eBin dAdd (eBin dAdd (eBin dAdd (eVar 11) (eC (.str " "))) (eOwn 10)) (eC (.str " "))) (eOwn 8)) (fun env => frz ((eCall false m__law_two (vCons (eBin dDiv (eVar 9) (eC (.int 60))) vNil)) env))) (fun env => frz ((eCall false m__law_two (vCons (eBin dMod (eCB (d1 dIntOf) (aOne (eOwn 9))) (eC (.int 60))) vNil)) env)))))))
def m__law_text : List Sl → RF := runF 1 12 [] b__law_text
/-- check_moment: 0 moment, 1 zone -/
def b_check_moment : BV.Env → RS := (sSeq (sIf (tOrD (tNotD (tTru (fun env => frz ((eCall false m_is_integer (vCons (eVar 1) vNil)) env)))) (tCmpD dGtB (eCB (d1 dAbs) (aOne (eOwn 1))) (eC (.int 1439)))) sNo sNil)
 (sIf (tOrD (tNotD (tTru (fun env => frz ((eCall false m_is_integer (vCons (eVar 0) vNil)) env)))) (tNotD (tChainD dLeB dLtB (eBin dMul (eNeg (eC (.int 719162))) (eC (.int 86400))) (eBin dAdd (eVar 0) (eBin dMul (eC (.int 60)) (eOwn 1))) (eBin dMul (eBin dSub (eC (.int 3652059)) (eC (.int 719162))) (eC (.int 86400)))))) sNo sNil))
def m_check_moment : List Sl → RF := runF 2 2 [] b_check_moment
/-- two: 0 number -/
def b_two : BV.Env → RS := (sRet (eBin dAdd (eBin dIx (eC (.str "0123456789")) (eBin dDiv (eVar 0) (eC (.int 10)))) (eBin dIx (eC (.str "0123456789")) (eBin dMod (eVar 0) (eC (.int 10))))))
def m_two : List Sl → RF := runF 1 1 [] b_two
/-- write_date: 0 moment, 1 zone, 2 days, 3 seconds, 4 year, 5 month, 6 day, 7 date, 8 clock -/
def b_write_date : BV.Env → RS := (sSeq (sDropN (eCall false m_check_moment (vCons (eVar 0) (vCons (eVar 1) vNil))))
 (sSeq (sTup (tgDo [] (.t [(.n 2), (.n 3)])) (eCB (d2 dDivmod) (aCons (eBin dAdd (eVar 0) (eBin dMul (eC (.int 60)) (eOwn 1))) (aCons (eC (.int 86400)) aNil))))
 (sSeq (sTup (tgDo [] (.t [(.n 4), (.n 5), (.n 6)])) (fun env => frz ((eCall false m_date_in (vCons (eVar 2) vNil)) env)))
 (sSeq (sAsg [] 7 (eBin dAdd (eBin dAdd (eBin dAdd (eBin dAdd (eBin dAdd (eBin dIx (eC (.tuple [(.str "Mon"), (.str "Tue"), (.str "Wed"), (.str "Thu"), (.str "Fri"), (.str "Sat"), (.str "Sun")])) (eBin dMod (eBin dAdd (eVar 2) (eC (.int 3))) (eC (.int 7)))) (eC (.str ", "))) (fun env => frz ((eCall false m_two (vCons (eVar 6) vNil)) env))) (eC (.str " "))) (eBin dIx (eC (.tuple [(.str "Jan"), (.str "Feb"), (.str "Mar"), (.str "Apr"), (.str "May"), (.str "Jun"), (.str "Jul"), (.str "Aug"), (.str "Sep"), (.str "Oct"), (.str "Nov"), (.str "Dec")])) (eBin dSub (eVar 5) (eC (.int 1))))) (eC (.str " "))))
 (sSeq (sAug [] 7 dAddI (eBin dAdd (eBin dAdd (fun env => frz ((eCall false m_two (vCons (eBin dDiv (eVar 4) (eC (.int 100))) vNil)) env)) (fun env => frz ((eCall false m_two (vCons (eBin dMod (eVar 4) (eC (.int 100))) vNil)) env))) (eC (.str " "))))
 (sSeq (sAsg [] 8 (eBin dAdd (eBin dAdd (eBin dAdd (eBin dAdd (fun env => frz ((eCall false m_two (vCons (eBin dDiv (eVar 3) (eC (.int 3600))) vNil)) env)) (eC (.str ":"))) (fun env => frz ((eCall false m_two (vCons (eBin dMod (eBin dDiv (eVar 3) (eC (.int 60))) (eC (.int 60))) vNil)) env))) (eC (.str ":"))) (fun env => frz ((eCall false m_two (vCons (eBin dMod (eVar 3) (eC (.int 60))) vNil)) env))))
 (sRet (eBin dAdd (eBin dAdd (eBin dAdd (eBin dAdd (eVar 7) (eOwn 8)) (eIf (tCmpD dLtB (eVar 1) (eC (.int 0))) (eC (.str " -")) (eC (.str " +")))) (fun env => frz ((eCall false m_two (vCons (eBin dDiv (eCB (d1 dAbs) (aOne (eOwn 1))) (eC (.int 60))) vNil)) env))) (fun env => frz ((eCall false m_two (vCons (eBin dMod (eCB (d1 dAbs) (aOne (eOwn 1))) (eC (.int 60))) vNil)) env))))))))))
def m_write_date : List Sl → RF := runF 2 9 [] b_write_date
/-- Reader.__init__: 0 self, 1 text -/
def b_Reader___init__ : BV.Env → RS := (sSeq (sFldP "Reader" 0 "text" (eVar 1))
 (sFldP "Reader" 0 "at" (eC (.int 0))))
def m_Reader___init__ : List Sl → RF := runF 2 2 [0] b_Reader___init__
/-- Reader.one_of: 0 self, 1 words, 2 word -/
def b_Reader_one_of : BV.Env → RS := (sSeq (sAsg [0] 2 (eSl (eFld "Reader" 0 "text") (oSome (eFld "Reader" 0 "at")) (oSome (eBin dAdd (eFld "Reader" 0 "at") (eC (.int 3))))))
 (sSeq (sIf (tCmpD dNinB (eVar 2) (eGl 1 tbT)) sNo sNil)
 (sSeq (sFldA "Reader" 0 "at" dAddI (eC (.int 3)))
 (sRet (eTIxS 1 tbT (eVar 2))))))
def m_Reader_one_of : List Sl → RF := runF 2 3 [0] b_Reader_one_of
/-- Reader.take: 0 self, 1 word -/
def b_Reader_take : BV.Env → RS := (sSeq (sIf (tCmpD dNeB (eSl (eFld "Reader" 0 "text") (oSome (eFld "Reader" 0 "at")) (oSome (eBin dAdd (eFld "Reader" 0 "at") (eCB (d1 dLen) (aOne (eOwn 1)))))) (eOwn 1)) sNo sNil)
 (sFldA "Reader" 0 "at" dAddI (eCB (d1 dLen) (aOne (eOwn 1)))))
def m_Reader_take : List Sl → RF := runF 2 2 [0] b_Reader_take
/-- Reader.number: 0 self, 1 least, 2 most, 3 digits, 4 text, 5 sign -/
def b_Reader_number : BV.Env → RS := (sSeq (sAsg [0] 4 (eSl (eFld "Reader" 0 "text") (oSome (eFld "Reader" 0 "at")) (oSome (eBin dAdd (eFld "Reader" 0 "at") (eOwn 3)))))
 (sSeq (sIf (tOrD (tCmpD dLtB (eCB (d1 dLen) (aOne (eOwn 4))) (eOwn 3)) (tOrD (tNotD (tTru (eCB (d1 dAll) (aOne (fun env => frz ((nComp [5] (tgDo [0] (.n 5)) (iAny (eVar 4)) ttYes (eCmp dInB (eVar 5) (eC (.str "0123456789")))) env)))))) (tNotD (tChainD dLeB dLeB (eVar 1) (eCB (d1 dIntOf) (aOne (eOwn 4))) (eVar 2))))) sNo sNil)
 (sSeq (sFldA "Reader" 0 "at" dAddI (eVar 3))
 (sRet (eCB (d1 dIntOf) (aOne (eOwn 4)))))))
def m_Reader_number : List Sl → RF := runF 4 6 [0] b_Reader_number
/-- read_zone: 0 reader, 1 begin, 2 sign, 3 zone -/
def b_read_zone : BV.Env → RS := (sSeq (sAsg [0] 1 (eFld "Reader" 0 "at"))
 (sSeq (sAsg [0] 2 (eSl (eFld "Reader" 0 "text") (oSome (eVar 1)) (oSome (eBin dAdd (eVar 1) (eC (.int 1))))))
 (sSeq (sIf (tCmpD dNinB (eVar 2) (eTup (aCons (eC (.str "+")) (aCons (eC (.str "-")) aNil)))) sNo sNil)
 (sSeq (sFldA "Reader" 0 "at" dAddI (eC (.int 1)))
 (sSeq (sAsg [0] 3 (eBin dMul (eC (.int 60)) (fun env => frz ((eMeth "Reader" 0 "number" m_Reader_number (vCons (eC (.int 0)) (vCons (eC (.int 23)) (vCons (eC (.int 2)) vNil)))) env))))
 (sSeq (sAug [0] 3 dAddI (fun env => frz ((eMeth "Reader" 0 "number" m_Reader_number (vCons (eC (.int 0)) (vCons (eC (.int 59)) (vCons (eC (.int 2)) vNil)))) env)))
 (sSeq (sIf (tCmpD dLtB (eFld "Reader" 0 "at") (eCB (d1 dLen) (aOne (eFld "Reader" 0 "text")))) sNo sNil)
 (sSeq (sIf (tAndD (tCmpD dEqB (eVar 2) (eC (.str "-"))) (tCmpD dEqB (eVar 3) (eC (.int 0)))) sNo sNil)
 (sRet (eIf (tCmpD dEqB (eVar 2) (eC (.str "-"))) (eNeg (eVar 3)) (eVar 3)))))))))))
def m_read_zone : List Sl → RF := runF 1 4 [0] b_read_zone
/-- read_date: 0 text, 1 reader, 2 name, 3 place, 4 day, 5 month, 6 year, 7 days, 8 seconds, 9 zone -/
def b_read_date : BV.Env → RS := (sSeq (sIf (tOrD (tNotD (tTru (eIsI "str" (eOwn 0)))) (tCmpD dGtB (eCB (d1 dLen) (aOne (eOwn 0))) (eC (.int 200)))) sNo sNil)
 (sSeq (sAsgN [] 1 (nMake "Reader" m_Reader___init__ (aCons (eVar 0) aNil)))
 (sSeq (sAsg [] 2 (fun env => frz ((eMeth "Reader" 1 "one_of" m_Reader_one_of (vFn "NAMES" vNil)) env)))
 (sSeq (sDropN (eMeth "Reader" 1 "take" m_Reader_take (vCons (eC (.str ",")) vNil)))
 (sSeq (sDropN (eMeth "Reader" 1 "take" m_Reader_take (vCons (eC (.str " ")) vNil)))
 (sSeq (sAsg [] 3 (eFld "Reader" 1 "at"))
 (sSeq (sAsg [] 4 (fun env => frz ((eMeth "Reader" 1 "number" m_Reader_number (vCons (eC (.int 1)) (vCons (eC (.int 31)) (vCons (eC (.int 2)) vNil)))) env)))
 (sSeq (sDropN (eMeth "Reader" 1 "take" m_Reader_take (vCons (eC (.str " ")) vNil)))
 (sSeq (sAsg [] 5 (eBin dAdd (fun env => frz ((eMeth "Reader" 1 "one_of" m_Reader_one_of (vFn "MONTHS" vNil)) env)) (eC (.int 1))))
 (sSeq (sDropN (eMeth "Reader" 1 "take" m_Reader_take (vCons (eC (.str " ")) vNil)))
 (sSeq (sAsg [] 6 (fun env => frz ((eMeth "Reader" 1 "number" m_Reader_number (vCons (eC (.int 1)) (vCons (eC (.int 9999)) (vCons (eC (.int 4)) vNil)))) env)))
 (sSeq (sIf (tCmpD dGtB (eVar 4) (fun env => frz ((eCall false m_length_of (vCons (eVar 6) (vCons (eVar 5) vNil))) env))) sNo sNil)
 (sSeq (sAsg [] 7 (fun env => frz ((eCall false m_count (vCons (eVar 6) (vCons (eVar 5) (vCons (eVar 4) vNil)))) env)))
 (sSeq (sIf (tCmpD dNeB (eBin dMod (eBin dAdd (eVar 7) (eC (.int 3))) (eC (.int 7))) (eOwn 2)) sNo sNil)
 (sSeq (sDropN (eMeth "Reader" 1 "take" m_Reader_take (vCons (eC (.str " ")) vNil)))
 (sSeq (sAsg [] 8 (eBin dMul (eC (.int 3600)) (fun env => frz ((eMeth "Reader" 1 "number" m_Reader_number (vCons (eC (.int 0)) (vCons (eC (.int 23)) (vCons (eC (.int 2)) vNil)))) env))))
 (sSeq (sDropN (eMeth "Reader" 1 "take" m_Reader_take (vCons (eC (.str ":")) vNil)))
 (sSeq (sAug [] 8 dAddI (eBin dMul (eC (.int 60)) (fun env => frz ((eMeth "Reader" 1 "number" m_Reader_number (vCons (eC (.int 0)) (vCons (eC (.int 59)) (vCons (eC (.int 2)) vNil)))) env))))
 (sSeq (sDropN (eMeth "Reader" 1 "take" m_Reader_take (vCons (eC (.str ":")) vNil)))
 (sSeq (sAug [] 8 dAddI (fun env => frz ((eMeth "Reader" 1 "number" m_Reader_number (vCons (eC (.int 0)) (vCons (eC (.int 59)) (vCons (eC (.int 2)) vNil)))) env)))
 (sSeq (sDropN (eMeth "Reader" 1 "take" m_Reader_take (vCons (eC (.str " ")) vNil)))
 (sSeq (sAsg [] 9 (fun env => frz ((eCall false m_read_zone (vSlot 1 vNil)) env)))
 (sRet (eTup (aCons (eBin dSub (eBin dAdd (eBin dMul (eVar 7) (eC (.int 86400))) (eOwn 8)) (eBin dMul (eC (.int 60)) (eOwn 9))) (aCons (eVar 9) aNil))))))))))))))))))))))))))
def m_read_date : List Sl → RF := runF 1 10 [] b_read_date
/-- _law_text_holds: 0 state, 1 date, 2 zone, 3 clock, 4 number, 5 moment, 6 text -/
def b__law_text_holds : BV.Env → RS := (sSeq (sPar2 [0] 1 2 (aCons (fun env => frz ((eCall false m__law_drawn (vSlot 0 vNil)) env)) (aCons (fun env => frz ((eCall false m__law_pick (vSlot 0 (vCons (fun env => frz ((nLst (aCons (eC (.int 0)) (aCons (eC (.int 60)) (aCons (eNeg (eC (.int 480))) (aCons (eC (.int 1439)) (aCons (eNeg (eC (.int 1439))) (aCons (eBin dSub (fun env => frz ((eCall false m__law_draw (vSlot 0 (vCons (eC (.int 2879)) vNil))) env)) (eC (.int 1439))) aNil))))))) env)) vNil))) env)) aNil)))
 (sSeq (sAsg [0] 3 (fun env => frz ((eCall false m__law_pick (vSlot 0 (vCons (fun env => frz ((nLst (aCons (eC (.int 0)) (aCons (eC (.int 86399)) (aCons (eC (.int 43200)) (aCons (fun env => frz ((eCall false m__law_draw (vSlot 0 (vCons (eC (.int 86400)) vNil))) env)) aNil))))) env)) vNil))) env)))
 (sSeq (sAsg [0] 4 (fun env => frz ((eCall false m__law_number (vCons (eBin dIx (eVar 1) (eC (.int 0))) (vCons (eBin dIx (eVar 1) (eC (.int 1))) (vCons (eBin dIx (eVar 1) (eC (.int 2))) vNil)))) env)))
 (sSeq (sAsg [0] 5 (eBin dSub (eBin dAdd (eBin dMul (eVar 4) (eC (.int 86400))) (eOwn 3)) (eBin dMul (eC (.int 60)) (eOwn 2))))
 (sSeq (sAsg [0] 6 (fun env => frz ((eCall false m__law_text (vCons (eTup (aCons (eBin dMod (eCB (d1 dIntOf) (aOne (eBin dAdd (eVar 4) (eC (.int 3))))) (eC (.int 7))) (aCons (eBin dIx (eVar 1) (eC (.int 2))) (aCons (eBin dIx (eVar 1) (eC (.int 1))) (aCons (eBin dIx (eVar 1) (eC (.int 0))) (aCons (eBin dDiv (eVar 3) (eC (.int 3600))) (aCons (eBin dMod (eCB (d1 dIntOf) (aOne (eBin dDiv (eVar 3) (eC (.int 60))))) (eC (.int 60))) (aCons (eBin dMod (eCB (d1 dIntOf) (aOne (eOwn 3))) (eC (.int 60))) (aCons (eIf (tCmpD dLtB (eVar 2) (eC (.int 0))) (eC (.str "-")) (eC (.str "+"))) (aCons (eCB (d1 dAbs) (aOne (eOwn 2))) aNil)))))))))) vNil)) env)))
 (sRetN (eCall false m__law_same (vCons (fun env => frz ((nLst (aCons (fun env => frz ((eCall false m_write_date (vCons (eVar 5) (vCons (eVar 2) vNil))) env)) (aCons (fun env => frz ((eCall false m_read_date (vCons (eVar 6) vNil)) env)) aNil))) env)) (vCons (fun env => frz ((nLst (aCons (eVar 6) (aCons (eTup (aCons (eVar 5) (aCons (eVar 2) aNil))) aNil))) env)) vNil)))))))))
def m__law_text_holds : List Sl → RF := runF 1 7 [0] b__law_text_holds
end
/-- law behind its first statement: 0 script, 1 state, 2 turn -/
def b_law : BV.Env → RS := (sSeq (sFor (tgDo [] (.n 2)) (iRg1 (aCons (eC (.int 8)) aNil))
 (sIf (tOrD (tNotD (tTru (fun env => frz ((eCall false m__law_days_hold (vSlot 1 vNil)) env)))) (tNotD (tTru (fun env => frz ((eCall false m__law_text_holds (vSlot 1 vNil)) env))))) (sRet (eC (.bool false))) sNil))
 (sRet (eC (.bool true))))
/-- THE PLAIN LAW -/
abbrev Plain : Prop := ∀ (ns : List Int) (s : Int), ns.length ≤ 63 → 1 ≤ s → s ≤ 2147483629 → ∃ e, b_law (.un :: .l (stD ns 0 0 s) :: List.replicate 1 .un) = .rt (.d (.bool true)) e
end K40

/-! law_k40_dates: mirrors and walk, printed by gen.py -/
namespace K40
open PySem PySem.Spec PyProof.Rows L2 BV
/-! ### what the walk asks of the module -/
structure Tx (K : Fg) (mg : Str → Option Value) : Prop where
  f_int : mg "int" = none
  f_abs : mg "abs" = none
  f_len : mg "len" = none
  f_sum : mg "sum" = none
  f_range : mg "range" = none
  f_repr : mg "repr" = none
  f_isinstance : mg "isinstance" = none
  f_bool : mg "bool" = none
  f_str : mg "str" = none
  f_min : mg "min" = none
  f_divmod : mg "divmod" = none
  f_all : mg "all" = none
  f_list : mg "list" = none
  g_LENGTHS : GV K mg "LENGTHS" (.tuple [(.int 31), (.int 28), (.int 31), (.int 30), (.int 31), (.int 30), (.int 31), (.int 31), (.int 30), (.int 31), (.int 30), (.int 31)])
  g_MAX_YEAR : GV K mg "MAX_YEAR" (.int 9999)
  g_EPOCH : GV K mg "EPOCH" (.int 719162)
  g_LAST : GV K mg "LAST" (.int 3652059)
  g_NAMES : GV K mg "NAMES" (.tuple [(.str "Mon"), (.str "Tue"), (.str "Wed"), (.str "Thu"), (.str "Fri"), (.str "Sat"), (.str "Sun")])
  g_DAY : GV K mg "DAY" (.int 86400)
  g_MAX_ZONE : GV K mg "MAX_ZONE" (.int 1439)
  g_DIGITS : GV K mg "DIGITS" (.str "0123456789")
  g_MONTHS : GV K mg "MONTHS" (.tuple [(.str "Jan"), (.str "Feb"), (.str "Mar"), (.str "Apr"), (.str "May"), (.str "Jun"), (.str "Jul"), (.str "Aug"), (.str "Sep"), (.str "Oct"), (.str "Nov"), (.str "Dec")])
  g_MAX_SIGNS : GV K mg "MAX_SIGNS" (.int 200)
  d__law_start : DefF K mg "_law_start" s__law_start
  d__law_draw : DefF K mg "_law_draw" s__law_draw
  d__law_pick : DefF K mg "_law_pick" s__law_pick
  d__law_leap : DefF K mg "_law_leap" s__law_leap
  d__law_length : DefF K mg "_law_length" s__law_length
  d__law_drawn : DefF K mg "_law_drawn" s__law_drawn
  d__law_number : DefF K mg "_law_number" s__law_number
  d__law_same : DefF K mg "_law_same" s__law_same
  d_is_integer : DefF K mg "is_integer" s_is_integer
  d_is_leap : DefF K mg "is_leap" s_is_leap
  d_length_of : DefF K mg "length_of" s_length_of
  d_is_date : DefF K mg "is_date" s_is_date
  d_years_ahead : DefF K mg "years_ahead" s_years_ahead
  d_count : DefF K mg "count" s_count
  d_days_of : DefF K mg "days_of" s_days_of
  d_check_days : DefF K mg "check_days" s_check_days
  d_date_in : DefF K mg "date_in" s_date_in
  d_date_of : DefF K mg "date_of" s_date_of
  d_weekday : DefF K mg "weekday" s_weekday
  d__law_next_day : DefF K mg "_law_next_day" s__law_next_day
  d__law_is_whole : DefF K mg "_law_is_whole" s__law_is_whole
  d__law_is_date : DefF K mg "_law_is_date" s__law_is_date
  d_next_weekday : DefF K mg "next_weekday" s_next_weekday
  d__law_names : DefF K mg "_law_names" s__law_names
  d__law_moved : DefF K mg "_law_moved" s__law_moved
  d_add_months : DefF K mg "add_months" s_add_months
  d_months_between : DefF K mg "months_between" s_months_between
  d__law_between : DefF K mg "_law_between" s__law_between
  d__law_days_hold : DefF K mg "_law_days_hold" s__law_days_hold
  d__law_two : DefF K mg "_law_two" s__law_two
  d__law_months : DefF K mg "_law_months" s__law_months
  d__law_text : DefF K mg "_law_text" s__law_text
  d_check_moment : DefF K mg "check_moment" s_check_moment
  d_two : DefF K mg "two" s_two
  d_write_date : DefF K mg "write_date" s_write_date
  d_Reader___init__ : MkrF K mg "Reader" s_Reader___init__ "Reader.__init__"
  d_Reader_one_of : MethF K "Reader" "one_of" s_Reader_one_of "Reader.one_of"
  d_Reader_take : MethF K "Reader" "take" s_Reader_take "Reader.take"
  d_Reader_number : MethF K "Reader" "number" s_Reader_number "Reader.number"
  d_read_zone : DefF K mg "read_zone" s_read_zone
  d_read_date : DefF K mg "read_date" s_read_date
  d__law_text_holds : DefF K mg "_law_text_holds" s__law_text_holds
  d_law : DefF K mg "law" s_law
  k_Reader : ClsF K mg "Reader"
  n_Reader_at : NoAt K "Reader" "at"
  n_Reader_text : NoAt K "Reader" "text"
  t_NAMES : TpF K mg "NAMES" [(.str "Mon"), (.str "Tue"), (.str "Wed"), (.str "Thu"), (.str "Fri"), (.str "Sat"), (.str "Sun")]
  t_MONTHS : TpF K mg "MONTHS" [(.str "Jan"), (.str "Feb"), (.str "Mar"), (.str "Apr"), (.str "May"), (.str "Jun"), (.str "Jul"), (.str "Aug"), (.str "Sep"), (.str "Oct"), (.str "Nov"), (.str "Dec")]
def fa : List He.Fa := [.free "int", .free "abs", .free "len", .free "sum", .free "range", .free "repr", .free "isinstance", .free "bool", .free "str", .free "min", .free "divmod", .free "all", .free "list", .int "MAX_YEAR" 9999, .int "EPOCH" 719162, .int "LAST" 3652059, .int "DAY" 86400, .int "MAX_ZONE" 1439, .str "DIGITS" "0123456789", .int "MAX_SIGNS" 200, .glo "_law_start", .glo "_law_draw", .glo "_law_pick", .glo "_law_leap", .glo "_law_length", .glo "_law_drawn", .glo "_law_number", .glo "_law_same", .glo "is_integer", .glo "is_leap", .glo "length_of", .glo "is_date", .glo "years_ahead", .glo "count", .glo "days_of", .glo "check_days", .glo "date_in", .glo "date_of", .glo "weekday", .glo "_law_next_day", .glo "_law_is_whole", .glo "_law_is_date", .glo "next_weekday", .glo "_law_names", .glo "_law_moved", .glo "add_months", .glo "months_between", .glo "_law_between", .glo "_law_days_hold", .glo "_law_two", .glo "_law_months", .glo "_law_text", .glo "check_moment", .glo "two", .glo "write_date", .glo "read_zone", .glo "read_date", .glo "_law_text_holds", .glo "law", .keep "_law_start", .keep "_law_draw", .keep "_law_pick", .keep "_law_leap", .keep "_law_length", .keep "_law_drawn", .keep "_law_number", .keep "_law_same", .keep "is_integer", .keep "is_leap", .keep "length_of", .keep "is_date", .keep "years_ahead", .keep "count", .keep "days_of", .keep "check_days", .keep "date_in", .keep "date_of", .keep "weekday", .keep "_law_next_day", .keep "_law_is_whole", .keep "_law_is_date", .keep "next_weekday", .keep "_law_names", .keep "_law_moved", .keep "add_months", .keep "months_between", .keep "_law_between", .keep "_law_days_hold", .keep "_law_two", .keep "_law_months", .keep "_law_text", .keep "check_moment", .keep "two", .keep "write_date", .keep "read_zone", .keep "read_date", .keep "_law_text_holds", .keep "law", .glo "Reader", .cls "Reader", .mkr "Reader", .meth "Reader" "__init__", .meth "Reader" "one_of", .meth "Reader" "take", .meth "Reader" "number", .noat "Reader" "at", .noat "Reader" "text"]
def fn : List He.FnD := [fnD "_law_start" s__law_start, fnD "_law_draw" s__law_draw, fnD "_law_pick" s__law_pick, fnD "_law_leap" s__law_leap, fnD "_law_length" s__law_length, fnD "_law_drawn" s__law_drawn, fnD "_law_number" s__law_number, fnD "_law_same" s__law_same, fnD "is_integer" s_is_integer, fnD "is_leap" s_is_leap, fnD "length_of" s_length_of, fnD "is_date" s_is_date, fnD "years_ahead" s_years_ahead, fnD "count" s_count, fnD "days_of" s_days_of, fnD "check_days" s_check_days, fnD "date_in" s_date_in, fnD "date_of" s_date_of, fnD "weekday" s_weekday, fnD "_law_next_day" s__law_next_day, fnD "_law_is_whole" s__law_is_whole, fnD "_law_is_date" s__law_is_date, fnD "next_weekday" s_next_weekday, fnD "_law_names" s__law_names, fnD "_law_moved" s__law_moved, fnD "add_months" s_add_months, fnD "months_between" s_months_between, fnD "_law_between" s__law_between, fnD "_law_days_hold" s__law_days_hold, fnD "_law_two" s__law_two, fnD "_law_months" s__law_months, fnD "_law_text" s__law_text, fnD "check_moment" s_check_moment, fnD "two" s_two, fnD "write_date" s_write_date, mtD "Reader" "__init__" "Reader.__init__" s_Reader___init__, mtD "Reader" "one_of" "Reader.one_of" s_Reader_one_of, mtD "Reader" "take" "Reader.take" s_Reader_take, mtD "Reader" "number" "Reader.number" s_Reader_number, fnD "read_zone" s_read_zone, fnD "read_date" s_read_date, fnD "_law_text_holds" s__law_text_holds, fnD "law" s_law]
def mo : Fg → Bool := fun K => (He.tupB K "NAMES" [.str "Mon", .str "Tue", .str "Wed", .str "Thu", .str "Fri", .str "Sat", .str "Sun"] && (match PySem.W.nsIn K mainGlobals "NAMES" with | some (some (.ref _)) => true | _ => false) && tpB K "NAMES") && (He.tupB K "MONTHS" [.str "Jan", .str "Feb", .str "Mar", .str "Apr", .str "May", .str "Jun", .str "Jul", .str "Aug", .str "Sep", .str "Oct", .str "Nov", .str "Dec"] && (match PySem.W.nsIn K mainGlobals "MONTHS" with | some (some (.ref _)) => true | _ => false) && tpB K "MONTHS") && (He.tupB K "LENGTHS" [.int 31, .int 28, .int 31, .int 30, .int 31, .int 30, .int 31, .int 31, .int 30, .int 31, .int 30, .int 31] && (match PySem.W.nsIn K mainGlobals "LENGTHS" with | some (some (.ref _)) => true | _ => false))
theorem tpT_NAMES {K : Fg} {h : Heap} {mg : Str → Option Value} (X : K.In h) (G : h.Ns mainGlobals mg) (c : SaysM fa mo fn K) : TpF K mg "NAMES" [(.str "Mon"), (.str "Tue"), (.str "Wed"), (.str "Thu"), (.str "Fri"), (.str "Sat"), (.str "Sun")] := by
  have hm : mo K = true := c.2
  simp only [mo, Bool.and_eq_true] at hm
  exact tpF_of X G hm.1.1.1.1 hm.1.1.1.2 hm.1.1.2 (fun B => (.cons (.str _) (.cons (.str _) (.cons (.str _) (.cons (.str _) (.cons (.str _) (.cons (.str _) (.cons (.str _) .nil))))))))
theorem gvT_NAMES {K : Fg} {h : Heap} {mg : Str → Option Value} (X : K.In h) (G : h.Ns mainGlobals mg) (c : SaysM fa mo fn K) : GV K mg "NAMES" (.tuple [(.str "Mon"), (.str "Tue"), (.str "Wed"), (.str "Thu"), (.str "Fri"), (.str "Sat"), (.str "Sun")]) := by
  have hm : mo K = true := c.2
  simp only [mo, Bool.and_eq_true] at hm
  exact gvT X G hm.1.1.1.1 hm.1.1.1.2 (fun B => (.cons (.str _) (.cons (.str _) (.cons (.str _) (.cons (.str _) (.cons (.str _) (.cons (.str _) (.cons (.str _) .nil))))))))
theorem tpT_MONTHS {K : Fg} {h : Heap} {mg : Str → Option Value} (X : K.In h) (G : h.Ns mainGlobals mg) (c : SaysM fa mo fn K) : TpF K mg "MONTHS" [(.str "Jan"), (.str "Feb"), (.str "Mar"), (.str "Apr"), (.str "May"), (.str "Jun"), (.str "Jul"), (.str "Aug"), (.str "Sep"), (.str "Oct"), (.str "Nov"), (.str "Dec")] := by
  have hm : mo K = true := c.2
  simp only [mo, Bool.and_eq_true] at hm
  exact tpF_of X G hm.1.2.1.1 hm.1.2.1.2 hm.1.2.2 (fun B => (.cons (.str _) (.cons (.str _) (.cons (.str _) (.cons (.str _) (.cons (.str _) (.cons (.str _) (.cons (.str _) (.cons (.str _) (.cons (.str _) (.cons (.str _) (.cons (.str _) (.cons (.str _) .nil)))))))))))))
theorem gvT_MONTHS {K : Fg} {h : Heap} {mg : Str → Option Value} (X : K.In h) (G : h.Ns mainGlobals mg) (c : SaysM fa mo fn K) : GV K mg "MONTHS" (.tuple [(.str "Jan"), (.str "Feb"), (.str "Mar"), (.str "Apr"), (.str "May"), (.str "Jun"), (.str "Jul"), (.str "Aug"), (.str "Sep"), (.str "Oct"), (.str "Nov"), (.str "Dec")]) := by
  have hm : mo K = true := c.2
  simp only [mo, Bool.and_eq_true] at hm
  exact gvT X G hm.1.2.1.1 hm.1.2.1.2 (fun B => (.cons (.str _) (.cons (.str _) (.cons (.str _) (.cons (.str _) (.cons (.str _) (.cons (.str _) (.cons (.str _) (.cons (.str _) (.cons (.str _) (.cons (.str _) (.cons (.str _) (.cons (.str _) .nil)))))))))))))
theorem gvT_LENGTHS {K : Fg} {h : Heap} {mg : Str → Option Value} (X : K.In h) (G : h.Ns mainGlobals mg) (c : SaysM fa mo fn K) : GV K mg "LENGTHS" (.tuple [(.int 31), (.int 28), (.int 31), (.int 30), (.int 31), (.int 30), (.int 31), (.int 31), (.int 30), (.int 31), (.int 30), (.int 31)]) := by
  have hm : mo K = true := c.2
  simp only [mo, Bool.and_eq_true] at hm
  exact gvT X G hm.2.1 hm.2.2 (fun B => (.cons (.int _) (.cons (.int _) (.cons (.int _) (.cons (.int _) (.cons (.int _) (.cons (.int _) (.cons (.int _) (.cons (.int _) (.cons (.int _) (.cons (.int _) (.cons (.int _) (.cons (.int _) .nil)))))))))))))
theorem tx_of {K : Fg} {h : Heap} {mg : Str → Option Value} (X : K.In h) (G : h.Ns mainGlobals mg) (c : SaysM fa mo fn K) : Tx K mg where
  f_int := freeM X G c 0 rfl
  f_abs := freeM X G c 1 rfl
  f_len := freeM X G c 2 rfl
  f_sum := freeM X G c 3 rfl
  f_range := freeM X G c 4 rfl
  f_repr := freeM X G c 5 rfl
  f_isinstance := freeM X G c 6 rfl
  f_bool := freeM X G c 7 rfl
  f_str := freeM X G c 8 rfl
  f_min := freeM X G c 9 rfl
  f_divmod := freeM X G c 10 rfl
  f_all := freeM X G c 11 rfl
  f_list := freeM X G c 12 rfl
  g_LENGTHS := gvT_LENGTHS X G c
  g_MAX_YEAR := gvI X G c 13 rfl
  g_EPOCH := gvI X G c 14 rfl
  g_LAST := gvI X G c 15 rfl
  g_NAMES := gvT_NAMES X G c
  g_DAY := gvI X G c 16 rfl
  g_MAX_ZONE := gvI X G c 17 rfl
  g_DIGITS := gvS X G c 18 rfl
  g_MONTHS := gvT_MONTHS X G c
  g_MAX_SIGNS := gvI X G c 19 rfl
  d__law_start := defF_of X G c 0 20 59 rfl rfl rfl
  d__law_draw := defF_of X G c 1 21 60 rfl rfl rfl
  d__law_pick := defF_of X G c 2 22 61 rfl rfl rfl
  d__law_leap := defF_of X G c 3 23 62 rfl rfl rfl
  d__law_length := defF_of X G c 4 24 63 rfl rfl rfl
  d__law_drawn := defF_of X G c 5 25 64 rfl rfl rfl
  d__law_number := defF_of X G c 6 26 65 rfl rfl rfl
  d__law_same := defF_of X G c 7 27 66 rfl rfl rfl
  d_is_integer := defF_of X G c 8 28 67 rfl rfl rfl
  d_is_leap := defF_of X G c 9 29 68 rfl rfl rfl
  d_length_of := defF_of X G c 10 30 69 rfl rfl rfl
  d_is_date := defF_of X G c 11 31 70 rfl rfl rfl
  d_years_ahead := defF_of X G c 12 32 71 rfl rfl rfl
  d_count := defF_of X G c 13 33 72 rfl rfl rfl
  d_days_of := defF_of X G c 14 34 73 rfl rfl rfl
  d_check_days := defF_of X G c 15 35 74 rfl rfl rfl
  d_date_in := defF_of X G c 16 36 75 rfl rfl rfl
  d_date_of := defF_of X G c 17 37 76 rfl rfl rfl
  d_weekday := defF_of X G c 18 38 77 rfl rfl rfl
  d__law_next_day := defF_of X G c 19 39 78 rfl rfl rfl
  d__law_is_whole := defF_of X G c 20 40 79 rfl rfl rfl
  d__law_is_date := defF_of X G c 21 41 80 rfl rfl rfl
  d_next_weekday := defF_of X G c 22 42 81 rfl rfl rfl
  d__law_names := defF_of X G c 23 43 82 rfl rfl rfl
  d__law_moved := defF_of X G c 24 44 83 rfl rfl rfl
  d_add_months := defF_of X G c 25 45 84 rfl rfl rfl
  d_months_between := defF_of X G c 26 46 85 rfl rfl rfl
  d__law_between := defF_of X G c 27 47 86 rfl rfl rfl
  d__law_days_hold := defF_of X G c 28 48 87 rfl rfl rfl
  d__law_two := defF_of X G c 29 49 88 rfl rfl rfl
  d__law_months := defF_of X G c 30 50 89 rfl rfl rfl
  d__law_text := defF_of X G c 31 51 90 rfl rfl rfl
  d_check_moment := defF_of X G c 32 52 91 rfl rfl rfl
  d_two := defF_of X G c 33 53 92 rfl rfl rfl
  d_write_date := defF_of X G c 34 54 93 rfl rfl rfl
  d_Reader___init__ := mkrF_of X G c 35 98 100 101 rfl rfl rfl rfl
  d_Reader_one_of := methF_of c 36 98 99 102 rfl rfl rfl rfl
  d_Reader_take := methF_of c 37 98 99 103 rfl rfl rfl rfl
  d_Reader_number := methF_of c 38 98 99 104 rfl rfl rfl rfl
  d_read_zone := defF_of X G c 39 55 94 rfl rfl rfl
  d_read_date := defF_of X G c 40 56 95 rfl rfl rfl
  d__law_text_holds := defF_of X G c 41 57 96 rfl rfl rfl
  d_law := defF_of X G c 42 58 97 rfl rfl rfl
  k_Reader := clsF_of X G c 98 99 rfl rfl
  n_Reader_at := noAt_of c 98 105 rfl rfl
  n_Reader_text := noAt_of c 98 106 rfl rfl
  t_NAMES := tpT_NAMES X G c
  t_MONTHS := tpT_MONTHS X G c
section
variable {P : Program} {w : World} {K : Fg} {mg : Str → Option Value} {base : Heap}
theorem tbT_ok (T : Tx K mg) : ∀ nm ds, tbT nm = some ds → TpF K mg nm ds := fun nm ds h => by
  unfold tbT at h
  split at h
  · rename_i e; cases h; subst e; exact T.t_NAMES
  split at h
  · rename_i e; cases h; subst e; exact T.t_MONTHS
  cases h
-- MANUAL _law_start
abbrev N__law_draw : List Str := ["state", "many", "value"]
theorem sc__law_draw : FnScope N__law_draw ["state", "many"] (defScope s__law_draw) := fnScope_k (by decide +kernel)
theorem c__law_draw (T : Tx K mg) : Cal false P w K (clK K) mg base 1 "_law_draw" ["state", "many"] m__law_draw :=
  calN T.d__law_draw (fun _ _ _ _ _ _ us hl => match us, hl with | [_, _], _ => rfl) sc__law_draw rfl (by decide) fun f cdv A outer s H E hgd hr => by
  have nd := sc__law_draw.nd
  exact (bss_cons (bs_if (bt_w (bw_and (bt_cmp (op_eqAll (hu64 hr)) (dopb_of do_eq) (be_ixO ix_seq do_ix (pv 0) be_int (fun _ _ => rfl)) (bp_d be_int) rfl) (bw_and1 (bt_cmp op_geO (dopb_of do_ord) (be_ixO ix_seq do_ix (pv 0) be_int (fun _ _ => rfl)) (bp_d (be_cb (pe_callB call_len rfl T.f_len bt_len (ba_one (bp_d (be_ixO ix_seq do_ix (pv 0) be_int (fun _ _ => rfl))))) dc_len)) rfl)))) (bss_cons (bs_setIx (ps_asg (be_bin op_mod (dop_of do_mod) (be_cb (pe_callTy call_intOf rfl T.f_int bt_int (ba_one (bp_d (be_bin op_addAll (dop_of do_add) (be_bin op_mulAll (dop_of do_mul) (be_ixO ix_seq do_ix (pv 0) be_int (fun _ _ => rfl)) (bp_d be_int)) (bp_d be_int))))) dc_int) (bp_d be_int)) (pg_sub (pv 0) be_int set_list)))
 (bss_one (bs_ret (be_bin op_mod (dop_of do_mod) (be_cb (pe_callTy call_intOf rfl T.f_int bt_int (ba_one (bp_d (be_bin op_fdiv (dop_of do_div) (be_ixO ix_seq do_ix (pv 0) be_int (fun _ _ => rfl)) (bp_d be_int))))) dc_int) (bp_own 1 (pv 1)))))) bss_nil)
 (bss_cons (bs_if (bt_cmp (op_eqAll (hu64 hr)) (dopb_of do_eq) (be_ixO ix_seq do_ix (pv 0) be_int (fun _ _ => rfl)) (bp_d be_int) rfl) (bss_cons (bs_setIx (ps_asg (be_cb (pe_callB call_abs rfl T.f_abs bt_abs (ba_one (bp_d (be_ix ix_seq (dop_of do_ix) (be_ixO ix_seq do_ix (pv 0) be_int (fun _ _ => rfl)) (bp_d (be_ixO ix_seq do_ix (pv 0) be_int (fun _ _ => rfl))) (fun _ _ => rfl))))) dc_abs) (pg_sub (pv 0) be_int set_list)))
 (bss_one (bs_setIx (ps_asg (be_bin op_addAll (dop_of do_add) (be_ixO ix_seq do_ix (pv 0) be_int (fun _ _ => rfl)) (bp_d be_int)) (pg_sub (pv 0) be_int set_list))))) bss_nil)
 (bss_cons (bs_asg (ps_set (i := 2) nd rfl (by first | exact Or.inl rfl | exact Or.inr rfl) (be_bin op_mod (dop_of do_mod) (be_cb (pe_callTy call_intOf rfl T.f_int bt_int (ba_one (bp_d (be_ixO ix_seq do_ix (pv 0) be_int (fun _ _ => rfl))))) dc_int) (bp_own 1 (pv 1)))))
 (bss_cons (bs_setIx (ps_asg (be_bin op_fdiv (dop_of do_div) (be_ixO ix_seq do_ix (pv 0) be_int (fun _ _ => rfl)) (bp_own 1 (pv 1))) (pg_sub (pv 0) be_int set_list)))
 (bss_one (bs_ret (be_var 2 (pv 2))))))))
abbrev N__law_pick : List Str := ["state", "some"]
theorem sc__law_pick : FnScope N__law_pick ["state", "some"] (defScope s__law_pick) := fnScope_k (by decide +kernel)
theorem c__law_pick (T : Tx K mg) : Cal false P w K (clK K) mg base 2 "_law_pick" ["state", "some"] m__law_pick :=
  calN T.d__law_pick (fun _ _ _ _ _ _ us hl => match us, hl with | [_, _], _ => rfl) sc__law_pick rfl (by decide) fun f cdv A outer s H E hgd hr => by
  have nd := sc__law_pick.nd
  exact (bss_one (bs_ret (be_ix ix_seq (dop_of do_ix) (be_var 1 (pv 1)) (bp_d (bd_n (bn_callC (c__law_draw T) rfl hgd hr (by decide) rfl (bv_slot (pv 0) (bv_cons (be_cb (pe_callB call_len rfl T.f_len bt_len (ba_one (bp_own 1 (pv 1)))) dc_len) bv_nil))))) (fun _ _ => rfl))))
abbrev N__law_leap : List Str := ["year"]
theorem sc__law_leap : FnScope N__law_leap ["year"] (defScope s__law_leap) := fnScope_k (by decide +kernel)
theorem c__law_leap (T : Tx K mg) : Cal false P w K (clK K) mg base 1 "_law_leap" ["year"] m__law_leap :=
  calN T.d__law_leap (fun _ _ _ _ _ _ us hl => match us, hl with | [_], _ => rfl) sc__law_leap rfl (by decide) fun f cdv A outer s H E hgd hr => by
  have nd := sc__law_leap.nd
  exact (bss_one (bs_ret (be_or rfl (be_and rfl (be_cmp (op_eqAll (hu64 hr)) (dopb_of do_eq) (be_bin op_mod (dop_of do_mod) (be_cb (pe_callTy call_intOf rfl T.f_int bt_int (ba_one (bp_own 0 (pv 0)))) dc_int) (bp_d be_int)) (bp_d be_int) rfl) (pe_one (be_cmp (op_neAll (hu64 hr)) (dopb_of do_ne) (be_bin op_mod (dop_of do_mod) (be_cb (pe_callTy call_intOf rfl T.f_int bt_int (ba_one (bp_own 0 (pv 0)))) dc_int) (bp_d be_int)) (bp_d be_int) rfl))) (pe_one (be_cmp (op_eqAll (hu64 hr)) (dopb_of do_eq) (be_bin op_mod (dop_of do_mod) (be_cb (pe_callTy call_intOf rfl T.f_int bt_int (ba_one (bp_own 0 (pv 0)))) dc_int) (bp_d be_int)) (bp_d be_int) rfl)))))
abbrev N__law_length : List Str := ["year", "month"]
theorem sc__law_length : FnScope N__law_length ["year", "month"] (defScope s__law_length) := fnScope_k (by decide +kernel)
theorem c__law_length (T : Tx K mg) : Cal false P w K (clK K) mg base 2 "_law_length" ["year", "month"] m__law_length :=
  calN T.d__law_length (fun _ _ _ _ _ _ us hl => match us, hl with | [_, _], _ => rfl) sc__law_length rfl (by decide) fun f cdv A outer s H E hgd hr => by
  have nd := sc__law_length.nd
  exact (bss_one (bs_ret (be_if (bt_cmp (op_eqAll (hu64 hr)) (dopb_of do_eq) (be_var 1 (pv 1)) (bp_d be_int) rfl) (be_bin op_addAll (dop_of do_add) be_int (bp_d (be_cb (pe_callTy call_intOf rfl T.f_int bt_int (ba_one (bp_d (bd_n (bn_callC (c__law_leap T) rfl hgd hr (by decide) rfl (bv_cons (be_var 0 (pv 0)) bv_nil)))))) dc_int))) (be_if (bt_cmp (op_inAll (hu65 hr)) (dopb_of do_in) (be_var 1 (pv 1)) (bp_d (bd_n (bn_lst (ba_cons be_int (ba_cons be_int (ba_cons be_int (ba_cons be_int ba_nil))))))) rfl) be_int be_int))))
abbrev N__law_drawn : List Str := ["state", "year", "month", "last"]
theorem sc__law_drawn : FnScope N__law_drawn ["state"] (defScope s__law_drawn) := fnScope_k (by decide +kernel)
theorem c__law_drawn (T : Tx K mg) : Cal false P w K (clK K) mg base 3 "_law_drawn" ["state"] m__law_drawn :=
  calN T.d__law_drawn (fun _ _ _ _ _ _ us hl => match us, hl with | [_], _ => rfl) sc__law_drawn rfl (by decide) fun f cdv A outer s H E hgd hr => by
  have nd := sc__law_drawn.nd
  exact (bss_cons (bs_asg (ps_set (i := 1) nd rfl (by first | exact Or.inl rfl | exact Or.inr rfl) (bd_n (bn_callC (c__law_pick T) rfl hgd hr (by decide) rfl (bv_slot (pv 0) (bv_cons (bd_n (bn_lst (ba_cons be_int (ba_cons be_int (ba_cons be_int (ba_cons be_int (ba_cons be_int (ba_cons be_int (ba_cons be_int (ba_cons be_int (ba_cons be_int (ba_cons be_int (ba_cons be_int (ba_cons be_int (ba_cons (be_bin op_addAll (dop_of do_add) be_int (bp_d (bd_n (bn_callC (c__law_draw T) rfl hgd hr (by decide) rfl (bv_slot (pv 0) (bv_cons be_int bv_nil)))))) ba_nil))))))))))))))) bv_nil))))))
 (bss_cons (bs_asg (ps_set (i := 2) nd rfl (by first | exact Or.inl rfl | exact Or.inr rfl) (bd_n (bn_callC (c__law_pick T) rfl hgd hr (by decide) rfl (bv_slot (pv 0) (bv_cons (bd_n (bn_lst (ba_cons be_int (ba_cons be_int (ba_cons be_int (ba_cons be_int (ba_cons (be_bin op_addAll (dop_of do_add) be_int (bp_d (bd_n (bn_callC (c__law_draw T) rfl hgd hr (by decide) rfl (bv_slot (pv 0) (bv_cons be_int bv_nil)))))) ba_nil))))))) bv_nil))))))
 (bss_cons (bs_asg (ps_set (i := 3) nd rfl (by first | exact Or.inl rfl | exact Or.inr rfl) (bd_n (bn_callC (c__law_length T) rfl hgd hr (by decide) rfl (bv_cons (be_var 1 (pv 1)) (bv_cons (be_var 2 (pv 2)) bv_nil))))))
 (bss_one (bs_ret (be_tup (ba_cons (be_var 1 (pv 1)) (ba_cons (be_var 2 (pv 2)) (ba_cons (bd_n (bn_callC (c__law_pick T) rfl hgd hr (by decide) rfl (bv_slot (pv 0) (bv_cons (bd_n (bn_lst (ba_cons be_int (ba_cons (be_var 3 (pv 3)) (ba_cons (be_var 3 (pv 3)) (ba_cons be_int (ba_cons (be_bin op_addAll (dop_of do_add) be_int (bp_d (bd_n (bn_callC (c__law_draw T) rfl hgd hr (by decide) rfl (bv_slot (pv 0) (bv_cons (be_var 3 (pv 3)) bv_nil)))))) ba_nil))))))) bv_nil)))) ba_nil)))))))))
abbrev N__law_number : List Str := ["year", "month", "day", "cycles", "years", "days", "own"]
theorem sc__law_number : FnScope N__law_number ["year", "month", "day"] (defScope s__law_number) := fnScope_k (by decide +kernel)
theorem c__law_number (T : Tx K mg) : Cal false P w K (clK K) mg base 3 "_law_number" ["year", "month", "day"] m__law_number :=
  calN T.d__law_number (fun _ _ _ _ _ _ us hl => match us, hl with | [_, _, _], _ => rfl) sc__law_number rfl (by decide) fun f cdv A outer s H E hgd hr => by
  have nd := sc__law_number.nd
  exact (bss_cons (bs_par2 (ps_par rfl nd rfl rfl (by decide) rfl rfl (ba_cons (be_bin op_fdiv (dop_of do_div) (be_bin op_subI (dop_of do_sub) (be_var 0 (pv 0)) (bp_d be_int)) (bp_d be_int)) (ba_cons (be_bin op_mod (dop_of do_mod) (be_cb (pe_callTy call_intOf rfl T.f_int bt_int (ba_one (bp_d (be_bin op_subI (dop_of do_sub) (be_var 0 (pv 0)) (bp_d be_int))))) dc_int) (bp_d be_int)) ba_nil)) rfl))
 (bss_cons (bs_asg (ps_set (i := 5) nd rfl (by first | exact Or.inl rfl | exact Or.inr rfl) (be_bin op_mulAll (dop_of do_mul) (be_var 3 (pv 3)) (bp_d be_int))))
 (bss_cons (bs_for (tg_name 6) (ps_for PassesOwn.never rfl (bi_range2 (pi_range2 rfl T.f_range (ba_cons (be_bin op_addAll (dop_of do_add) (be_bin op_mulAll (dop_of do_mul) be_int (bp_own 3 (pv 3))) (bp_d be_int)) (ba_cons (be_bin op_addAll (dop_of do_add) (be_bin op_addAll (dop_of do_add) (be_bin op_mulAll (dop_of do_mul) be_int (bp_own 3 (pv 3))) (bp_d be_int)) (bp_own 4 (pv 4))) ba_nil)))) (pg_name (i := 6) nd rfl (by first | exact Or.inl rfl | exact Or.inr rfl)) (bss_one (bs_asg (ps_set (i := 5) nd rfl (by first | exact Or.inl rfl | exact Or.inr rfl) (be_bin op_addAll (dop_of do_add) (be_bin op_addAll (dop_of do_add) (be_var 5 (pv 5)) (bp_d be_int)) (bp_d (be_cb (pe_callTy call_intOf rfl T.f_int bt_int (ba_one (bp_d (bd_n (bn_callC (c__law_leap T) rfl hgd hr (by decide) rfl (bv_cons (be_var 6 (pv 6)) bv_nil)))))) dc_int))))))))
 (bss_one (bs_ret (be_bin op_subI (dop_of do_sub) (be_bin op_subI (dop_of do_sub) (be_bin op_addAll (dop_of do_add) (be_bin op_addAll (dop_of do_add) (be_var 5 (pv 5)) (bp_d (be_cb (pe_callB (cr_sum rfl) rfl T.f_sum bt_sum (ba_one (bp_d (bd_n (bn_comp (tg_name 6) (by decide) (pe_lc (own := [("own", 6)]) rfl nd (bi_range2 (pi_range2 rfl T.f_range (ba_cons be_int (ba_cons (be_var 1 (pv 1)) ba_nil)))) (blkOk_by (own := [("own", 6)]) (N := N__law_number) (sc := defScope s__law_number) (by decide +kernel)) (fun _ _ _ _ _ => (pg_name (i := 6) nd rfl (by first | exact Or.inl rfl | exact Or.inr rfl))) (fun _ _ _ _ _ => bts_nil) (fun _ _ _ _ _ => (bd_n (bn_callC (c__law_length T) rfl hgd hr (by decide) rfl (bv_cons (be_var 0 (pv 0)) (bv_cons (be_var 6 (pv 6)) bv_nil))))))))))) dc_sum))) (bp_own 2 (pv 2))) (bp_d be_int)) (bp_d be_int)))))))
abbrev N__law_same : List Str := ["actual", "due"]
theorem sc__law_same : FnScope N__law_same ["actual", "due"] (defScope s__law_same) := fnScope_k (by decide +kernel)
theorem c__law_same (T : Tx K mg) : Cal false P w K (clK K) mg base 1 "_law_same" ["actual", "due"] m__law_same :=
  calN T.d__law_same (fun _ _ _ _ _ _ us hl => match us, hl with | [_, _], _ => rfl) sc__law_same rfl (by decide) fun f cdv A outer s H E hgd hr => by
  have nd := sc__law_same.nd
  exact (bss_one (bs_ret (be_and rfl (be_cmp (op_eqAll (hu64 hr)) (dopb_of do_eq) (be_var 0 (pv 0)) (bp_own 1 (pv 1)) rfl) (pe_one (be_cmp (op_eqAll (hu64 hr)) (dopb_of do_eq) (be_cb (pe_callB (call_reprD hgd (hu66 hr)) rfl T.f_repr bt_repr (ba_one (bp_own 0 (pv 0)))) dc_repr) (bp_d (be_cb (pe_callB (call_reprD hgd (hu66 hr)) rfl T.f_repr bt_repr (ba_one (bp_own 1 (pv 1)))) dc_repr)) rfl)))))
abbrev N_is_integer : List Str := ["value"]
theorem sc_is_integer : FnScope N_is_integer ["value"] (defScope s_is_integer) := fnScope_k (by decide +kernel)
theorem c_is_integer (T : Tx K mg) : Cal false P w K (clK K) mg base 1 "is_integer" ["value"] m_is_integer :=
  calN T.d_is_integer (fun _ _ _ _ _ _ us hl => match us, hl with | [_], _ => rfl) sc_is_integer rfl (by decide) fun f cdv A outer s H E hgd hr => by
  have nd := sc_is_integer.nd
  exact (bss_one (bs_ret (be_and rfl (be_isi rfl (pe_callB call_isi rfl T.f_isinstance bt_isinstance (pa_cons (bp_own 0 (pv 0)) (pa_cons (pe_bltn rfl T.f_int bt_int rfl) pa_nil)))) (pe_one (be_not rfl (bp_d (be_isi rfl (pe_callB call_isi rfl T.f_isinstance bt_isinstance (pa_cons (bp_own 0 (pv 0)) (pa_cons (pe_bltn rfl T.f_bool bt_bool rfl) pa_nil))))))))))
abbrev N_is_leap : List Str := ["year"]
theorem sc_is_leap : FnScope N_is_leap ["year"] (defScope s_is_leap) := fnScope_k (by decide +kernel)
theorem c_is_leap (T : Tx K mg) : Cal false P w K (clK K) mg base 1 "is_leap" ["year"] m_is_leap :=
  calN T.d_is_leap (fun _ _ _ _ _ _ us hl => match us, hl with | [_], _ => rfl) sc_is_leap rfl (by decide) fun f cdv A outer s H E hgd hr => by
  have nd := sc_is_leap.nd
  exact (bss_one (bs_ret (be_and rfl (be_cmp (op_eqAll (hu64 hr)) (dopb_of do_eq) (be_bin op_mod (dop_of do_mod) (be_var 0 (pv 0)) (bp_d be_int)) (bp_d be_int) rfl) (pe_one (be_or rfl (be_cmp (op_neAll (hu64 hr)) (dopb_of do_ne) (be_bin op_mod (dop_of do_mod) (be_var 0 (pv 0)) (bp_d be_int)) (bp_d be_int) rfl) (pe_one (be_cmp (op_eqAll (hu64 hr)) (dopb_of do_eq) (be_bin op_mod (dop_of do_mod) (be_var 0 (pv 0)) (bp_d be_int)) (bp_d be_int) rfl)))))))
abbrev N_length_of : List Str := ["year", "month"]
theorem sc_length_of : FnScope N_length_of ["year", "month"] (defScope s_length_of) := fnScope_k (by decide +kernel)
theorem c_length_of (T : Tx K mg) : Cal false P w K (clK K) mg base 2 "length_of" ["year", "month"] m_length_of :=
  calN T.d_length_of (fun _ _ _ _ _ _ us hl => match us, hl with | [_, _], _ => rfl) sc_length_of rfl (by decide) fun f cdv A outer s H E hgd hr => by
  have nd := sc_length_of.nd
  exact (bss_one (bs_ret (be_bin op_addAll (dop_of do_add) (be_ix ix_seq (dop_of do_ix) (be_g T.g_LENGTHS rfl) (bp_d (be_bin op_subI (dop_of do_sub) (be_var 1 (pv 1)) (bp_d be_int))) (fun _ _ => rfl)) (bp_d (be_if (bt_w (bw_and (bt_cmp (op_eqAll (hu64 hr)) (dopb_of do_eq) (be_var 1 (pv 1)) (bp_d be_int) rfl) (bw_and1 (bt_tru rfl (bp_d (bd_n (bn_callC (c_is_leap T) rfl hgd hr (by decide) rfl (bv_cons (be_var 0 (pv 0)) bv_nil)))))))) be_int be_int)))))
abbrev N_is_date : List Str := ["year", "month", "day"]
theorem sc_is_date : FnScope N_is_date ["year", "month", "day"] (defScope s_is_date) := fnScope_k (by decide +kernel)
theorem c_is_date (T : Tx K mg) : Cal false P w K (clK K) mg base 3 "is_date" ["year", "month", "day"] m_is_date :=
  calN T.d_is_date (fun _ _ _ _ _ _ us hl => match us, hl with | [_, _, _], _ => rfl) sc_is_date rfl (by decide) fun f cdv A outer s H E hgd hr => by
  have nd := sc_is_date.nd
  exact (bss_cons (bs_if (bt_w (bw_or (bt_not (bt_tru rfl (bp_d (bd_n (bn_callC (c_is_integer T) rfl hgd hr (by decide) rfl (bv_cons (be_var 0 (pv 0)) bv_nil)))))) (bw_or (bt_not (bt_chain (dopb_of do_ord) (dopb_of do_ord) (pt_chain op_leO op_leO be_int (be_var 0 (pv 0)) (be_g T.g_MAX_YEAR rfl)))) (bw_or (bt_not (bt_tru rfl (bp_d (bd_n (bn_callC (c_is_integer T) rfl hgd hr (by decide) rfl (bv_cons (be_var 1 (pv 1)) bv_nil)))))) (bw_or1 (bt_not (bt_chain (dopb_of do_ord) (dopb_of do_ord) (pt_chain op_leO op_leO be_int (be_var 1 (pv 1)) be_int)))))))) (bss_one (bs_ret be_bl)) bss_nil)
 (bss_one (bs_ret (be_and rfl (bd_n (bn_callC (c_is_integer T) rfl hgd hr (by decide) rfl (bv_cons (be_var 2 (pv 2)) bv_nil))) (pe_one (be_chain (dopb_of do_ord) (dopb_of do_ord) (pe_chain op_leO op_leO be_int (be_var 2 (pv 2)) (bd_n (bn_callC (c_length_of T) rfl hgd hr (by decide) rfl (bv_cons (be_var 0 (pv 0)) (bv_cons (be_var 1 (pv 1)) bv_nil)))))))))))
abbrev N_years_ahead : List Str := ["year", "past"]
theorem sc_years_ahead : FnScope N_years_ahead ["year"] (defScope s_years_ahead) := fnScope_k (by decide +kernel)
theorem c_years_ahead (T : Tx K mg) : Cal false P w K (clK K) mg base 1 "years_ahead" ["year"] m_years_ahead :=
  calN T.d_years_ahead (fun _ _ _ _ _ _ us hl => match us, hl with | [_], _ => rfl) sc_years_ahead rfl (by decide) fun f cdv A outer s H E hgd hr => by
  have nd := sc_years_ahead.nd
  exact (bss_cons (bs_asg (ps_set (i := 1) nd rfl (by first | exact Or.inl rfl | exact Or.inr rfl) (be_bin op_subI (dop_of do_sub) (be_var 0 (pv 0)) (bp_d be_int))))
 (bss_one (bs_ret (be_bin op_addAll (dop_of do_add) (be_bin op_subI (dop_of do_sub) (be_bin op_addAll (dop_of do_add) (be_bin op_mulAll (dop_of do_mul) be_int (bp_own 1 (pv 1))) (bp_d (be_bin op_fdiv (dop_of do_div) (be_var 1 (pv 1)) (bp_d be_int)))) (bp_d (be_bin op_fdiv (dop_of do_div) (be_var 1 (pv 1)) (bp_d be_int)))) (bp_d (be_bin op_fdiv (dop_of do_div) (be_var 1 (pv 1)) (bp_d be_int)))))))
abbrev N_count : List Str := ["year", "month", "day", "own"]
theorem sc_count : FnScope N_count ["year", "month", "day"] (defScope s_count) := fnScope_k (by decide +kernel)
theorem c_count (T : Tx K mg) : Cal false P w K (clK K) mg base 3 "count" ["year", "month", "day"] m_count :=
  calN T.d_count (fun _ _ _ _ _ _ us hl => match us, hl with | [_, _, _], _ => rfl) sc_count rfl (by decide) fun f cdv A outer s H E hgd hr => by
  have nd := sc_count.nd
  exact (bss_one (bs_ret (be_bin op_subI (dop_of do_sub) (be_bin op_subI (dop_of do_sub) (be_bin op_addAll (dop_of do_add) (be_bin op_addAll (dop_of do_add) (bd_n (bn_callC (c_years_ahead T) rfl hgd hr (by decide) rfl (bv_cons (be_var 0 (pv 0)) bv_nil))) (bp_d (be_cb (pe_callB (cr_sum rfl) rfl T.f_sum bt_sum (ba_one (bp_d (bd_n (bn_comp (tg_name 3) (by decide) (pe_lc (own := [("own", 3)]) rfl nd (bi_range2 (pi_range2 rfl T.f_range (ba_cons be_int (ba_cons (be_var 1 (pv 1)) ba_nil)))) (blkOk_by (own := [("own", 3)]) (N := N_count) (sc := defScope s_count) (by decide +kernel)) (fun _ _ _ _ _ => (pg_name (i := 3) nd rfl (by first | exact Or.inl rfl | exact Or.inr rfl))) (fun _ _ _ _ _ => bts_nil) (fun _ _ _ _ _ => (bd_n (bn_callC (c_length_of T) rfl hgd hr (by decide) rfl (bv_cons (be_var 0 (pv 0)) (bv_cons (be_var 3 (pv 3)) bv_nil))))))))))) dc_sum))) (bp_own 2 (pv 2))) (bp_d be_int)) (bp_d (be_g T.g_EPOCH rfl)))))
abbrev N_days_of : List Str := ["year", "month", "day"]
theorem sc_days_of : FnScope N_days_of ["year", "month", "day"] (defScope s_days_of) := fnScope_k (by decide +kernel)
theorem c_days_of (T : Tx K mg) : Cal false P w K (clK K) mg base 4 "days_of" ["year", "month", "day"] m_days_of :=
  calN T.d_days_of (fun _ _ _ _ _ _ us hl => match us, hl with | [_, _, _], _ => rfl) sc_days_of rfl (by decide) fun f cdv A outer s H E hgd hr => by
  have nd := sc_days_of.nd
  exact (bss_cons (bs_if (bt_not (bt_tru rfl (bp_d (bd_n (bn_callC (c_is_date T) rfl hgd hr (by decide) rfl (bv_cons (be_var 0 (pv 0)) (bv_cons (be_var 1 (pv 1)) (bv_cons (be_var 2 (pv 2)) bv_nil)))))))) (bss_one bs_no) bss_nil)
 (bss_one (bs_retNew (bn_callC (c_count T) rfl hgd hr (by decide) rfl (bv_cons (be_var 0 (pv 0)) (bv_cons (be_var 1 (pv 1)) (bv_cons (be_var 2 (pv 2)) bv_nil)))))))
abbrev N_check_days : List Str := ["days"]
theorem sc_check_days : FnScope N_check_days ["days"] (defScope s_check_days) := fnScope_k (by decide +kernel)
theorem c_check_days (T : Tx K mg) : Cal false P w K (clK K) mg base 2 "check_days" ["days"] m_check_days :=
  calN T.d_check_days (fun _ _ _ _ _ _ us hl => match us, hl with | [_], _ => rfl) sc_check_days rfl (by decide) fun f cdv A outer s H E hgd hr => by
  have nd := sc_check_days.nd
  exact (bss_one (bs_if (bt_w (bw_or (bt_not (bt_tru rfl (bp_d (bd_n (bn_callC (c_is_integer T) rfl hgd hr (by decide) rfl (bv_cons (be_var 0 (pv 0)) bv_nil)))))) (bw_or1 (bt_not (bt_chain (dopb_of do_ord) (dopb_of do_ord) (pt_chain op_leO op_ltO (be_neg (be_g T.g_EPOCH rfl)) (be_var 0 (pv 0)) (be_bin op_subI (dop_of do_sub) (be_g T.g_LAST rfl) (bp_d (be_g T.g_EPOCH rfl))))))))) (bss_one bs_no) bss_nil))
abbrev N_date_in : List Str := ["days", "number", "low", "high", "middle", "left", "month"]
theorem sc_date_in : FnScope N_date_in ["days"] (defScope s_date_in) := fnScope_k (by decide +kernel)
theorem c_date_in (T : Tx K mg) : Cal false P w K (clK K) mg base 3 "date_in" ["days"] m_date_in :=
  calN T.d_date_in (fun _ _ _ _ _ _ us hl => match us, hl with | [_], _ => rfl) sc_date_in rfl (by decide) fun f cdv A outer s H E hgd hr => by
  have nd := sc_date_in.nd
  exact (bss_cons (bs_asg (ps_set (i := 1) nd rfl (by first | exact Or.inl rfl | exact Or.inr rfl) (be_bin op_addAll (dop_of do_add) (be_var 0 (pv 0)) (bp_d (be_g T.g_EPOCH rfl)))))
 (bss_cons (bs_par2 (ps_par rfl nd rfl rfl (by decide) rfl rfl (ba_cons be_int (ba_cons (be_g T.g_MAX_YEAR rfl) ba_nil)) rfl))
 (bss_cons (bs_while 100000 (ps_while PassesOwn.never (bt_cmp op_ltO (dopb_of do_ord) (be_var 2 (pv 2)) (bp_own 3 (pv 3)) rfl) (bss_cons (bs_asg (ps_set (i := 4) nd rfl (by first | exact Or.inl rfl | exact Or.inr rfl) (be_bin op_fdiv (dop_of do_div) (be_bin op_addAll (dop_of do_add) (be_bin op_addAll (dop_of do_add) (be_var 2 (pv 2)) (bp_own 3 (pv 3))) (bp_d be_int)) (bp_d be_int))))
 (bss_one (bs_if (bt_cmp op_leO (dopb_of do_ord) (bd_n (bn_callC (c_years_ahead T) rfl hgd hr (by decide) rfl (bv_cons (be_var 4 (pv 4)) bv_nil))) (bp_own 1 (pv 1)) rfl) (bss_one (bs_asg (ps_set (i := 2) nd rfl (by first | exact Or.inl rfl | exact Or.inr rfl) (be_var 4 (pv 4))))) (bss_one (bs_asg (ps_set (i := 3) nd rfl (by first | exact Or.inl rfl | exact Or.inr rfl) (be_bin op_subI (dop_of do_sub) (be_var 4 (pv 4)) (bp_d be_int))))))))))
 (bss_cons (bs_asg (ps_set (i := 5) nd rfl (by first | exact Or.inl rfl | exact Or.inr rfl) (be_bin op_subI (dop_of do_sub) (be_var 1 (pv 1)) (bp_d (bd_n (bn_callC (c_years_ahead T) rfl hgd hr (by decide) rfl (bv_cons (be_var 2 (pv 2)) bv_nil)))))))
 (bss_cons (bs_asg (ps_set (i := 6) nd rfl (by first | exact Or.inl rfl | exact Or.inr rfl) be_int))
 (bss_cons (bs_while 100000 (ps_while PassesOwn.never (bt_cmp op_geO (dopb_of do_ord) (be_var 5 (pv 5)) (bp_d (bd_n (bn_callC (c_length_of T) rfl hgd hr (by decide) rfl (bv_cons (be_var 2 (pv 2)) (bv_cons (be_var 6 (pv 6)) bv_nil))))) rfl) (bss_cons (bs_aug (dop_of do_subI) (ps_aug (i := 5) nd rfl (by first | exact Or.inl rfl | exact Or.inr rfl) (bd_n (bn_callC (c_length_of T) rfl hgd hr (by decide) rfl (bv_cons (be_var 2 (pv 2)) (bv_cons (be_var 6 (pv 6)) bv_nil)))) iop_subAll))
 (bss_one (bs_aug (dop_of do_addI) (ps_aug (i := 6) nd rfl (by first | exact Or.inl rfl | exact Or.inr rfl) be_int iop_addAll))))))
 (bss_one (bs_ret (be_tup (ba_cons (be_var 2 (pv 2)) (ba_cons (be_var 6 (pv 6)) (ba_cons (be_bin op_addAll (dop_of do_add) (be_var 5 (pv 5)) (bp_d be_int)) ba_nil))))))))))))
abbrev N_date_of : List Str := ["days"]
theorem sc_date_of : FnScope N_date_of ["days"] (defScope s_date_of) := fnScope_k (by decide +kernel)
theorem c_date_of (T : Tx K mg) : Cal false P w K (clK K) mg base 4 "date_of" ["days"] m_date_of :=
  calN T.d_date_of (fun _ _ _ _ _ _ us hl => match us, hl with | [_], _ => rfl) sc_date_of rfl (by decide) fun f cdv A outer s H E hgd hr => by
  have nd := sc_date_of.nd
  exact (bss_cons (bs_exprN (bn_callC (c_check_days T) rfl hgd hr (by decide) rfl (bv_cons (be_var 0 (pv 0)) bv_nil)))
 (bss_one (bs_retNew (bn_callC (c_date_in T) rfl hgd hr (by decide) rfl (bv_cons (be_var 0 (pv 0)) bv_nil)))))
abbrev N_weekday : List Str := ["days"]
theorem sc_weekday : FnScope N_weekday ["days"] (defScope s_weekday) := fnScope_k (by decide +kernel)
theorem c_weekday (T : Tx K mg) : Cal false P w K (clK K) mg base 3 "weekday" ["days"] m_weekday :=
  calN T.d_weekday (fun _ _ _ _ _ _ us hl => match us, hl with | [_], _ => rfl) sc_weekday rfl (by decide) fun f cdv A outer s H E hgd hr => by
  have nd := sc_weekday.nd
  exact (bss_cons (bs_exprN (bn_callC (c_check_days T) rfl hgd hr (by decide) rfl (bv_cons (be_var 0 (pv 0)) bv_nil)))
 (bss_one (bs_ret (be_bin op_mod (dop_of do_mod) (be_bin op_addAll (dop_of do_add) (be_var 0 (pv 0)) (bp_d be_int)) (bp_d be_int)))))
abbrev N__law_next_day : List Str := ["date", "year", "month", "day"]
theorem sc__law_next_day : FnScope N__law_next_day ["date"] (defScope s__law_next_day) := fnScope_k (by decide +kernel)
theorem c__law_next_day (T : Tx K mg) : Cal false P w K (clK K) mg base 3 "_law_next_day" ["date"] m__law_next_day :=
  calN T.d__law_next_day (fun _ _ _ _ _ _ us hl => match us, hl with | [_], _ => rfl) sc__law_next_day rfl (by decide) fun f cdv A outer s H E hgd hr => by
  have nd := sc__law_next_day.nd
  exact (bss_cons (bs_tup (tg_tup (tgs_cons (tg_name 1) (tgs_cons (tg_name 2) (tgs_cons (tg_name 3) tgs_nil))) rfl) (ps_asg (be_var 0 (pv 0)) (pg_tup rfl (pgs_cons (pg_name (i := 1) nd rfl (by first | exact Or.inl rfl | exact Or.inr rfl)) (pgs_cons (pg_name (i := 2) nd rfl (by first | exact Or.inl rfl | exact Or.inr rfl)) (pgs_cons (pg_name (i := 3) nd rfl (by first | exact Or.inl rfl | exact Or.inr rfl)) pgs_nil))))))
 (bss_cons (bs_if (bt_cmp op_ltO (dopb_of do_ord) (be_var 3 (pv 3)) (bp_d (bd_n (bn_callC (c__law_length T) rfl hgd hr (by decide) rfl (bv_cons (be_var 1 (pv 1)) (bv_cons (be_var 2 (pv 2)) bv_nil))))) rfl) (bss_one (bs_ret (be_tup (ba_cons (be_var 1 (pv 1)) (ba_cons (be_var 2 (pv 2)) (ba_cons (be_bin op_addAll (dop_of do_add) (be_var 3 (pv 3)) (bp_d be_int)) ba_nil)))))) bss_nil)
 (bss_one (bs_ret (be_if (bt_cmp op_ltO (dopb_of do_ord) (be_var 2 (pv 2)) (bp_d be_int) rfl) (be_tup (ba_cons (be_var 1 (pv 1)) (ba_cons (be_bin op_addAll (dop_of do_add) (be_var 2 (pv 2)) (bp_d be_int)) (ba_cons be_int ba_nil)))) (be_tup (ba_cons (be_bin op_addAll (dop_of do_add) (be_var 1 (pv 1)) (bp_d be_int)) (ba_cons be_int (ba_cons be_int ba_nil)))))))))
abbrev N__law_is_whole : List Str := ["value"]
theorem sc__law_is_whole : FnScope N__law_is_whole ["value"] (defScope s__law_is_whole) := fnScope_k (by decide +kernel)
theorem c__law_is_whole (T : Tx K mg) : Cal false P w K (clK K) mg base 1 "_law_is_whole" ["value"] m__law_is_whole :=
  calN T.d__law_is_whole (fun _ _ _ _ _ _ us hl => match us, hl with | [_], _ => rfl) sc__law_is_whole rfl (by decide) fun f cdv A outer s H E hgd hr => by
  have nd := sc__law_is_whole.nd
  exact (bss_one (bs_ret (be_and rfl (be_isi rfl (pe_callB call_isi rfl T.f_isinstance bt_isinstance (pa_cons (bp_own 0 (pv 0)) (pa_cons (pe_bltn rfl T.f_int bt_int rfl) pa_nil)))) (pe_one (be_not rfl (bp_d (be_isi rfl (pe_callB call_isi rfl T.f_isinstance bt_isinstance (pa_cons (bp_own 0 (pv 0)) (pa_cons (pe_bltn rfl T.f_bool bt_bool rfl) pa_nil))))))))))
abbrev N__law_is_date : List Str := ["year", "month", "day"]
theorem sc__law_is_date : FnScope N__law_is_date ["year", "month", "day"] (defScope s__law_is_date) := fnScope_k (by decide +kernel)
theorem c__law_is_date (T : Tx K mg) : Cal false P w K (clK K) mg base 3 "_law_is_date" ["year", "month", "day"] m__law_is_date :=
  calN T.d__law_is_date (fun _ _ _ _ _ _ us hl => match us, hl with | [_, _, _], _ => rfl) sc__law_is_date rfl (by decide) fun f cdv A outer s H E hgd hr => by
  have nd := sc__law_is_date.nd
  exact (bss_cons (bs_if (bt_w (bw_or (bt_not (bt_tru rfl (bp_d (bd_n (bn_callC (c__law_is_whole T) rfl hgd hr (by decide) rfl (bv_cons (be_var 0 (pv 0)) bv_nil)))))) (bw_or (bt_not (bt_chain (dopb_of do_ord) (dopb_of do_ord) (pt_chain op_leO op_leO be_int (be_var 0 (pv 0)) be_int))) (bw_or (bt_not (bt_tru rfl (bp_d (bd_n (bn_callC (c__law_is_whole T) rfl hgd hr (by decide) rfl (bv_cons (be_var 1 (pv 1)) bv_nil)))))) (bw_or1 (bt_not (bt_chain (dopb_of do_ord) (dopb_of do_ord) (pt_chain op_leO op_leO be_int (be_var 1 (pv 1)) be_int)))))))) (bss_one (bs_ret be_bl)) bss_nil)
 (bss_one (bs_ret (be_and rfl (bd_n (bn_callC (c__law_is_whole T) rfl hgd hr (by decide) rfl (bv_cons (be_var 2 (pv 2)) bv_nil))) (pe_one (be_chain (dopb_of do_ord) (dopb_of do_ord) (pe_chain op_leO op_leO be_int (be_var 2 (pv 2)) (bd_n (bn_callC (c__law_length T) rfl hgd hr (by decide) rfl (bv_cons (be_var 0 (pv 0)) (bv_cons (be_var 1 (pv 1)) bv_nil)))))))))))
abbrev N_next_weekday : List Str := ["days", "name", "found"]
theorem sc_next_weekday : FnScope N_next_weekday ["days", "name"] (defScope s_next_weekday) := fnScope_k (by decide +kernel)
theorem c_next_weekday (T : Tx K mg) : Cal false P w K (clK K) mg base 3 "next_weekday" ["days", "name"] m_next_weekday :=
  calN T.d_next_weekday (fun _ _ _ _ _ _ us hl => match us, hl with | [_, _], _ => rfl) sc_next_weekday rfl (by decide) fun f cdv A outer s H E hgd hr => by
  have nd := sc_next_weekday.nd
  exact (bss_cons (bs_exprN (bn_callC (c_check_days T) rfl hgd hr (by decide) rfl (bv_cons (be_var 0 (pv 0)) bv_nil)))
 (bss_cons (bs_if (bt_w (bw_or (bt_not (bt_tru rfl (bp_d (be_isi rfl (pe_callB call_isi rfl T.f_isinstance bt_isinstance (pa_cons (bp_own 1 (pv 1)) (pa_cons (pe_bltn rfl T.f_str bt_str rfl) pa_nil))))))) (bw_or1 (bt_cmp (op_ninAll (hu65 hr)) (dopb_of do_nin) (be_var 1 (pv 1)) (bp_d (be_g T.g_NAMES rfl)) rfl)))) (bss_one bs_no) bss_nil)
 (bss_cons (bs_asg (ps_set (i := 2) nd rfl (by first | exact Or.inl rfl | exact Or.inr rfl) (be_bin op_addAll (dop_of do_add) (be_var 0 (pv 0)) (bp_d (be_bin op_mod (dop_of do_mod) (be_bin op_subI (dop_of do_sub) (be_bin op_subI (dop_of do_sub) (be_tix rfl (tbT_ok T "NAMES" _ rfl) rfl (be_var 1 (pv 1))) (bp_own 0 (pv 0))) (bp_d be_int)) (bp_d be_int))))))
 (bss_cons (bs_exprN (bn_callC (c_check_days T) rfl hgd hr (by decide) rfl (bv_cons (be_var 2 (pv 2)) bv_nil)))
 (bss_one (bs_ret (be_var 2 (pv 2))))))))
abbrev N__law_names : List Str := []
theorem sc__law_names : FnScope N__law_names [] (defScope s__law_names) := fnScope_k (by decide +kernel)
theorem c__law_names (T : Tx K mg) : Cal false P w K (clK K) mg base 1 "_law_names" [] m__law_names :=
  calN T.d__law_names (fun _ _ _ _ _ _ us hl => match us, hl with | [], _ => rfl) sc__law_names rfl (by decide) fun f cdv A outer s H E hgd hr => by
  have nd := sc__law_names.nd
  exact (bss_one (bs_retNew (bn_lst (ba_cons be_str (ba_cons be_str (ba_cons be_str (ba_cons be_str (ba_cons be_str (ba_cons be_str (ba_cons be_str ba_nil))))))))))
abbrev N__law_moved : List Str := ["date", "months", "place", "year", "month"]
theorem sc__law_moved : FnScope N__law_moved ["date", "months"] (defScope s__law_moved) := fnScope_k (by decide +kernel)
theorem c__law_moved (T : Tx K mg) : Cal false P w K (clK K) mg base 3 "_law_moved" ["date", "months"] m__law_moved :=
  calN T.d__law_moved (fun _ _ _ _ _ _ us hl => match us, hl with | [_, _], _ => rfl) sc__law_moved rfl (by decide) fun f cdv A outer s H E hgd hr => by
  have nd := sc__law_moved.nd
  exact (bss_cons (bs_asg (ps_set (i := 2) nd rfl (by first | exact Or.inl rfl | exact Or.inr rfl) (be_bin op_addAll (dop_of do_add) (be_bin op_subI (dop_of do_sub) (be_bin op_addAll (dop_of do_add) (be_bin op_mulAll (dop_of do_mul) be_int (bp_d (be_ix ix_seq (dop_of do_ix) (be_var 0 (pv 0)) (bp_d be_int) (fun _ _ => rfl)))) (bp_d (be_ix ix_seq (dop_of do_ix) (be_var 0 (pv 0)) (bp_d be_int) (fun _ _ => rfl)))) (bp_d be_int)) (bp_own 1 (pv 1)))))
 (bss_cons (bs_par2 (ps_par rfl nd rfl rfl (by decide) rfl rfl (ba_cons (be_bin op_fdiv (dop_of do_div) (be_var 2 (pv 2)) (bp_d be_int)) (ba_cons (be_bin op_addAll (dop_of do_add) (be_bin op_mod (dop_of do_mod) (be_cb (pe_callTy call_intOf rfl T.f_int bt_int (ba_one (bp_own 2 (pv 2)))) dc_int) (bp_d be_int)) (bp_d be_int)) ba_nil)) rfl))
 (bss_one (bs_ret (be_if (bt_chain (dopb_of do_ord) (dopb_of do_ord) (pt_chain op_leO op_leO be_int (be_var 3 (pv 3)) be_int)) (be_tup (ba_cons (be_var 3 (pv 3)) (ba_cons (be_var 4 (pv 4)) (ba_cons (be_cb (pe_callB (cr_min rfl) rfl T.f_min bt_min (ba_one (bp_d (bd_n (bn_lst (ba_cons (be_ix ix_seq (dop_of do_ix) (be_var 0 (pv 0)) (bp_d be_int) (fun _ _ => rfl)) (ba_cons (bd_n (bn_callC (c__law_length T) rfl hgd hr (by decide) rfl (bv_cons (be_var 3 (pv 3)) (bv_cons (be_var 4 (pv 4)) bv_nil)))) ba_nil))))))) dc_minL) ba_nil)))) be_non)))))
abbrev N_add_months : List Str := ["days", "months", "year", "month", "day", "place"]
theorem sc_add_months : FnScope N_add_months ["days", "months"] (defScope s_add_months) := fnScope_k (by decide +kernel)
theorem c_add_months (T : Tx K mg) : Cal false P w K (clK K) mg base 4 "add_months" ["days", "months"] m_add_months :=
  calN T.d_add_months (fun _ _ _ _ _ _ us hl => match us, hl with | [_, _], _ => rfl) sc_add_months rfl (by decide) fun f cdv A outer s H E hgd hr => by
  have nd := sc_add_months.nd
  exact (bss_cons (bs_exprN (bn_callC (c_check_days T) rfl hgd hr (by decide) rfl (bv_cons (be_var 0 (pv 0)) bv_nil)))
 (bss_cons (bs_if (bt_w (bw_or (bt_not (bt_tru rfl (bp_d (bd_n (bn_callC (c_is_integer T) rfl hgd hr (by decide) rfl (bv_cons (be_var 1 (pv 1)) bv_nil)))))) (bw_or1 (bt_cmp op_gtO (dopb_of do_ord) (be_cb (pe_callB call_abs rfl T.f_abs bt_abs (ba_one (bp_own 1 (pv 1)))) dc_abs) (bp_d (be_bin op_mulAll (dop_of do_mul) be_int (bp_d (be_g T.g_MAX_YEAR rfl)))) rfl)))) (bss_one bs_no) bss_nil)
 (bss_cons (bs_tup (tg_tup (tgs_cons (tg_name 2) (tgs_cons (tg_name 3) (tgs_cons (tg_name 4) tgs_nil))) rfl) (ps_asg (bd_n (bn_callC (c_date_in T) rfl hgd hr (by decide) rfl (bv_cons (be_var 0 (pv 0)) bv_nil))) (pg_tup rfl (pgs_cons (pg_name (i := 2) nd rfl (by first | exact Or.inl rfl | exact Or.inr rfl)) (pgs_cons (pg_name (i := 3) nd rfl (by first | exact Or.inl rfl | exact Or.inr rfl)) (pgs_cons (pg_name (i := 4) nd rfl (by first | exact Or.inl rfl | exact Or.inr rfl)) pgs_nil))))))
 (bss_cons (bs_asg (ps_set (i := 5) nd rfl (by first | exact Or.inl rfl | exact Or.inr rfl) (be_bin op_addAll (dop_of do_add) (be_bin op_subI (dop_of do_sub) (be_bin op_addAll (dop_of do_add) (be_bin op_mulAll (dop_of do_mul) be_int (bp_own 2 (pv 2))) (bp_own 3 (pv 3))) (bp_d be_int)) (bp_own 1 (pv 1)))))
 (bss_cons (bs_if (bt_not (bt_chain (dopb_of do_ord) (dopb_of do_ord) (pt_chain op_leO op_ltO be_int (be_var 5 (pv 5)) (be_bin op_mulAll (dop_of do_mul) be_int (bp_d (be_bin op_addAll (dop_of do_add) (be_g T.g_MAX_YEAR rfl) (bp_d be_int))))))) (bss_one bs_no) bss_nil)
 (bss_cons (bs_par2 (ps_par rfl nd rfl rfl (by decide) rfl rfl (ba_cons (be_bin op_fdiv (dop_of do_div) (be_var 5 (pv 5)) (bp_d be_int)) (ba_cons (be_bin op_addAll (dop_of do_add) (be_bin op_mod (dop_of do_mod) (be_var 5 (pv 5)) (bp_d be_int)) (bp_d be_int)) ba_nil)) rfl))
 (bss_one (bs_retNew (bn_callC (c_count T) rfl hgd hr (by decide) rfl (bv_cons (be_var 2 (pv 2)) (bv_cons (be_var 3 (pv 3)) (bv_cons (be_cb (pe_callB (call_min2 rfl) rfl T.f_min bt_min (ba_p (ba_cons (be_var 4 (pv 4)) (ba_cons (bd_n (bn_callC (c_length_of T) rfl hgd hr (by decide) rfl (bv_cons (be_var 2 (pv 2)) (bv_cons (be_var 3 (pv 3)) bv_nil)))) ba_nil)))) dc_min2) bv_nil))))))))))))
abbrev N_months_between : List Str := ["first", "second", "year", "month", "day", "further", "other", "last", "found"]
theorem sc_months_between : FnScope N_months_between ["first", "second"] (defScope s_months_between) := fnScope_k (by decide +kernel)
theorem c_months_between (T : Tx K mg) : Cal false P w K (clK K) mg base 4 "months_between" ["first", "second"] m_months_between :=
  calN T.d_months_between (fun _ _ _ _ _ _ us hl => match us, hl with | [_, _], _ => rfl) sc_months_between rfl (by decide) fun f cdv A outer s H E hgd hr => by
  have nd := sc_months_between.nd
  exact (bss_cons (bs_exprN (bn_callC (c_check_days T) rfl hgd hr (by decide) rfl (bv_cons (be_var 0 (pv 0)) bv_nil)))
 (bss_cons (bs_exprN (bn_callC (c_check_days T) rfl hgd hr (by decide) rfl (bv_cons (be_var 1 (pv 1)) bv_nil)))
 (bss_cons (bs_tup (tg_tup (tgs_cons (tg_name 2) (tgs_cons (tg_name 3) (tgs_cons (tg_name 4) tgs_nil))) rfl) (ps_asg (bd_n (bn_callC (c_date_in T) rfl hgd hr (by decide) rfl (bv_cons (be_var 0 (pv 0)) bv_nil))) (pg_tup rfl (pgs_cons (pg_name (i := 2) nd rfl (by first | exact Or.inl rfl | exact Or.inr rfl)) (pgs_cons (pg_name (i := 3) nd rfl (by first | exact Or.inl rfl | exact Or.inr rfl)) (pgs_cons (pg_name (i := 4) nd rfl (by first | exact Or.inl rfl | exact Or.inr rfl)) pgs_nil))))))
 (bss_cons (bs_tup (tg_tup (tgs_cons (tg_name 5) (tgs_cons (tg_name 6) (tgs_cons (tg_name 7) tgs_nil))) rfl) (ps_asg (bd_n (bn_callC (c_date_in T) rfl hgd hr (by decide) rfl (bv_cons (be_var 1 (pv 1)) bv_nil))) (pg_tup rfl (pgs_cons (pg_name (i := 5) nd rfl (by first | exact Or.inl rfl | exact Or.inr rfl)) (pgs_cons (pg_name (i := 6) nd rfl (by first | exact Or.inl rfl | exact Or.inr rfl)) (pgs_cons (pg_name (i := 7) nd rfl (by first | exact Or.inl rfl | exact Or.inr rfl)) pgs_nil))))))
 (bss_cons (bs_asg (ps_set (i := 8) nd rfl (by first | exact Or.inl rfl | exact Or.inr rfl) (be_bin op_subI (dop_of do_sub) (be_bin op_addAll (dop_of do_add) (be_bin op_mulAll (dop_of do_mul) be_int (bp_d (be_bin op_subI (dop_of do_sub) (be_var 5 (pv 5)) (bp_own 2 (pv 2))))) (bp_own 6 (pv 6))) (bp_own 3 (pv 3)))))
 (bss_one (bs_ret (be_bin op_subI (dop_of do_sub) (be_var 8 (pv 8)) (bp_d (be_if (bt_cmp op_gtO (dopb_of do_ord) (be_cb (pe_callB (call_min2 rfl) rfl T.f_min bt_min (ba_p (ba_cons (be_var 4 (pv 4)) (ba_cons (bd_n (bn_callC (c_length_of T) rfl hgd hr (by decide) rfl (bv_cons (be_var 5 (pv 5)) (bv_cons (be_var 6 (pv 6)) bv_nil)))) ba_nil)))) dc_min2) (bp_own 7 (pv 7)) rfl) be_int be_int))))))))))
abbrev N__law_between : List Str := ["first", "second", "found"]
theorem sc__law_between : FnScope N__law_between ["first", "second"] (defScope s__law_between) := fnScope_k (by decide +kernel)
theorem c__law_between (T : Tx K mg) : Cal false P w K (clK K) mg base 4 "_law_between" ["first", "second"] m__law_between :=
  calN T.d__law_between (fun _ _ _ _ _ _ us hl => match us, hl with | [_, _], _ => rfl) sc__law_between rfl (by decide) fun f cdv A outer s H E hgd hr => by
  have nd := sc__law_between.nd
  exact (bss_cons (bs_asg (ps_set (i := 2) nd rfl (by first | exact Or.inl rfl | exact Or.inr rfl) (be_bin op_subI (dop_of do_sub) (be_bin op_addAll (dop_of do_add) (be_bin op_mulAll (dop_of do_mul) be_int (bp_d (be_bin op_subI (dop_of do_sub) (be_ix ix_seq (dop_of do_ix) (be_var 1 (pv 1)) (bp_d be_int) (fun _ _ => rfl)) (bp_d (be_ix ix_seq (dop_of do_ix) (be_var 0 (pv 0)) (bp_d be_int) (fun _ _ => rfl)))))) (bp_d (be_ix ix_seq (dop_of do_ix) (be_var 1 (pv 1)) (bp_d be_int) (fun _ _ => rfl)))) (bp_d (be_ix ix_seq (dop_of do_ix) (be_var 0 (pv 0)) (bp_d be_int) (fun _ _ => rfl))))))
 (bss_one (bs_ret (be_if (bt_cmp (op_leT hr.units0) (dopb_of do_leT) (bd_n (bn_callC (c__law_moved T) rfl hgd hr (by decide) rfl (bv_cons (be_var 0 (pv 0)) (bv_cons (be_var 2 (pv 2)) bv_nil)))) (bp_own 1 (pv 1)) rfl) (be_var 2 (pv 2)) (be_bin op_subI (dop_of do_sub) (be_var 2 (pv 2)) (bp_d be_int))))))
abbrev N__law_days_hold : List Str := ["state", "date", "number", "some", "wanted", "later", "months", "due", "other", "told"]
theorem sc__law_days_hold : FnScope N__law_days_hold ["state"] (defScope s__law_days_hold) := fnScope_k (by decide +kernel)
theorem c__law_days_hold (T : Tx K mg) : Cal false P w K (clK K) mg base 5 "_law_days_hold" ["state"] m__law_days_hold :=
  calN T.d__law_days_hold (fun _ _ _ _ _ _ us hl => match us, hl with | [_], _ => rfl) sc__law_days_hold rfl (by decide) fun f cdv A outer s H E hgd hr => by
  have nd := sc__law_days_hold.nd
  exact (bss_cons (bs_asg (ps_set (i := 1) nd rfl (by first | exact Or.inl rfl | exact Or.inr rfl) (bd_n (bn_callC (c__law_drawn T) rfl hgd hr (by decide) rfl (bv_slot (pv 0) bv_nil)))))
 (bss_cons (bs_asg (ps_set (i := 2) nd rfl (by first | exact Or.inl rfl | exact Or.inr rfl) (bd_n (bn_callC (c__law_number T) rfl hgd hr (by decide) rfl (bv_cons (be_ix ix_seq (dop_of do_ix) (be_var 1 (pv 1)) (bp_d be_int) (fun _ _ => rfl)) (bv_cons (be_ix ix_seq (dop_of do_ix) (be_var 1 (pv 1)) (bp_d be_int) (fun _ _ => rfl)) (bv_cons (be_ix ix_seq (dop_of do_ix) (be_var 1 (pv 1)) (bp_d be_int) (fun _ _ => rfl)) bv_nil)))))))
 (bss_cons (bs_if (bt_not (bt_tru rfl (bp_d (bd_n (bn_callC (c__law_same T) rfl hgd hr (by decide) rfl (bv_cons (bd_n (bn_lst (ba_cons (bd_n (bn_callC (c_days_of T) rfl hgd hr (by decide) rfl (bv_cons (be_ix ix_seq (dop_of do_ix) (be_var 1 (pv 1)) (bp_d be_int) (fun _ _ => rfl)) (bv_cons (be_ix ix_seq (dop_of do_ix) (be_var 1 (pv 1)) (bp_d be_int) (fun _ _ => rfl)) (bv_cons (be_ix ix_seq (dop_of do_ix) (be_var 1 (pv 1)) (bp_d be_int) (fun _ _ => rfl)) bv_nil))))) (ba_cons (bd_n (bn_callC (c_date_of T) rfl hgd hr (by decide) rfl (bv_cons (be_var 2 (pv 2)) bv_nil))) (ba_cons (bd_n (bn_callC (c_weekday T) rfl hgd hr (by decide) rfl (bv_cons (be_var 2 (pv 2)) bv_nil))) ba_nil))))) (bv_cons (bd_n (bn_lst (ba_cons (be_var 2 (pv 2)) (ba_cons (be_var 1 (pv 1)) (ba_cons (be_bin op_mod (dop_of do_mod) (be_cb (pe_callTy call_intOf rfl T.f_int bt_int (ba_one (bp_d (be_bin op_addAll (dop_of do_add) (be_var 2 (pv 2)) (bp_d be_int))))) dc_int) (bp_d be_int)) ba_nil))))) bv_nil))))))) (bss_one (bs_ret be_bl)) bss_nil)
 (bss_cons (bs_if (bt_w (bw_and (bt_cmp (op_neAll (hu64 hr)) (dopb_of do_ne) (be_var 1 (pv 1)) (bp_d (be_tup (ba_cons be_int (ba_cons be_int (ba_cons be_int ba_nil))))) rfl) (bw_and1 (bt_not (bt_tru rfl (bp_d (bd_n (bn_callC (c__law_same T) rfl hgd hr (by decide) rfl (bv_cons (bd_n (bn_callC (c_date_of T) rfl hgd hr (by decide) rfl (bv_cons (be_bin op_addAll (dop_of do_add) (be_var 2 (pv 2)) (bp_d be_int)) bv_nil))) (bv_cons (bd_n (bn_callC (c__law_next_day T) rfl hgd hr (by decide) rfl (bv_cons (be_var 1 (pv 1)) bv_nil))) bv_nil)))))))))) (bss_one (bs_ret be_bl)) bss_nil)
 (bss_cons (bs_asgN (ps_set (i := 3) nd rfl (by first | exact Or.inl rfl | exact Or.inr rfl) (bn_lst (ba_cons (be_bin op_addAll (dop_of do_add) (be_ix ix_seq (dop_of do_ix) (be_var 1 (pv 1)) (bp_d be_int) (fun _ _ => rfl)) (bp_d (bd_n (bn_callC (c__law_pick T) rfl hgd hr (by decide) rfl (bv_slot (pv 0) (bv_cons (bd_n (bn_lst (ba_cons be_int (ba_cons be_int (ba_cons (be_neg be_int) (ba_cons be_int ba_nil)))))) bv_nil)))))) (ba_cons (be_bin op_addAll (dop_of do_add) (be_ix ix_seq (dop_of do_ix) (be_var 1 (pv 1)) (bp_d be_int) (fun _ _ => rfl)) (bp_d (bd_n (bn_callC (c__law_pick T) rfl hgd hr (by decide) rfl (bv_slot (pv 0) (bv_cons (bd_n (bn_lst (ba_cons be_int (ba_cons be_int (ba_cons be_int (ba_cons (be_neg be_int) ba_nil)))))) bv_nil)))))) (ba_cons (be_bin op_addAll (dop_of do_add) (be_ix ix_seq (dop_of do_ix) (be_var 1 (pv 1)) (bp_d be_int) (fun _ _ => rfl)) (bp_d (bd_n (bn_callC (c__law_pick T) rfl hgd hr (by decide) rfl (bv_slot (pv 0) (bv_cons (bd_n (bn_lst (ba_cons be_int (ba_cons be_int (ba_cons (be_neg be_int) (ba_cons be_int ba_nil)))))) bv_nil)))))) ba_nil))))))
 (bss_cons (bs_setIx (ps_asg (bd_n (bn_callC (c__law_pick T) rfl hgd hr (by decide) rfl (bv_slot (pv 0) (bv_cons (be_binO op_addAll do_add (pv 3) (bd_n (bn_lst (ba_cons be_non (ba_cons be_bl (ba_cons be_int (ba_cons be_str (ba_cons be_int (ba_cons (be_bin op_pow (dop_of do_pow) be_int (bp_d be_int)) ba_nil))))))))) bv_nil)))) (pg_sub (pv 3) (bd_n (bn_callC (c__law_draw T) rfl hgd hr (by decide) rfl (bv_slot (pv 0) (bv_cons be_int bv_nil)))) set_list)))
 (bss_cons (bs_if (bt_not (bt_tru rfl (bp_d (bd_n (bn_callC (c__law_same T) rfl hgd hr (by decide) rfl (bv_cons (bd_n (bn_callC (c_is_date T) rfl hgd hr (by decide) rfl (bv_cons (be_ixO ix_seq do_ix (pv 3) be_int (fun _ _ => rfl)) (bv_cons (be_ixO ix_seq do_ix (pv 3) be_int (fun _ _ => rfl)) (bv_cons (be_ixO ix_seq do_ix (pv 3) be_int (fun _ _ => rfl)) bv_nil))))) (bv_cons (bd_n (bn_callC (c__law_is_date T) rfl hgd hr (by decide) rfl (bv_cons (be_ixO ix_seq do_ix (pv 3) be_int (fun _ _ => rfl)) (bv_cons (be_ixO ix_seq do_ix (pv 3) be_int (fun _ _ => rfl)) (bv_cons (be_ixO ix_seq do_ix (pv 3) be_int (fun _ _ => rfl)) bv_nil))))) bv_nil))))))) (bss_one (bs_ret be_bl)) bss_nil)
 (bss_cons (bs_asg (ps_set (i := 4) nd rfl (by first | exact Or.inl rfl | exact Or.inr rfl) (bd_n (bn_callC (c__law_draw T) rfl hgd hr (by decide) rfl (bv_slot (pv 0) (bv_cons be_int bv_nil))))))
 (bss_cons (bs_asg (ps_set (i := 5) nd rfl (by first | exact Or.inl rfl | exact Or.inr rfl) (be_bin op_addAll (dop_of do_add) (be_var 2 (pv 2)) (bp_d (be_bin op_mod (dop_of do_mod) (be_cb (pe_callTy call_intOf rfl T.f_int bt_int (ba_one (bp_d (be_bin op_subI (dop_of do_sub) (be_bin op_subI (dop_of do_sub) (be_var 4 (pv 4)) (bp_own 2 (pv 2))) (bp_d be_int))))) dc_int) (bp_d be_int))))))
 (bss_cons (bs_if (bt_w (bw_and (bt_cmp op_leO (dopb_of do_ord) (be_var 5 (pv 5)) (bp_d be_int) rfl) (bw_and1 (bt_not (bt_tru rfl (bp_d (bd_n (bn_callC (c__law_same T) rfl hgd hr (by decide) rfl (bv_cons (bd_n (bn_callC (c_next_weekday T) rfl hgd hr (by decide) rfl (bv_cons (be_var 2 (pv 2)) (bv_cons (be_ix ix_seq (dop_of do_ix) (bd_n (bn_callC0 (c__law_names T) rfl hgd hr (by decide) rfl)) (bp_own 4 (pv 4)) (fun _ _ => rfl)) bv_nil)))) (bv_cons (be_var 5 (pv 5)) bv_nil)))))))))) (bss_one (bs_ret be_bl)) bss_nil)
 (bss_cons (bs_asg (ps_set (i := 6) nd rfl (by first | exact Or.inl rfl | exact Or.inr rfl) (bd_n (bn_callC (c__law_pick T) rfl hgd hr (by decide) rfl (bv_slot (pv 0) (bv_cons (bd_n (bn_lst (ba_cons be_int (ba_cons be_int (ba_cons (be_neg be_int) (ba_cons be_int (ba_cons (be_neg be_int) (ba_cons be_int (ba_cons (be_bin op_subI (dop_of do_sub) (bd_n (bn_callC (c__law_draw T) rfl hgd hr (by decide) rfl (bv_slot (pv 0) (bv_cons be_int bv_nil)))) (bp_d be_int)) (ba_cons be_int ba_nil)))))))))) bv_nil))))))
 (bss_cons (bs_asg (ps_set (i := 7) nd rfl (by first | exact Or.inl rfl | exact Or.inr rfl) (bd_n (bn_callC (c__law_moved T) rfl hgd hr (by decide) rfl (bv_cons (be_var 1 (pv 1)) (bv_cons (be_var 6 (pv 6)) bv_nil))))))
 (bss_cons (bs_if (bt_w (bw_and (bt_cmp op_notN (dopb_of do_isN) (be_var 7 (pv 7)) (bp_d be_non) rfl) (bw_and1 (bt_not (bt_tru rfl (bp_d (bd_n (bn_callC (c__law_same T) rfl hgd hr (by decide) rfl (bv_cons (bd_n (bn_callC (c_add_months T) rfl hgd hr (by decide) rfl (bv_cons (be_var 2 (pv 2)) (bv_cons (be_var 6 (pv 6)) bv_nil)))) (bv_cons (bd_n (bn_callC (c__law_number T) rfl hgd hr (by decide) rfl (bv_cons (be_ix ix_seq (dop_of do_ix) (be_var 7 (pv 7)) (bp_d be_int) (fun _ _ => rfl)) (bv_cons (be_ix ix_seq (dop_of do_ix) (be_var 7 (pv 7)) (bp_d be_int) (fun _ _ => rfl)) (bv_cons (be_ix ix_seq (dop_of do_ix) (be_var 7 (pv 7)) (bp_d be_int) (fun _ _ => rfl)) bv_nil))))) bv_nil)))))))))) (bss_one (bs_ret be_bl)) bss_nil)
 (bss_cons (bs_asg (ps_set (i := 8) nd rfl (by first | exact Or.inl rfl | exact Or.inr rfl) (bd_n (bn_callC (c__law_pick T) rfl hgd hr (by decide) rfl (bv_slot (pv 0) (bv_cons (bd_n (bn_lst (ba_cons (bd_n (bn_callC (c__law_drawn T) rfl hgd hr (by decide) rfl (bv_slot (pv 0) bv_nil))) (ba_cons (be_tup (ba_cons (be_ix ix_seq (dop_of do_ix) (be_var 1 (pv 1)) (bp_d be_int) (fun _ _ => rfl)) (ba_cons (be_ix ix_seq (dop_of do_ix) (be_var 1 (pv 1)) (bp_d be_int) (fun _ _ => rfl)) (ba_cons be_int ba_nil)))) (ba_cons (be_tup (ba_cons (be_ix ix_seq (dop_of do_ix) (be_var 1 (pv 1)) (bp_d be_int) (fun _ _ => rfl)) (ba_cons (bd_n (bn_callC (c__law_pick T) rfl hgd hr (by decide) rfl (bv_slot (pv 0) (bv_cons (bd_n (bn_lst (ba_cons be_int (ba_cons be_int (ba_cons be_int ba_nil))))) bv_nil)))) (ba_cons be_int ba_nil)))) ba_nil))))) bv_nil))))))
 (bss_cons (bs_asg (ps_set (i := 9) nd rfl (by first | exact Or.inl rfl | exact Or.inr rfl) (bd_n (bn_lst (ba_cons (bd_n (bn_callC (c_months_between T) rfl hgd hr (by decide) rfl (bv_cons (be_var 2 (pv 2)) (bv_cons (bd_n (bn_callC (c__law_number T) rfl hgd hr (by decide) rfl (bv_cons (be_ix ix_seq (dop_of do_ix) (be_var 8 (pv 8)) (bp_d be_int) (fun _ _ => rfl)) (bv_cons (be_ix ix_seq (dop_of do_ix) (be_var 8 (pv 8)) (bp_d be_int) (fun _ _ => rfl)) (bv_cons (be_ix ix_seq (dop_of do_ix) (be_var 8 (pv 8)) (bp_d be_int) (fun _ _ => rfl)) bv_nil))))) bv_nil)))) (ba_cons (bd_n (bn_callC (c_months_between T) rfl hgd hr (by decide) rfl (bv_cons (bd_n (bn_callC (c__law_number T) rfl hgd hr (by decide) rfl (bv_cons (be_ix ix_seq (dop_of do_ix) (be_var 8 (pv 8)) (bp_d be_int) (fun _ _ => rfl)) (bv_cons (be_ix ix_seq (dop_of do_ix) (be_var 8 (pv 8)) (bp_d be_int) (fun _ _ => rfl)) (bv_cons (be_ix ix_seq (dop_of do_ix) (be_var 8 (pv 8)) (bp_d be_int) (fun _ _ => rfl)) bv_nil))))) (bv_cons (be_var 2 (pv 2)) bv_nil)))) ba_nil))))))
 (bss_one (bs_retNew (bn_callC (c__law_same T) rfl hgd hr (by decide) rfl (bv_cons (be_var 9 (pv 9)) (bv_cons (bd_n (bn_lst (ba_cons (bd_n (bn_callC (c__law_between T) rfl hgd hr (by decide) rfl (bv_cons (be_var 1 (pv 1)) (bv_cons (be_var 8 (pv 8)) bv_nil)))) (ba_cons (bd_n (bn_callC (c__law_between T) rfl hgd hr (by decide) rfl (bv_cons (be_var 8 (pv 8)) (bv_cons (be_var 1 (pv 1)) bv_nil)))) ba_nil)))) bv_nil))))))))))))))))))))
abbrev N__law_two : List Str := ["number"]
theorem sc__law_two : FnScope N__law_two ["number"] (defScope s__law_two) := fnScope_k (by decide +kernel)
theorem c__law_two (T : Tx K mg) : Cal false P w K (clK K) mg base 1 "_law_two" ["number"] m__law_two :=
  calN T.d__law_two (fun _ _ _ _ _ _ us hl => match us, hl with | [_], _ => rfl) sc__law_two rfl (by decide) fun f cdv A outer s H E hgd hr => by
  have nd := sc__law_two.nd
  exact (bss_one (bs_ret (be_bin op_addAll (dop_of do_add) (be_ix ix_seq (dop_of do_ix) be_str (bp_d (be_bin op_fdiv (dop_of do_div) (be_var 0 (pv 0)) (bp_d be_int))) (fun _ _ => rfl)) (bp_d (be_ix ix_seq (dop_of do_ix) be_str (bp_d (be_bin op_mod (dop_of do_mod) (be_cb (pe_callTy call_intOf rfl T.f_int bt_int (ba_one (bp_own 0 (pv 0)))) dc_int) (bp_d be_int))) (fun _ _ => rfl))))))
abbrev N__law_months : List Str := []
theorem sc__law_months : FnScope N__law_months [] (defScope s__law_months) := fnScope_k (by decide +kernel)
theorem c__law_months (T : Tx K mg) : Cal false P w K (clK K) mg base 1 "_law_months" [] m__law_months :=
  calN T.d__law_months (fun _ _ _ _ _ _ us hl => match us, hl with | [], _ => rfl) sc__law_months rfl (by decide) fun f cdv A outer s H E hgd hr => by
  have nd := sc__law_months.nd
  exact (bss_one (bs_retNew (bn_lst (ba_cons be_str (ba_cons be_str (ba_cons be_str (ba_cons be_str (ba_cons be_str (ba_cons be_str (ba_cons be_str (ba_cons be_str (ba_cons be_str (ba_cons be_str (ba_cons be_str (ba_cons be_str ba_nil)))))))))))))))
abbrev N__law_text : List Str := ["state_of", "day", "date", "month", "year", "hour", "minute", "second", "sign", "zone", "clock", "front"]
theorem sc__law_text : FnScope N__law_text ["state_of"] (defScope s__law_text) := fnScope_k (by decide +kernel)
theorem c__law_text (T : Tx K mg) : Cal false P w K (clK K) mg base 2 "_law_text" ["state_of"] m__law_text :=
  calN T.d__law_text (fun _ _ _ _ _ _ us hl => match us, hl with | [_], _ => rfl) sc__law_text rfl (by decide) fun f cdv A outer s H E hgd hr => by
  have nd := sc__law_text.nd
  exact (bss_cons (bs_tup (tg_tup (tgs_cons (tg_name 1) (tgs_cons (tg_name 2) (tgs_cons (tg_name 3) (tgs_cons (tg_name 4) (tgs_cons (tg_name 5) (tgs_cons (tg_name 6) (tgs_cons (tg_name 7) (tgs_cons (tg_name 8) (tgs_cons (tg_name 9) tgs_nil))))))))) rfl) (ps_asg (be_var 0 (pv 0)) (pg_tup rfl (pgs_cons (pg_name (i := 1) nd rfl (by first | exact Or.inl rfl | exact Or.inr rfl)) (pgs_cons (pg_name (i := 2) nd rfl (by first | exact Or.inl rfl | exact Or.inr rfl)) (pgs_cons (pg_name (i := 3) nd rfl (by first | exact Or.inl rfl | exact Or.inr rfl)) (pgs_cons (pg_name (i := 4) nd rfl (by first | exact Or.inl rfl | exact Or.inr rfl)) (pgs_cons (pg_name (i := 5) nd rfl (by first | exact Or.inl rfl | exact Or.inr rfl)) (pgs_cons (pg_name (i := 6) nd rfl (by first | exact Or.inl rfl | exact Or.inr rfl)) (pgs_cons (pg_name (i := 7) nd rfl (by first | exact Or.inl rfl | exact Or.inr rfl)) (pgs_cons (pg_name (i := 8) nd rfl (by first | exact Or.inl rfl | exact Or.inr rfl)) (pgs_cons (pg_name (i := 9) nd rfl (by first | exact Or.inl rfl | exact Or.inr rfl)) pgs_nil))))))))))))
 (bss_cons (bs_asg (ps_set (i := 10) nd rfl (by first | exact Or.inl rfl | exact Or.inr rfl) (be_bin op_addAll (dop_of do_add) (be_bin op_addAll (dop_of do_add) (be_bin op_addAll (dop_of do_add) (be_bin op_addAll (dop_of do_add) (bd_n (bn_callC (c__law_two T) rfl hgd hr (by decide) rfl (bv_cons (be_var 5 (pv 5)) bv_nil))) (bp_d be_str)) (bp_d (bd_n (bn_callC (c__law_two T) rfl hgd hr (by decide) rfl (bv_cons (be_var 6 (pv 6)) bv_nil))))) (bp_d be_str)) (bp_d (bd_n (bn_callC (c__law_two T) rfl hgd hr (by decide) rfl (bv_cons (be_var 7 (pv 7)) bv_nil)))))))
 (bss_cons (bs_asg (ps_set (i := 11) nd rfl (by first | exact Or.inl rfl | exact Or.inr rfl) (be_bin op_addAll (dop_of do_add) (be_bin op_addAll (dop_of do_add) (be_bin op_addAll (dop_of do_add) (be_bin op_addAll (dop_of do_add) (be_bin op_addAll (dop_of do_add) (be_bin op_addAll (dop_of do_add) (be_bin op_addAll (dop_of do_add) (be_ix ix_seq (dop_of do_ix) (bd_n (bn_callC0 (c__law_names T) rfl hgd hr (by decide) rfl)) (bp_own 1 (pv 1)) (fun _ _ => rfl)) (bp_d be_str)) (bp_d (bd_n (bn_callC (c__law_two T) rfl hgd hr (by decide) rfl (bv_cons (be_var 2 (pv 2)) bv_nil))))) (bp_d be_str)) (bp_d (be_ix ix_seq (dop_of do_ix) (bd_n (bn_callC0 (c__law_months T) rfl hgd hr (by decide) rfl)) (bp_d (be_bin op_subI (dop_of do_sub) (be_var 3 (pv 3)) (bp_d be_int))) (fun _ _ => rfl)))) (bp_d be_str)) (bp_d (bd_n (bn_callC (c__law_two T) rfl hgd hr (by decide) rfl (bv_cons (be_bin op_fdiv (dop_of do_div) (be_var 4 (pv 4)) (bp_d be_int)) bv_nil))))) (bp_d (bd_n (bn_callC (c__law_two T) rfl hgd hr (by decide) rfl (bv_cons (be_bin op_mod (dop_of do_mod) (be_cb (pe_callTy call_intOf rfl T.f_int bt_int (ba_one (bp_own 4 (pv 4)))) dc_int) (bp_d be_int)) bv_nil)))))))
 (bss_one (bs_ret (be_bin op_addAll (dop_of do_add) (be_bin op_addAll (dop_of do_add) (be_bin op_addAll (dop_of do_add) (be_bin op_addAll (dop_of do_add) (be_bin op_addAll (dop_of do_add) (be_bin op_addAll (dop_of do_add) (be_var 11 (pv 11)) (bp_d be_str)) (bp_own 10 (pv 10))) (bp_d be_str)) (bp_own 8 (pv 8))) (bp_d (bd_n (bn_callC (c__law_two T) rfl hgd hr (by decide) rfl (bv_cons (be_bin op_fdiv (dop_of do_div) (be_var 9 (pv 9)) (bp_d be_int)) bv_nil))))) (bp_d (bd_n (bn_callC (c__law_two T) rfl hgd hr (by decide) rfl (bv_cons (be_bin op_mod (dop_of do_mod) (be_cb (pe_callTy call_intOf rfl T.f_int bt_int (ba_one (bp_own 9 (pv 9)))) dc_int) (bp_d be_int)) bv_nil))))))))))
abbrev N_check_moment : List Str := ["moment", "zone"]
theorem sc_check_moment : FnScope N_check_moment ["moment", "zone"] (defScope s_check_moment) := fnScope_k (by decide +kernel)
theorem c_check_moment (T : Tx K mg) : Cal false P w K (clK K) mg base 2 "check_moment" ["moment", "zone"] m_check_moment :=
  calN T.d_check_moment (fun _ _ _ _ _ _ us hl => match us, hl with | [_, _], _ => rfl) sc_check_moment rfl (by decide) fun f cdv A outer s H E hgd hr => by
  have nd := sc_check_moment.nd
  exact (bss_cons (bs_if (bt_w (bw_or (bt_not (bt_tru rfl (bp_d (bd_n (bn_callC (c_is_integer T) rfl hgd hr (by decide) rfl (bv_cons (be_var 1 (pv 1)) bv_nil)))))) (bw_or1 (bt_cmp op_gtO (dopb_of do_ord) (be_cb (pe_callB call_abs rfl T.f_abs bt_abs (ba_one (bp_own 1 (pv 1)))) dc_abs) (bp_d (be_g T.g_MAX_ZONE rfl)) rfl)))) (bss_one bs_no) bss_nil)
 (bss_one (bs_if (bt_w (bw_or (bt_not (bt_tru rfl (bp_d (bd_n (bn_callC (c_is_integer T) rfl hgd hr (by decide) rfl (bv_cons (be_var 0 (pv 0)) bv_nil)))))) (bw_or1 (bt_not (bt_chain (dopb_of do_ord) (dopb_of do_ord) (pt_chain op_leO op_ltO (be_bin op_mulAll (dop_of do_mul) (be_neg (be_g T.g_EPOCH rfl)) (bp_d (be_g T.g_DAY rfl))) (be_bin op_addAll (dop_of do_add) (be_var 0 (pv 0)) (bp_d (be_bin op_mulAll (dop_of do_mul) be_int (bp_own 1 (pv 1))))) (be_bin op_mulAll (dop_of do_mul) (be_bin op_subI (dop_of do_sub) (be_g T.g_LAST rfl) (bp_d (be_g T.g_EPOCH rfl))) (bp_d (be_g T.g_DAY rfl))))))))) (bss_one bs_no) bss_nil)))
abbrev N_two : List Str := ["number"]
theorem sc_two : FnScope N_two ["number"] (defScope s_two) := fnScope_k (by decide +kernel)
theorem c_two (T : Tx K mg) : Cal false P w K (clK K) mg base 1 "two" ["number"] m_two :=
  calN T.d_two (fun _ _ _ _ _ _ us hl => match us, hl with | [_], _ => rfl) sc_two rfl (by decide) fun f cdv A outer s H E hgd hr => by
  have nd := sc_two.nd
  exact (bss_one (bs_ret (be_bin op_addAll (dop_of do_add) (be_ix ix_seq (dop_of do_ix) (be_g T.g_DIGITS rfl) (bp_d (be_bin op_fdiv (dop_of do_div) (be_var 0 (pv 0)) (bp_d be_int))) (fun _ _ => rfl)) (bp_d (be_ix ix_seq (dop_of do_ix) (be_g T.g_DIGITS rfl) (bp_d (be_bin op_mod (dop_of do_mod) (be_var 0 (pv 0)) (bp_d be_int))) (fun _ _ => rfl))))))
abbrev N_write_date : List Str := ["moment", "zone", "days", "seconds", "year", "month", "day", "date", "clock"]
theorem sc_write_date : FnScope N_write_date ["moment", "zone"] (defScope s_write_date) := fnScope_k (by decide +kernel)
theorem c_write_date (T : Tx K mg) : Cal false P w K (clK K) mg base 4 "write_date" ["moment", "zone"] m_write_date :=
  calN T.d_write_date (fun _ _ _ _ _ _ us hl => match us, hl with | [_, _], _ => rfl) sc_write_date rfl (by decide) fun f cdv A outer s H E hgd hr => by
  have nd := sc_write_date.nd
  exact (bss_cons (bs_exprN (bn_callC (c_check_moment T) rfl hgd hr (by decide) rfl (bv_cons (be_var 0 (pv 0)) (bv_cons (be_var 1 (pv 1)) bv_nil))))
 (bss_cons (bs_tup (tg_tup (tgs_cons (tg_name 2) (tgs_cons (tg_name 3) tgs_nil)) rfl) (ps_asg (be_cb (pe_callB call_divmod rfl T.f_divmod bt_divmod (ba_p (ba_cons (be_bin op_addAll (dop_of do_add) (be_var 0 (pv 0)) (bp_d (be_bin op_mulAll (dop_of do_mul) be_int (bp_own 1 (pv 1))))) (ba_cons (be_g T.g_DAY rfl) ba_nil)))) dc_divmod) (pg_tup rfl (pgs_cons (pg_name (i := 2) nd rfl (by first | exact Or.inl rfl | exact Or.inr rfl)) (pgs_cons (pg_name (i := 3) nd rfl (by first | exact Or.inl rfl | exact Or.inr rfl)) pgs_nil)))))
 (bss_cons (bs_tup (tg_tup (tgs_cons (tg_name 4) (tgs_cons (tg_name 5) (tgs_cons (tg_name 6) tgs_nil))) rfl) (ps_asg (bd_n (bn_callC (c_date_in T) rfl hgd hr (by decide) rfl (bv_cons (be_var 2 (pv 2)) bv_nil))) (pg_tup rfl (pgs_cons (pg_name (i := 4) nd rfl (by first | exact Or.inl rfl | exact Or.inr rfl)) (pgs_cons (pg_name (i := 5) nd rfl (by first | exact Or.inl rfl | exact Or.inr rfl)) (pgs_cons (pg_name (i := 6) nd rfl (by first | exact Or.inl rfl | exact Or.inr rfl)) pgs_nil))))))
 (bss_cons (bs_asg (ps_set (i := 7) nd rfl (by first | exact Or.inl rfl | exact Or.inr rfl) (be_bin op_addAll (dop_of do_add) (be_bin op_addAll (dop_of do_add) (be_bin op_addAll (dop_of do_add) (be_bin op_addAll (dop_of do_add) (be_bin op_addAll (dop_of do_add) (be_ix ix_seq (dop_of do_ix) (be_g T.g_NAMES rfl) (bp_d (be_bin op_mod (dop_of do_mod) (be_bin op_addAll (dop_of do_add) (be_var 2 (pv 2)) (bp_d be_int)) (bp_d be_int))) (fun _ _ => rfl)) (bp_d be_str)) (bp_d (bd_n (bn_callC (c_two T) rfl hgd hr (by decide) rfl (bv_cons (be_var 6 (pv 6)) bv_nil))))) (bp_d be_str)) (bp_d (be_ix ix_seq (dop_of do_ix) (be_g T.g_MONTHS rfl) (bp_d (be_bin op_subI (dop_of do_sub) (be_var 5 (pv 5)) (bp_d be_int))) (fun _ _ => rfl)))) (bp_d be_str))))
 (bss_cons (bs_aug (dop_of do_addI) (ps_aug (i := 7) nd rfl (by first | exact Or.inl rfl | exact Or.inr rfl) (be_bin op_addAll (dop_of do_add) (be_bin op_addAll (dop_of do_add) (bd_n (bn_callC (c_two T) rfl hgd hr (by decide) rfl (bv_cons (be_bin op_fdiv (dop_of do_div) (be_var 4 (pv 4)) (bp_d be_int)) bv_nil))) (bp_d (bd_n (bn_callC (c_two T) rfl hgd hr (by decide) rfl (bv_cons (be_bin op_mod (dop_of do_mod) (be_var 4 (pv 4)) (bp_d be_int)) bv_nil))))) (bp_d be_str)) iop_addAll))
 (bss_cons (bs_asg (ps_set (i := 8) nd rfl (by first | exact Or.inl rfl | exact Or.inr rfl) (be_bin op_addAll (dop_of do_add) (be_bin op_addAll (dop_of do_add) (be_bin op_addAll (dop_of do_add) (be_bin op_addAll (dop_of do_add) (bd_n (bn_callC (c_two T) rfl hgd hr (by decide) rfl (bv_cons (be_bin op_fdiv (dop_of do_div) (be_var 3 (pv 3)) (bp_d be_int)) bv_nil))) (bp_d be_str)) (bp_d (bd_n (bn_callC (c_two T) rfl hgd hr (by decide) rfl (bv_cons (be_bin op_mod (dop_of do_mod) (be_bin op_fdiv (dop_of do_div) (be_var 3 (pv 3)) (bp_d be_int)) (bp_d be_int)) bv_nil))))) (bp_d be_str)) (bp_d (bd_n (bn_callC (c_two T) rfl hgd hr (by decide) rfl (bv_cons (be_bin op_mod (dop_of do_mod) (be_var 3 (pv 3)) (bp_d be_int)) bv_nil)))))))
 (bss_one (bs_ret (be_bin op_addAll (dop_of do_add) (be_bin op_addAll (dop_of do_add) (be_bin op_addAll (dop_of do_add) (be_bin op_addAll (dop_of do_add) (be_var 7 (pv 7)) (bp_own 8 (pv 8))) (bp_d (be_if (bt_cmp op_ltO (dopb_of do_ord) (be_var 1 (pv 1)) (bp_d be_int) rfl) be_str be_str))) (bp_d (bd_n (bn_callC (c_two T) rfl hgd hr (by decide) rfl (bv_cons (be_bin op_fdiv (dop_of do_div) (be_cb (pe_callB call_abs rfl T.f_abs bt_abs (ba_one (bp_own 1 (pv 1)))) dc_abs) (bp_d be_int)) bv_nil))))) (bp_d (bd_n (bn_callC (c_two T) rfl hgd hr (by decide) rfl (bv_cons (be_bin op_mod (dop_of do_mod) (be_cb (pe_callB call_abs rfl T.f_abs bt_abs (ba_one (bp_own 1 (pv 1)))) dc_abs) (bp_d be_int)) bv_nil)))))))))))))
abbrev N_Reader___init__ : List Str := ["self", "text"]
theorem sc_Reader___init__ : FnScope N_Reader___init__ ["self", "text"] (defScope s_Reader___init__) := fnScope_k (by decide +kernel)
theorem c_Reader___init__ (T : Tx K mg) : MkF P w K mg base 1 "Reader" ["self", "text"] m_Reader___init__ :=
  mkF T.d_Reader___init__ (fun _ _ _ _ _ _ us hl => match us, hl with | [_, _], _ => rfl) sc_Reader___init__ rfl (by decide) fun f cdv A outer s H E hgd hr => by
  have nd := sc_Reader___init__.nd
  exact (bss_cons (bs_fldP rfl rfl T.k_Reader T.n_Reader_text (pv 0) (be_var 1 (pv 1)))
 (bss_one (bs_fldP rfl rfl T.k_Reader T.n_Reader_at (pv 0) be_int)))
abbrev N_Reader_one_of : List Str := ["self", "words", "word"]
theorem sc_Reader_one_of : FnScope N_Reader_one_of ["self", "words"] (defScope s_Reader_one_of) := fnScope_k (by decide +kernel)
theorem c_Reader_one_of (T : Tx K mg) : CalMt P w K mg base 1 "Reader" "one_of" ["self", "words"] m_Reader_one_of :=
  calMt T.d_Reader_one_of (fun _ _ _ _ _ _ us hl => match us, hl with | [_, _], _ => rfl) sc_Reader_one_of rfl (by decide) fun f cdv A outer s H E hgd hr => by
  have nd := sc_Reader_one_of.nd
  exact (bss_cons (bs_asg (ps_set (i := 2) nd rfl (by first | exact Or.inl rfl | exact Or.inr rfl) (be_sl rfl (be_fld rfl rfl T.k_Reader T.n_Reader_text (pv 0)) (bo_some (be_fld rfl rfl T.k_Reader T.n_Reader_at (pv 0))) (bo_some (be_bin op_addAll (dop_of do_add) (be_fld rfl rfl T.k_Reader T.n_Reader_at (pv 0)) (bp_d be_int))))))
 (bss_cons (bs_if (bt_cmp (op_ninAll (hu65 hr)) (dopb_of do_nin) (be_var 2 (pv 2)) (bp_d (be_gl rfl rfl (tbT_ok T) (pv 1))) rfl) (bss_one bs_no) bss_nil)
 (bss_cons (bs_fldA rfl rfl T.k_Reader T.n_Reader_at (pv 0) be_int iop_addAll (dop_of do_addI))
 (bss_one (bs_ret (be_tixS rfl rfl (tbT_ok T) (pv 1) (be_var 2 (pv 2))))))))
abbrev N_Reader_take : List Str := ["self", "word"]
theorem sc_Reader_take : FnScope N_Reader_take ["self", "word"] (defScope s_Reader_take) := fnScope_k (by decide +kernel)
theorem c_Reader_take (T : Tx K mg) : CalMt P w K mg base 1 "Reader" "take" ["self", "word"] m_Reader_take :=
  calMt T.d_Reader_take (fun _ _ _ _ _ _ us hl => match us, hl with | [_, _], _ => rfl) sc_Reader_take rfl (by decide) fun f cdv A outer s H E hgd hr => by
  have nd := sc_Reader_take.nd
  exact (bss_cons (bs_if (bt_cmp (op_neAll (hu64 hr)) (dopb_of do_ne) (be_sl rfl (be_fld rfl rfl T.k_Reader T.n_Reader_text (pv 0)) (bo_some (be_fld rfl rfl T.k_Reader T.n_Reader_at (pv 0))) (bo_some (be_bin op_addAll (dop_of do_add) (be_fld rfl rfl T.k_Reader T.n_Reader_at (pv 0)) (bp_d (be_cb (pe_callB call_len rfl T.f_len bt_len (ba_one (bp_own 1 (pv 1)))) dc_len))))) (bp_own 1 (pv 1)) rfl) (bss_one bs_no) bss_nil)
 (bss_one (bs_fldA rfl rfl T.k_Reader T.n_Reader_at (pv 0) (be_cb (pe_callB call_len rfl T.f_len bt_len (ba_one (bp_own 1 (pv 1)))) dc_len) iop_addAll (dop_of do_addI))))
abbrev N_Reader_number : List Str := ["self", "least", "most", "digits", "text", "sign"]
theorem sc_Reader_number : FnScope N_Reader_number ["self", "least", "most", "digits"] (defScope s_Reader_number) := fnScope_k (by decide +kernel)
theorem c_Reader_number (T : Tx K mg) : CalMt P w K mg base 1 "Reader" "number" ["self", "least", "most", "digits"] m_Reader_number :=
  calMt T.d_Reader_number (fun _ _ _ _ _ _ us hl => match us, hl with | [_, _, _, _], _ => rfl) sc_Reader_number rfl (by decide) fun f cdv A outer s H E hgd hr => by
  have nd := sc_Reader_number.nd
  exact (bss_cons (bs_asg (ps_set (i := 4) nd rfl (by first | exact Or.inl rfl | exact Or.inr rfl) (be_sl rfl (be_fld rfl rfl T.k_Reader T.n_Reader_text (pv 0)) (bo_some (be_fld rfl rfl T.k_Reader T.n_Reader_at (pv 0))) (bo_some (be_bin op_addAll (dop_of do_add) (be_fld rfl rfl T.k_Reader T.n_Reader_at (pv 0)) (bp_own 3 (pv 3)))))))
 (bss_cons (bs_if (bt_w (bw_or (bt_cmp op_ltO (dopb_of do_ord) (be_cb (pe_callB call_len rfl T.f_len bt_len (ba_one (bp_own 4 (pv 4)))) dc_len) (bp_own 3 (pv 3)) rfl) (bw_or (bt_not (bt_tru rfl (bp_d (be_cb (pe_callB (cr_all rfl) rfl T.f_all bt_all (ba_one (bp_d (bd_n (bn_comp (tg_name 5) (by decide) (pe_lc (own := [("sign", 5)]) rfl nd (bi_any rfl (be_var 4 (pv 4))) (blkOk_by (own := [("sign", 5)]) (N := N_Reader_number) (sc := defScope s_Reader_number) (by decide +kernel)) (fun _ _ _ _ _ => (pg_name (i := 5) nd rfl (by first | exact Or.inl rfl | exact Or.inr rfl))) (fun _ _ _ _ _ => bts_nil) (fun _ _ _ _ _ => (be_cmp (op_inAll (hu65 hr)) (dopb_of do_in) (be_var 5 (pv 5)) (bp_d (be_g T.g_DIGITS rfl)) rfl)))))))) dc_all)))) (bw_or1 (bt_not (bt_chain (dopb_of do_ord) (dopb_of do_ord) (pt_chain op_leO op_leO (be_var 1 (pv 1)) (be_cb (pe_callTy call_intOf rfl T.f_int bt_int (ba_one (bp_own 4 (pv 4)))) dc_int) (be_var 2 (pv 2))))))))) (bss_one bs_no) bss_nil)
 (bss_cons (bs_fldA rfl rfl T.k_Reader T.n_Reader_at (pv 0) (be_var 3 (pv 3)) iop_addAll (dop_of do_addI))
 (bss_one (bs_ret (be_cb (pe_callTy call_intOf rfl T.f_int bt_int (ba_one (bp_own 4 (pv 4)))) dc_int))))))
abbrev N_read_zone : List Str := ["reader", "begin", "sign", "zone"]
theorem sc_read_zone : FnScope N_read_zone ["reader"] (defScope s_read_zone) := fnScope_k (by decide +kernel)
theorem c_read_zone (T : Tx K mg) : Cal false P w K (clK K) mg base 2 "read_zone" ["reader"] m_read_zone :=
  calN T.d_read_zone (fun _ _ _ _ _ _ us hl => match us, hl with | [_], _ => rfl) sc_read_zone rfl (by decide) fun f cdv A outer s H E hgd hr => by
  have nd := sc_read_zone.nd
  exact (bss_cons (bs_asg (ps_set (i := 1) nd rfl (by first | exact Or.inl rfl | exact Or.inr rfl) (be_fld rfl rfl T.k_Reader T.n_Reader_at (pv 0))))
 (bss_cons (bs_asg (ps_set (i := 2) nd rfl (by first | exact Or.inl rfl | exact Or.inr rfl) (be_sl rfl (be_fld rfl rfl T.k_Reader T.n_Reader_text (pv 0)) (bo_some (be_var 1 (pv 1))) (bo_some (be_bin op_addAll (dop_of do_add) (be_var 1 (pv 1)) (bp_d be_int))))))
 (bss_cons (bs_if (bt_cmp (op_ninAll (hu65 hr)) (dopb_of do_nin) (be_var 2 (pv 2)) (bp_d (be_tup (ba_cons be_str (ba_cons be_str ba_nil)))) rfl) (bss_one bs_no) bss_nil)
 (bss_cons (bs_fldA rfl rfl T.k_Reader T.n_Reader_at (pv 0) be_int iop_addAll (dop_of do_addI))
 (bss_cons (bs_asg (ps_set (i := 3) nd rfl (by first | exact Or.inl rfl | exact Or.inr rfl) (be_bin op_mulAll (dop_of do_mul) be_int (bp_d (bd_n (bn_meth (c_Reader_number T) rfl rfl hgd hr (by decide) (pv 0) (bv_cons be_int (bv_cons be_int (bv_cons be_int bv_nil)))))))))
 (bss_cons (bs_aug (dop_of do_addI) (ps_aug (i := 3) nd rfl (by first | exact Or.inl rfl | exact Or.inr rfl) (bd_n (bn_meth (c_Reader_number T) rfl rfl hgd hr (by decide) (pv 0) (bv_cons be_int (bv_cons be_int (bv_cons be_int bv_nil))))) iop_addAll))
 (bss_cons (bs_if (bt_cmp op_ltO (dopb_of do_ord) (be_fld rfl rfl T.k_Reader T.n_Reader_at (pv 0)) (bp_d (be_cb (pe_callB call_len rfl T.f_len bt_len (ba_one (bp_d (be_fld rfl rfl T.k_Reader T.n_Reader_text (pv 0))))) dc_len)) rfl) (bss_one bs_no) bss_nil)
 (bss_cons (bs_if (bt_w (bw_and (bt_cmp (op_eqAll (hu64 hr)) (dopb_of do_eq) (be_var 2 (pv 2)) (bp_d be_str) rfl) (bw_and1 (bt_cmp (op_eqAll (hu64 hr)) (dopb_of do_eq) (be_var 3 (pv 3)) (bp_d be_int) rfl)))) (bss_one bs_no) bss_nil)
 (bss_one (bs_ret (be_if (bt_cmp (op_eqAll (hu64 hr)) (dopb_of do_eq) (be_var 2 (pv 2)) (bp_d be_str) rfl) (be_neg (be_var 3 (pv 3))) (be_var 3 (pv 3)))))))))))))
abbrev N_read_date : List Str := ["text", "reader", "name", "place", "day", "month", "year", "days", "seconds", "zone"]
theorem sc_read_date : FnScope N_read_date ["text"] (defScope s_read_date) := fnScope_k (by decide +kernel)
theorem c_read_date (T : Tx K mg) : Cal false P w K (clK K) mg base 4 "read_date" ["text"] m_read_date :=
  calN T.d_read_date (fun _ _ _ _ _ _ us hl => match us, hl with | [_], _ => rfl) sc_read_date rfl (by decide) fun f cdv A outer s H E hgd hr => by
  have nd := sc_read_date.nd
  exact (bss_cons (bs_if (bt_w (bw_or (bt_not (bt_tru rfl (bp_d (be_isi rfl (pe_callB call_isi rfl T.f_isinstance bt_isinstance (pa_cons (bp_own 0 (pv 0)) (pa_cons (pe_bltn rfl T.f_str bt_str rfl) pa_nil))))))) (bw_or1 (bt_cmp op_gtO (dopb_of do_ord) (be_cb (pe_callB call_len rfl T.f_len bt_len (ba_one (bp_own 0 (pv 0)))) dc_len) (bp_d (be_g T.g_MAX_SIGNS rfl)) rfl)))) (bss_one bs_no) bss_nil)
 (bss_cons (bs_asgN (ps_set (i := 1) nd rfl (by first | exact Or.inl rfl | exact Or.inr rfl) (bn_make (c_Reader___init__ T) rfl rfl hgd hr (by decide) rfl (ba_cons (be_var 0 (pv 0)) ba_nil))))
 (bss_cons (bs_asg (ps_set (i := 2) nd rfl (by first | exact Or.inl rfl | exact Or.inr rfl) (bd_n (bn_meth (c_Reader_one_of T) rfl rfl hgd hr (by decide) (pv 1) (bv_fn (tbT_ok T "NAMES" _ rfl).fv rfl rfl bv_nil)))))
 (bss_cons (bs_exprN (bn_meth (c_Reader_take T) rfl rfl hgd hr (by decide) (pv 1) (bv_cons be_str bv_nil)))
 (bss_cons (bs_exprN (bn_meth (c_Reader_take T) rfl rfl hgd hr (by decide) (pv 1) (bv_cons be_str bv_nil)))
 (bss_cons (bs_asg (ps_set (i := 3) nd rfl (by first | exact Or.inl rfl | exact Or.inr rfl) (be_fld rfl rfl T.k_Reader T.n_Reader_at (pv 1))))
 (bss_cons (bs_asg (ps_set (i := 4) nd rfl (by first | exact Or.inl rfl | exact Or.inr rfl) (bd_n (bn_meth (c_Reader_number T) rfl rfl hgd hr (by decide) (pv 1) (bv_cons be_int (bv_cons be_int (bv_cons be_int bv_nil)))))))
 (bss_cons (bs_exprN (bn_meth (c_Reader_take T) rfl rfl hgd hr (by decide) (pv 1) (bv_cons be_str bv_nil)))
 (bss_cons (bs_asg (ps_set (i := 5) nd rfl (by first | exact Or.inl rfl | exact Or.inr rfl) (be_bin op_addAll (dop_of do_add) (bd_n (bn_meth (c_Reader_one_of T) rfl rfl hgd hr (by decide) (pv 1) (bv_fn (tbT_ok T "MONTHS" _ rfl).fv rfl rfl bv_nil))) (bp_d be_int))))
 (bss_cons (bs_exprN (bn_meth (c_Reader_take T) rfl rfl hgd hr (by decide) (pv 1) (bv_cons be_str bv_nil)))
 (bss_cons (bs_asg (ps_set (i := 6) nd rfl (by first | exact Or.inl rfl | exact Or.inr rfl) (bd_n (bn_meth (c_Reader_number T) rfl rfl hgd hr (by decide) (pv 1) (bv_cons be_int (bv_cons (be_g T.g_MAX_YEAR rfl) (bv_cons be_int bv_nil)))))))
 (bss_cons (bs_if (bt_cmp op_gtO (dopb_of do_ord) (be_var 4 (pv 4)) (bp_d (bd_n (bn_callC (c_length_of T) rfl hgd hr (by decide) rfl (bv_cons (be_var 6 (pv 6)) (bv_cons (be_var 5 (pv 5)) bv_nil))))) rfl) (bss_one bs_no) bss_nil)
 (bss_cons (bs_asg (ps_set (i := 7) nd rfl (by first | exact Or.inl rfl | exact Or.inr rfl) (bd_n (bn_callC (c_count T) rfl hgd hr (by decide) rfl (bv_cons (be_var 6 (pv 6)) (bv_cons (be_var 5 (pv 5)) (bv_cons (be_var 4 (pv 4)) bv_nil)))))))
 (bss_cons (bs_if (bt_cmp (op_neAll (hu64 hr)) (dopb_of do_ne) (be_bin op_mod (dop_of do_mod) (be_bin op_addAll (dop_of do_add) (be_var 7 (pv 7)) (bp_d be_int)) (bp_d be_int)) (bp_own 2 (pv 2)) rfl) (bss_one bs_no) bss_nil)
 (bss_cons (bs_exprN (bn_meth (c_Reader_take T) rfl rfl hgd hr (by decide) (pv 1) (bv_cons be_str bv_nil)))
 (bss_cons (bs_asg (ps_set (i := 8) nd rfl (by first | exact Or.inl rfl | exact Or.inr rfl) (be_bin op_mulAll (dop_of do_mul) be_int (bp_d (bd_n (bn_meth (c_Reader_number T) rfl rfl hgd hr (by decide) (pv 1) (bv_cons be_int (bv_cons be_int (bv_cons be_int bv_nil)))))))))
 (bss_cons (bs_exprN (bn_meth (c_Reader_take T) rfl rfl hgd hr (by decide) (pv 1) (bv_cons be_str bv_nil)))
 (bss_cons (bs_aug (dop_of do_addI) (ps_aug (i := 8) nd rfl (by first | exact Or.inl rfl | exact Or.inr rfl) (be_bin op_mulAll (dop_of do_mul) be_int (bp_d (bd_n (bn_meth (c_Reader_number T) rfl rfl hgd hr (by decide) (pv 1) (bv_cons be_int (bv_cons be_int (bv_cons be_int bv_nil))))))) iop_addAll))
 (bss_cons (bs_exprN (bn_meth (c_Reader_take T) rfl rfl hgd hr (by decide) (pv 1) (bv_cons be_str bv_nil)))
 (bss_cons (bs_aug (dop_of do_addI) (ps_aug (i := 8) nd rfl (by first | exact Or.inl rfl | exact Or.inr rfl) (bd_n (bn_meth (c_Reader_number T) rfl rfl hgd hr (by decide) (pv 1) (bv_cons be_int (bv_cons be_int (bv_cons be_int bv_nil))))) iop_addAll))
 (bss_cons (bs_exprN (bn_meth (c_Reader_take T) rfl rfl hgd hr (by decide) (pv 1) (bv_cons be_str bv_nil)))
 (bss_cons (bs_asg (ps_set (i := 9) nd rfl (by first | exact Or.inl rfl | exact Or.inr rfl) (bd_n (bn_callC (c_read_zone T) rfl hgd hr (by decide) rfl (bv_slot (pv 1) bv_nil)))))
 (bss_one (bs_ret (be_tup (ba_cons (be_bin op_subI (dop_of do_sub) (be_bin op_addAll (dop_of do_add) (be_bin op_mulAll (dop_of do_mul) (be_var 7 (pv 7)) (bp_d (be_g T.g_DAY rfl))) (bp_own 8 (pv 8))) (bp_d (be_bin op_mulAll (dop_of do_mul) be_int (bp_own 9 (pv 9))))) (ba_cons (be_var 9 (pv 9)) ba_nil)))))))))))))))))))))))))))
abbrev N__law_text_holds : List Str := ["state", "date", "zone", "clock", "number", "moment", "text"]
theorem sc__law_text_holds : FnScope N__law_text_holds ["state"] (defScope s__law_text_holds) := fnScope_k (by decide +kernel)
theorem c__law_text_holds (T : Tx K mg) : Cal false P w K (clK K) mg base 5 "_law_text_holds" ["state"] m__law_text_holds :=
  calN T.d__law_text_holds (fun _ _ _ _ _ _ us hl => match us, hl with | [_], _ => rfl) sc__law_text_holds rfl (by decide) fun f cdv A outer s H E hgd hr => by
  have nd := sc__law_text_holds.nd
  exact (bss_cons (bs_par2 (ps_par rfl nd rfl rfl (by decide) rfl rfl (ba_cons (bd_n (bn_callC (c__law_drawn T) rfl hgd hr (by decide) rfl (bv_slot (pv 0) bv_nil))) (ba_cons (bd_n (bn_callC (c__law_pick T) rfl hgd hr (by decide) rfl (bv_slot (pv 0) (bv_cons (bd_n (bn_lst (ba_cons be_int (ba_cons be_int (ba_cons (be_neg be_int) (ba_cons be_int (ba_cons (be_neg be_int) (ba_cons (be_bin op_subI (dop_of do_sub) (bd_n (bn_callC (c__law_draw T) rfl hgd hr (by decide) rfl (bv_slot (pv 0) (bv_cons be_int bv_nil)))) (bp_d be_int)) ba_nil)))))))) bv_nil)))) ba_nil)) rfl))
 (bss_cons (bs_asg (ps_set (i := 3) nd rfl (by first | exact Or.inl rfl | exact Or.inr rfl) (bd_n (bn_callC (c__law_pick T) rfl hgd hr (by decide) rfl (bv_slot (pv 0) (bv_cons (bd_n (bn_lst (ba_cons be_int (ba_cons be_int (ba_cons be_int (ba_cons (bd_n (bn_callC (c__law_draw T) rfl hgd hr (by decide) rfl (bv_slot (pv 0) (bv_cons be_int bv_nil)))) ba_nil)))))) bv_nil))))))
 (bss_cons (bs_asg (ps_set (i := 4) nd rfl (by first | exact Or.inl rfl | exact Or.inr rfl) (bd_n (bn_callC (c__law_number T) rfl hgd hr (by decide) rfl (bv_cons (be_ix ix_seq (dop_of do_ix) (be_var 1 (pv 1)) (bp_d be_int) (fun _ _ => rfl)) (bv_cons (be_ix ix_seq (dop_of do_ix) (be_var 1 (pv 1)) (bp_d be_int) (fun _ _ => rfl)) (bv_cons (be_ix ix_seq (dop_of do_ix) (be_var 1 (pv 1)) (bp_d be_int) (fun _ _ => rfl)) bv_nil)))))))
 (bss_cons (bs_asg (ps_set (i := 5) nd rfl (by first | exact Or.inl rfl | exact Or.inr rfl) (be_bin op_subI (dop_of do_sub) (be_bin op_addAll (dop_of do_add) (be_bin op_mulAll (dop_of do_mul) (be_var 4 (pv 4)) (bp_d be_int)) (bp_own 3 (pv 3))) (bp_d (be_bin op_mulAll (dop_of do_mul) be_int (bp_own 2 (pv 2)))))))
 (bss_cons (bs_asg (ps_set (i := 6) nd rfl (by first | exact Or.inl rfl | exact Or.inr rfl) (bd_n (bn_callC (c__law_text T) rfl hgd hr (by decide) rfl (bv_cons (be_tup (ba_cons (be_bin op_mod (dop_of do_mod) (be_cb (pe_callTy call_intOf rfl T.f_int bt_int (ba_one (bp_d (be_bin op_addAll (dop_of do_add) (be_var 4 (pv 4)) (bp_d be_int))))) dc_int) (bp_d be_int)) (ba_cons (be_ix ix_seq (dop_of do_ix) (be_var 1 (pv 1)) (bp_d be_int) (fun _ _ => rfl)) (ba_cons (be_ix ix_seq (dop_of do_ix) (be_var 1 (pv 1)) (bp_d be_int) (fun _ _ => rfl)) (ba_cons (be_ix ix_seq (dop_of do_ix) (be_var 1 (pv 1)) (bp_d be_int) (fun _ _ => rfl)) (ba_cons (be_bin op_fdiv (dop_of do_div) (be_var 3 (pv 3)) (bp_d be_int)) (ba_cons (be_bin op_mod (dop_of do_mod) (be_cb (pe_callTy call_intOf rfl T.f_int bt_int (ba_one (bp_d (be_bin op_fdiv (dop_of do_div) (be_var 3 (pv 3)) (bp_d be_int))))) dc_int) (bp_d be_int)) (ba_cons (be_bin op_mod (dop_of do_mod) (be_cb (pe_callTy call_intOf rfl T.f_int bt_int (ba_one (bp_own 3 (pv 3)))) dc_int) (bp_d be_int)) (ba_cons (be_if (bt_cmp op_ltO (dopb_of do_ord) (be_var 2 (pv 2)) (bp_d be_int) rfl) be_str be_str) (ba_cons (be_cb (pe_callB call_abs rfl T.f_abs bt_abs (ba_one (bp_own 2 (pv 2)))) dc_abs) ba_nil)))))))))) bv_nil)))))
 (bss_one (bs_retNew (bn_callC (c__law_same T) rfl hgd hr (by decide) rfl (bv_cons (bd_n (bn_lst (ba_cons (bd_n (bn_callC (c_write_date T) rfl hgd hr (by decide) rfl (bv_cons (be_var 5 (pv 5)) (bv_cons (be_var 2 (pv 2)) bv_nil)))) (ba_cons (bd_n (bn_callC (c_read_date T) rfl hgd hr (by decide) rfl (bv_cons (be_var 6 (pv 6)) bv_nil))) ba_nil)))) (bv_cons (bd_n (bn_lst (ba_cons (be_var 6 (pv 6)) (ba_cons (be_tup (ba_cons (be_var 5 (pv 5)) (ba_cons (be_var 2 (pv 2)) ba_nil))) ba_nil)))) bv_nil))))))))))
abbrev N_law : List Str := ["script", "state", "turn"]
theorem sc_law : FnScope N_law ["script"] (defScope s_law) := fnScope_k (by decide +kernel)
-- the law behind its first statement, in the law's own context
theorem w_law (T : Tx K mg) {f : Addr} {cdv : Value} {A : Around} {outer : List PySem.Env} {s : Shared} {H : Hp} {E : XK} (hgd : A.guards = some []) (hr : Room 5 (A.deeper (envOfC "law" (defScope s_law) s.heap.objs.size f cdv))) :
    PSs (cxOf CX0 P w K mg base N_law "law" (defScope s_law) f cdv A outer s H E).nox (defBody s_law).tail (tsS ⟨K, (clK K), [], none⟩ b_law) := by
  have nd := sc_law.nd
  exact (bss_cons (bs_for (tg_name 2) (ps_for PassesOwn.never rfl (bi_range1 (pi_range1 rfl T.f_range (ba_cons be_int ba_nil))) (pg_name (i := 2) nd rfl (by first | exact Or.inl rfl | exact Or.inr rfl)) (bss_one (bs_if (bt_w (bw_or (bt_not (bt_tru rfl (bp_d (bd_n (bn_callC (c__law_days_hold T) rfl hgd hr (by decide) rfl (bv_slot (pv 1) bv_nil)))))) (bw_or1 (bt_not (bt_tru rfl (bp_d (bd_n (bn_callC (c__law_text_holds T) rfl hgd hr (by decide) rfl (bv_slot (pv 1) bv_nil))))))))) (bss_one (bs_ret be_bl)) bss_nil))))
 (bss_one (bs_ret be_bl)))
theorem sc__law_start : FnScope N_start ["script"] (defScope s__law_start) := fnScope_k (by decide +kernel)
theorem c__law_start (T : Tx K mg) : CalS P w K mg base := calS T.d__law_start (fun _ _ _ _ _ _ us hl => match us, hl with | [_], _ => rfl) sc__law_start fun f cdv A outer s H E => by
  have nd := sc__law_start.nd
  exact pss_cons (ps_set (i := 1) nd rfl (Or.inl rfl) pe_int) (pss_cons (ps_for PassesOwn.never rfl (pi_list (pv 0)) (pg_name (i := 2) nd rfl (Or.inl rfl))
    (pss_one (ps_set (i := 1) nd rfl (Or.inl rfl) (pe_op op_add (pe_op op_mod (pe_callTy call_int1 rfl T.f_int bt_int (pa_cons (pe_op op_add (pe_op op_mul (pv 1) pe_int) (pv 2)) pa_nil)) pe_int) pe_int))))
    (pss_one (ps_ret (pe_lst (pa_cons (pe_callTy call_list_of rfl T.f_list bt_list (pa_cons (pv 0) pa_nil)) (pa_cons pe_int (pa_cons pe_int (pa_cons (pv 1) pa_nil))))))))
theorem law_g (T : Tx K mg) (main : Plain) : ∃ (f : Addr) (fd : FuncData), mg "law" = some (.ref f) ∧ Fun K "law" "law" s_law f fd ∧ FnG P w K mg base CX0 6 f fd ["script"] (spLaw K) :=
  lawG (M := 1) (cls := clK K) T.d_law sc_law rfl (fun f cdv A outer s H E hgd hr => by
    have nd := sc_law.nd
    exact pss_cons (ps_set (i := 1) nd rfl (by first | exact Or.inl rfl | exact Or.inr rfl) (pe_start (c__law_start T) rfl hgd hr (by decide) rfl (pa_cons (pv 0) pa_nil))) (w_law T hgd hr)) main
end
abbrev R : PySem.W.OpenRow := PySem.W.OpenLaw.row PySem.Challenge.rw_oncehome_k40_dates
abbrev hk : PySem.W.Hook := hookM 5 fa mo fn
def ob (s : PySem.W.SharedT) : Al := obsM 5 fa mo fn (HandSHeadRun.getT s)
theorem ob_eq (s : PySem.W.SharedT) : ob s = hk.obs s.abs := obsM_eq (HandSHeadRun.getT_eq s)
def loose : List Str := (["__name__", "MailError", "TextError", "ArgumentError", "is_integer", "MAX_SIGNS", "MAX_YEAR", "NAMES", "MONTHS", "LENGTHS", "DAY", "MAX_ZONE", "DIGITS", "is_leap", "length_of", "is_date", "years_ahead", "EPOCH", "LAST", "count"] : List Str) ++ (["days_of", "check_days", "date_in", "date_of", "weekday", "next_weekday", "add_months", "months_between", "check_moment", "two", "write_date", "Reader", "read_date", "read_zone", "_law_start", "_law_draw", "_law_pick", "_law_same", "_law_leap", "_law_length"] : List Str) ++ (["_law_is_whole", "_law_is_date", "_law_number", "_law_drawn", "_law_text", "_law_two", "_law_names", "_law_months", "_law_next_day", "_law_moved", "_law_between", "_law_days_hold", "_law_text_holds"] : List Str)
theorem run (w : World) : HandSHeadRun.RunEq R (PySem.W.view R.prog [56]) hk ob 4000 loose w := by
  intro os
  kernel_rfl
theorem facts (main : Plain) {P : Program} {w : World} {K : Fg} {h : Heap} {mg : Str → Option Value} {f : Addr} (X : K.In h) (G : h.Ns mainGlobals mg) (hfa : mg ("law" : Str) = some (.ref f)) (c : SaysM fa mo fn K) :
    ∃ fd : FuncData, (∀ (s : Shared) (v : Value), BindsTo s fd ⟨[v], []⟩ [("script", v)]) ∧ ∀ base : Heap, K.In base → base.Ns mainGlobals mg → FnG P w K mg base CX0 6 f fd ["script"] (spLaw K) := by
  have T := tx_of X G c
  obtain ⟨f', fd, h1, h2⟩ := T.d_law.ex
  have e := hfa.symm.trans h1
  cases e
  refine ⟨fd, fun s v => ?_, fun base _ _ => ?_⟩
  · obtain ⟨oc, od, kV, doc, pm, an, cdv, ct, osl, rfl, lk, hcd⟩ := h2.ex
    exact .of_eq rfl
  · obtain ⟨f2, fd2, g1, g2, g3⟩ := law_g (P := P) (w := w) (base := base) T main
    have e := h1.symm.trans g1
    cases e
    obtain ⟨_, _, _, _, _, _, _, _, _, rfl, lk, _⟩ := h2.ex
    obtain ⟨_, _, _, _, _, _, _, _, _, rfl, lk2, _⟩ := g2.ex
    rw [lk] at lk2
    cases lk2
    exact g3
end K40
open PySem PySem.W PySem.Calls PyProof.Rows in
theorem K40.holds_of (main : K40.Plain) : PySem.Challenge.rw_oncehome_k40_dates.Holds := by
  w_on; o_law
  refine HandSHeadRun.head_any (r := OpenLaw.row PySem.Challenge.rw_oncehome_k40_dates) (q := view (OpenLaw.row PySem.Challenge.rw_oncehome_k40_dates).prog [56]) (H := K40.hk) (ob := K40.ob) (M := 4000) (loose := K40.loose) (d := HandSHeadRun.topDef (OpenLaw.row PySem.Challenge.rw_oncehome_k40_dates).prog 56) (kwd := []) K40.ob_eq
    (by kernel_rfl) (fun s => by kernel_rfl) K40.run (by kernel_rfl) (by kernel_rfl) (by kernel_rfl) (by rfl) (by first | assumption | decide +kernel) (by decide +kernel) ⟨rfl, rfl, rfl, rfl, rfl, by decide +kernel⟩ ?hw ?hc
  case hw => w_witness2
  case hc =>
    refine BV.walkGE (l := PySem.Challenge.rw_oncehome_k40_dates) (k := 6) (x := "script") rfl (by kernel_rfl) ⟨rfl, by decide, by decide⟩ ?F
    intro w mg fa h Y G hmg0
    obtain ⟨K, KX, c⟩ := Y
    have hmg : mg ("law" : PySem.Str) = some (.ref fa) := by
      have e : (HandSHeadRun.topDef (OpenLaw.row PySem.Challenge.rw_oncehome_k40_dates).prog 56).name = ("law" : PySem.Str) := by kernel_rfl
      rw [← e]
      exact hmg0
    obtain ⟨fd, hb, hF⟩ := K40.facts main (P := (PySem.Challenge.rw_oncehome_k40_dates).prog) (w := w) KX G hmg c
    exact ⟨K, fd, KX, hb, hF⟩
namespace K40
end K40

/-! law_k40_dates: the plain law: counting. -/
namespace K40
open PySem PySem.Spec PyProof.Rows L2 BV
def leap (y : Int) : Bool := decide (y % 4 = 0 ∧ (y % 100 ≠ 0 ∨ y % 400 = 0))
def len (y m : Int) : Int := if m = 2 then (if leap y = true then 29 else 28) else if m = 4 ∨ m = 6 ∨ m = 9 ∨ m = 11 then 30 else 31
def ya (y : Int) : Int := 365 * (y - 1) + (y - 1) / 4 - (y - 1) / 100 + (y - 1) / 400
theorem b_ite {b : Bool} {p q : D} : (if b then p else q) = if b = true then p else q := rfl
theorem l_intB {b : Bool} : dIntOf (.bool b) = some (.int (if b then 1 else 0)) := rfl
theorem lawleap (y : Int) : m__law_leap [.d (.int y)] = .ok (.d (.bool (leap y))) [.un] := by
  refine eqF (wF_run rfl ?_)
  simp only [b__law_leap, r_lft, r_var, r_own, r_c, r_bin, r_binO, r_cmp, r_tcmp, r_tcmpO, r_tru, r_tand, r_tor, r_tnot, r_eif, r_nif, r_and, r_or, r_not, r_neg, r_cb, r_ncb, r_bm, r_bm0, r_tup, r_lst, r_anil, r_acons, r_aone, r_vnil, r_vcons, r_vslot, r_sl, r_onone, r_osome, r_chain, r_tchain, r_isi, r_iany, r_rg1, r_rg2, r_yes, r_frz, r_call, r_F, r_sif, r_snil, r_pass, r_break, r_cont, r_no, r_ret, r_retN, r_retNone, r_drop, r_dropN, r_asg, r_asgN, r_aug, r_stup, r_app, r_ext, r_setix, r_for, r_retOwn, wE_nComp, wE_ok, wS_nx, wS_rt, wS_bk, wS_ct, wS_seq, wV_d, wV_l, wO_d, wO_l, wL_some, wL_ite, wL_map, cB_true, cB_false, cB_not, wZ_d, wZ_l, wTk_some, wT_some, wipeE, tk_nil, tk_v, tk_s, putA, mask, d1, d2, tyD, okS_d, okS_l, lOf, asI, Option.isSome_some, Option.getD_some, Option.map_some, List.getElem?_cons_zero, List.getElem?_cons_succ, List.set_cons_zero, List.set_cons_succ, List.replicate_succ, List.replicate_zero, List.cons_append, List.nil_append, List.not_mem_nil, List.mem_cons, or_false, not_false_eq_true, true_and, decide_true, if_true, if_false, Bool.false_eq_true, reduceIte, Nat.reduceEqDiff, Nat.reduceAdd, Nat.reduceSub, Nat.reduceLeDiff, Nat.reduceLT, Int.reduceLT, Int.reduceLE, Int.reduceAdd, Int.reduceSub, Int.reduceEq, Int.reduceNeg, Nat.reduceMul, decide_false, Bool.not_true, Bool.not_false, and_true, true_or, or_true, Int.reduceMul, Int.reduceToNat, Nat.reducePow, Int.reducePow, Nat.not_lt_zero, r_par2, r_par3, wP2_c, wP3_c, r_fld, r_fldP, r_fldA, r_meth, r_make, r_pop, wFl_d, wNo_none, wMk_ok, oFs_o, okS_o, List.map_cons, List.map_nil, false_or, l_addI, l_addS, l_addL, l_addT, l_sub, l_div, l_mod, l_mulI, l_mulS, l_mulL, l_eqI, l_eqS, l_neI, l_neS, l_ltI, l_leI, l_gtI, l_geI, l_ltS, l_leS, l_gtS, l_geS, l_truI, l_truB, l_truL, l_truT, l_truN, l_truS, l_lenS, l_lenL, l_lenT, l_intI, l_absI, l_tupL, l_tupT, l_itL, l_itT, l_itS, l_rg1, l_rg2, l_ixL, l_ixT, l_ixS, at_0, at_1, at_2, at_3, set_0, set_1, set_2, set_3, List.length_cons, List.length_nil, Int.cast_ofNat_Int, Int.natCast_one, tgD_n, tgD_t, tgA_nil, tgA_cons, Option.bind_some, l_isSS, l_isST, l_isSL, l_isSI, l_isTT, l_isTS, l_isTL, l_isTI, l_isII, l_isBI, l_isLL, l_ord]
  unfold leap
  by_cases h1 : y % 4 = 0 <;> by_cases h2 : y % 100 = 0 <;> by_cases h3 : y % 400 = 0
  all_goals first | (exfalso; omega) | skip
  all_goals simp [h1, h2, h3, cB, l_addI, l_addS, l_addL, l_addT, l_sub, l_div, l_mod, l_mulI, l_mulS, l_mulL, l_eqI, l_eqS, l_neI, l_neS, l_ltI, l_leI, l_gtI, l_geI, l_ltS, l_leS, l_gtS, l_geS, l_truI, l_truB, l_truL, l_truT, l_truN, l_truS, l_lenS, l_lenL, l_lenT, l_intI, l_absI, l_tupL, l_tupT, l_itL, l_itT, l_itS, l_rg1, l_rg2, l_ixL, l_ixT, l_ixS, at_0, at_1, at_2, at_3, set_0, set_1, set_2, set_3, List.length_cons, List.length_nil, Int.cast_ofNat_Int, Int.natCast_one, tgD_n, tgD_t, tgA_nil, tgA_cons, Option.bind_some, l_isSS, l_isST, l_isSL, l_isSI, l_isTT, l_isTS, l_isTL, l_isTI, l_isII, l_isBI, l_isLL, l_ord, r_lft, r_var, r_own, r_c, r_bin, r_binO, r_cmp, r_tcmp, r_tcmpO, r_tru, r_tand, r_tor, r_tnot, r_eif, r_nif, r_and, r_or, r_not, r_neg, r_cb, r_ncb, r_bm, r_bm0, r_tup, r_lst, r_anil, r_acons, r_aone, r_vnil, r_vcons, r_vslot, r_sl, r_onone, r_osome, r_chain, r_tchain, r_isi, r_iany, r_rg1, r_rg2, r_yes, r_frz, r_call, r_F, r_sif, r_snil, r_pass, r_break, r_cont, r_no, r_ret, r_retN, r_retNone, r_drop, r_dropN, r_asg, r_asgN, r_aug, r_stup, r_app, r_ext, r_setix, r_for, r_retOwn, wE_nComp, wE_ok, wS_nx, wS_rt, wS_bk, wS_ct, wS_seq, wV_d, wV_l, wO_d, wO_l, wL_some, wL_ite, wL_map, cB_true, cB_false, cB_not, wZ_d, wZ_l, wTk_some, wT_some, wipeE, tk_nil, tk_v, tk_s, putA, mask, d1, d2, tyD, okS_d, okS_l, lOf, asI, Option.isSome_some, Option.getD_some, Option.map_some, List.getElem?_cons_zero, List.getElem?_cons_succ, List.set_cons_zero, List.set_cons_succ, List.replicate_succ, List.replicate_zero, List.cons_append, List.nil_append, List.not_mem_nil, List.mem_cons, or_false, not_false_eq_true, true_and, decide_true, if_true, if_false, Bool.false_eq_true, reduceIte, Nat.reduceEqDiff, Nat.reduceAdd, Nat.reduceSub, Nat.reduceLeDiff, Nat.reduceLT, Int.reduceLT, Int.reduceLE, Int.reduceAdd, Int.reduceSub, Int.reduceEq, Int.reduceNeg, Nat.reduceMul, decide_false, Bool.not_true, Bool.not_false, and_true, true_or, or_true, Int.reduceMul, Int.reduceToNat, Nat.reducePow, Int.reducePow, Nat.not_lt_zero, r_par2, r_par3, wP2_c, wP3_c, r_fld, r_fldP, r_fldA, r_meth, r_make, r_pop, wFl_d, wNo_none, wMk_ok, oFs_o, okS_o, List.map_cons, List.map_nil, false_or]
theorem isleap (y : Int) : m_is_leap [.d (.int y)] = .ok (.d (.bool (leap y))) [.un] := by
  refine eqF (wF_run rfl ?_)
  simp only [b_is_leap, r_lft, r_var, r_own, r_c, r_bin, r_binO, r_cmp, r_tcmp, r_tcmpO, r_tru, r_tand, r_tor, r_tnot, r_eif, r_nif, r_and, r_or, r_not, r_neg, r_cb, r_ncb, r_bm, r_bm0, r_tup, r_lst, r_anil, r_acons, r_aone, r_vnil, r_vcons, r_vslot, r_sl, r_onone, r_osome, r_chain, r_tchain, r_isi, r_iany, r_rg1, r_rg2, r_yes, r_frz, r_call, r_F, r_sif, r_snil, r_pass, r_break, r_cont, r_no, r_ret, r_retN, r_retNone, r_drop, r_dropN, r_asg, r_asgN, r_aug, r_stup, r_app, r_ext, r_setix, r_for, r_retOwn, wE_nComp, wE_ok, wS_nx, wS_rt, wS_bk, wS_ct, wS_seq, wV_d, wV_l, wO_d, wO_l, wL_some, wL_ite, wL_map, cB_true, cB_false, cB_not, wZ_d, wZ_l, wTk_some, wT_some, wipeE, tk_nil, tk_v, tk_s, putA, mask, d1, d2, tyD, okS_d, okS_l, lOf, asI, Option.isSome_some, Option.getD_some, Option.map_some, List.getElem?_cons_zero, List.getElem?_cons_succ, List.set_cons_zero, List.set_cons_succ, List.replicate_succ, List.replicate_zero, List.cons_append, List.nil_append, List.not_mem_nil, List.mem_cons, or_false, not_false_eq_true, true_and, decide_true, if_true, if_false, Bool.false_eq_true, reduceIte, Nat.reduceEqDiff, Nat.reduceAdd, Nat.reduceSub, Nat.reduceLeDiff, Nat.reduceLT, Int.reduceLT, Int.reduceLE, Int.reduceAdd, Int.reduceSub, Int.reduceEq, Int.reduceNeg, Nat.reduceMul, decide_false, Bool.not_true, Bool.not_false, and_true, true_or, or_true, Int.reduceMul, Int.reduceToNat, Nat.reducePow, Int.reducePow, Nat.not_lt_zero, r_par2, r_par3, wP2_c, wP3_c, r_fld, r_fldP, r_fldA, r_meth, r_make, r_pop, wFl_d, wNo_none, wMk_ok, oFs_o, okS_o, List.map_cons, List.map_nil, false_or, l_addI, l_addS, l_addL, l_addT, l_sub, l_div, l_mod, l_mulI, l_mulS, l_mulL, l_eqI, l_eqS, l_neI, l_neS, l_ltI, l_leI, l_gtI, l_geI, l_ltS, l_leS, l_gtS, l_geS, l_truI, l_truB, l_truL, l_truT, l_truN, l_truS, l_lenS, l_lenL, l_lenT, l_intI, l_absI, l_tupL, l_tupT, l_itL, l_itT, l_itS, l_rg1, l_rg2, l_ixL, l_ixT, l_ixS, at_0, at_1, at_2, at_3, set_0, set_1, set_2, set_3, List.length_cons, List.length_nil, Int.cast_ofNat_Int, Int.natCast_one, tgD_n, tgD_t, tgA_nil, tgA_cons, Option.bind_some, l_isSS, l_isST, l_isSL, l_isSI, l_isTT, l_isTS, l_isTL, l_isTI, l_isII, l_isBI, l_isLL, l_ord]
  unfold leap
  by_cases h1 : y % 4 = 0 <;> by_cases h2 : y % 100 = 0 <;> by_cases h3 : y % 400 = 0
  all_goals first | (exfalso; omega) | skip
  all_goals simp [h1, h2, h3, cB, l_addI, l_addS, l_addL, l_addT, l_sub, l_div, l_mod, l_mulI, l_mulS, l_mulL, l_eqI, l_eqS, l_neI, l_neS, l_ltI, l_leI, l_gtI, l_geI, l_ltS, l_leS, l_gtS, l_geS, l_truI, l_truB, l_truL, l_truT, l_truN, l_truS, l_lenS, l_lenL, l_lenT, l_intI, l_absI, l_tupL, l_tupT, l_itL, l_itT, l_itS, l_rg1, l_rg2, l_ixL, l_ixT, l_ixS, at_0, at_1, at_2, at_3, set_0, set_1, set_2, set_3, List.length_cons, List.length_nil, Int.cast_ofNat_Int, Int.natCast_one, tgD_n, tgD_t, tgA_nil, tgA_cons, Option.bind_some, l_isSS, l_isST, l_isSL, l_isSI, l_isTT, l_isTS, l_isTL, l_isTI, l_isII, l_isBI, l_isLL, l_ord, r_lft, r_var, r_own, r_c, r_bin, r_binO, r_cmp, r_tcmp, r_tcmpO, r_tru, r_tand, r_tor, r_tnot, r_eif, r_nif, r_and, r_or, r_not, r_neg, r_cb, r_ncb, r_bm, r_bm0, r_tup, r_lst, r_anil, r_acons, r_aone, r_vnil, r_vcons, r_vslot, r_sl, r_onone, r_osome, r_chain, r_tchain, r_isi, r_iany, r_rg1, r_rg2, r_yes, r_frz, r_call, r_F, r_sif, r_snil, r_pass, r_break, r_cont, r_no, r_ret, r_retN, r_retNone, r_drop, r_dropN, r_asg, r_asgN, r_aug, r_stup, r_app, r_ext, r_setix, r_for, r_retOwn, wE_nComp, wE_ok, wS_nx, wS_rt, wS_bk, wS_ct, wS_seq, wV_d, wV_l, wO_d, wO_l, wL_some, wL_ite, wL_map, cB_true, cB_false, cB_not, wZ_d, wZ_l, wTk_some, wT_some, wipeE, tk_nil, tk_v, tk_s, putA, mask, d1, d2, tyD, okS_d, okS_l, lOf, asI, Option.isSome_some, Option.getD_some, Option.map_some, List.getElem?_cons_zero, List.getElem?_cons_succ, List.set_cons_zero, List.set_cons_succ, List.replicate_succ, List.replicate_zero, List.cons_append, List.nil_append, List.not_mem_nil, List.mem_cons, or_false, not_false_eq_true, true_and, decide_true, if_true, if_false, Bool.false_eq_true, reduceIte, Nat.reduceEqDiff, Nat.reduceAdd, Nat.reduceSub, Nat.reduceLeDiff, Nat.reduceLT, Int.reduceLT, Int.reduceLE, Int.reduceAdd, Int.reduceSub, Int.reduceEq, Int.reduceNeg, Nat.reduceMul, decide_false, Bool.not_true, Bool.not_false, and_true, true_or, or_true, Int.reduceMul, Int.reduceToNat, Nat.reducePow, Int.reducePow, Nat.not_lt_zero, r_par2, r_par3, wP2_c, wP3_c, r_fld, r_fldP, r_fldA, r_meth, r_make, r_pop, wFl_d, wNo_none, wMk_ok, oFs_o, okS_o, List.map_cons, List.map_nil, false_or]
theorem l_inI {m : Int} : dInB (.int m) (.list [.int 4, .int 6, .int 9, .int 11]) = some (decide (m = 4 ∨ m = 6 ∨ m = 9 ∨ m = 11)) := by
  show (if SeqAt.shaped (.int m) && SeqAt.shaped (.list [.int 4, .int 6, .int 9, .int 11]) then some (([.int 4, .int 6, .int 9, .int 11] : List D).any fun z => PyData.eqv z (.int m)) else none) = _
  rw [if_pos (by rw [show SeqAt.shaped (.int m) = true from rfl]; decide +kernel)]
  refine congrArg some ?_
  simp only [List.any_cons, List.any_nil, PyData.eqv]
  by_cases h : m = 4 ∨ m = 6 ∨ m = 9 ∨ m = 11
  · rw [decide_eq_true h]
    rcases h with rfl | rfl | rfl | rfl <;> rfl
  · rw [decide_eq_false h]
    have e1 : ((4 : Int) == m) = false := by simp; omega
    have e2 : ((6 : Int) == m) = false := by simp; omega
    have e3 : ((9 : Int) == m) = false := by simp; omega
    have e4 : ((11 : Int) == m) = false := by simp; omega
    simp [e1, e2, e3, e4]
theorem lawlen (y m : Int) : m__law_length [.d (.int y), .d (.int m)] = .ok (.d (.int (len y m))) [.un, .un] := by
  refine eqF (wF_run rfl ?_)
  simp only [b__law_length, r_lft, r_var, r_own, r_c, r_bin, r_binO, r_cmp, r_tcmp, r_tcmpO, r_tru, r_tand, r_tor, r_tnot, r_eif, r_nif, r_and, r_or, r_not, r_neg, r_cb, r_ncb, r_bm, r_bm0, r_tup, r_lst, r_anil, r_acons, r_aone, r_vnil, r_vcons, r_vslot, r_sl, r_onone, r_osome, r_chain, r_tchain, r_isi, r_iany, r_rg1, r_rg2, r_yes, r_frz, r_call, r_F, r_sif, r_snil, r_pass, r_break, r_cont, r_no, r_ret, r_retN, r_retNone, r_drop, r_dropN, r_asg, r_asgN, r_aug, r_stup, r_app, r_ext, r_setix, r_for, r_retOwn, wE_nComp, wE_ok, wS_nx, wS_rt, wS_bk, wS_ct, wS_seq, wV_d, wV_l, wO_d, wO_l, wL_some, wL_ite, wL_map, cB_true, cB_false, cB_not, wZ_d, wZ_l, wTk_some, wT_some, wipeE, tk_nil, tk_v, tk_s, putA, mask, d1, d2, tyD, okS_d, okS_l, lOf, asI, Option.isSome_some, Option.getD_some, Option.map_some, List.getElem?_cons_zero, List.getElem?_cons_succ, List.set_cons_zero, List.set_cons_succ, List.replicate_succ, List.replicate_zero, List.cons_append, List.nil_append, List.not_mem_nil, List.mem_cons, or_false, not_false_eq_true, true_and, decide_true, if_true, if_false, Bool.false_eq_true, reduceIte, Nat.reduceEqDiff, Nat.reduceAdd, Nat.reduceSub, Nat.reduceLeDiff, Nat.reduceLT, Int.reduceLT, Int.reduceLE, Int.reduceAdd, Int.reduceSub, Int.reduceEq, Int.reduceNeg, Nat.reduceMul, decide_false, Bool.not_true, Bool.not_false, and_true, true_or, or_true, Int.reduceMul, Int.reduceToNat, Nat.reducePow, Int.reducePow, Nat.not_lt_zero, r_par2, r_par3, wP2_c, wP3_c, r_fld, r_fldP, r_fldA, r_meth, r_make, r_pop, wFl_d, wNo_none, wMk_ok, oFs_o, okS_o, List.map_cons, List.map_nil, false_or, l_addI, l_addS, l_addL, l_addT, l_sub, l_div, l_mod, l_mulI, l_mulS, l_mulL, l_eqI, l_eqS, l_neI, l_neS, l_ltI, l_leI, l_gtI, l_geI, l_ltS, l_leS, l_gtS, l_geS, l_truI, l_truB, l_truL, l_truT, l_truN, l_truS, l_lenS, l_lenL, l_lenT, l_intI, l_absI, l_tupL, l_tupT, l_itL, l_itT, l_itS, l_rg1, l_rg2, l_ixL, l_ixT, l_ixS, at_0, at_1, at_2, at_3, set_0, set_1, set_2, set_3, List.length_cons, List.length_nil, Int.cast_ofNat_Int, Int.natCast_one, tgD_n, tgD_t, tgA_nil, tgA_cons, Option.bind_some, l_isSS, l_isST, l_isSL, l_isSI, l_isTT, l_isTS, l_isTL, l_isTI, l_isII, l_isBI, l_isLL, l_ord, lawleap, l_intB, l_inI]
  unfold len
  refine cB_dec (fun h1 => ?_) fun h1 => ?_
  · simp only [r_lft, r_var, r_own, r_c, r_bin, r_binO, r_cmp, r_tcmp, r_tcmpO, r_tru, r_tand, r_tor, r_tnot, r_eif, r_nif, r_and, r_or, r_not, r_neg, r_cb, r_ncb, r_bm, r_bm0, r_tup, r_lst, r_anil, r_acons, r_aone, r_vnil, r_vcons, r_vslot, r_sl, r_onone, r_osome, r_chain, r_tchain, r_isi, r_iany, r_rg1, r_rg2, r_yes, r_frz, r_call, r_F, r_sif, r_snil, r_pass, r_break, r_cont, r_no, r_ret, r_retN, r_retNone, r_drop, r_dropN, r_asg, r_asgN, r_aug, r_stup, r_app, r_ext, r_setix, r_for, r_retOwn, wE_nComp, wE_ok, wS_nx, wS_rt, wS_bk, wS_ct, wS_seq, wV_d, wV_l, wO_d, wO_l, wL_some, wL_ite, wL_map, cB_true, cB_false, cB_not, wZ_d, wZ_l, wTk_some, wT_some, wipeE, tk_nil, tk_v, tk_s, putA, mask, d1, d2, tyD, okS_d, okS_l, lOf, asI, Option.isSome_some, Option.getD_some, Option.map_some, List.getElem?_cons_zero, List.getElem?_cons_succ, List.set_cons_zero, List.set_cons_succ, List.replicate_succ, List.replicate_zero, List.cons_append, List.nil_append, List.not_mem_nil, List.mem_cons, or_false, not_false_eq_true, true_and, decide_true, if_true, if_false, Bool.false_eq_true, reduceIte, Nat.reduceEqDiff, Nat.reduceAdd, Nat.reduceSub, Nat.reduceLeDiff, Nat.reduceLT, Int.reduceLT, Int.reduceLE, Int.reduceAdd, Int.reduceSub, Int.reduceEq, Int.reduceNeg, Nat.reduceMul, decide_false, Bool.not_true, Bool.not_false, and_true, true_or, or_true, Int.reduceMul, Int.reduceToNat, Nat.reducePow, Int.reducePow, Nat.not_lt_zero, r_par2, r_par3, wP2_c, wP3_c, r_fld, r_fldP, r_fldA, r_meth, r_make, r_pop, wFl_d, wNo_none, wMk_ok, oFs_o, okS_o, List.map_cons, List.map_nil, false_or, l_addI, l_addS, l_addL, l_addT, l_sub, l_div, l_mod, l_mulI, l_mulS, l_mulL, l_eqI, l_eqS, l_neI, l_neS, l_ltI, l_leI, l_gtI, l_geI, l_ltS, l_leS, l_gtS, l_geS, l_truI, l_truB, l_truL, l_truT, l_truN, l_truS, l_lenS, l_lenL, l_lenT, l_intI, l_absI, l_tupL, l_tupT, l_itL, l_itT, l_itS, l_rg1, l_rg2, l_ixL, l_ixT, l_ixS, at_0, at_1, at_2, at_3, set_0, set_1, set_2, set_3, List.length_cons, List.length_nil, Int.cast_ofNat_Int, Int.natCast_one, tgD_n, tgD_t, tgA_nil, tgA_cons, Option.bind_some, l_isSS, l_isST, l_isSL, l_isSI, l_isTT, l_isTS, l_isTL, l_isTI, l_isII, l_isBI, l_isLL, l_ord, lawleap, l_intB]
    rw [if_pos h1]
    cases leap y <;> simp
  · simp only [r_lft, r_var, r_own, r_c, r_bin, r_binO, r_cmp, r_tcmp, r_tcmpO, r_tru, r_tand, r_tor, r_tnot, r_eif, r_nif, r_and, r_or, r_not, r_neg, r_cb, r_ncb, r_bm, r_bm0, r_tup, r_lst, r_anil, r_acons, r_aone, r_vnil, r_vcons, r_vslot, r_sl, r_onone, r_osome, r_chain, r_tchain, r_isi, r_iany, r_rg1, r_rg2, r_yes, r_frz, r_call, r_F, r_sif, r_snil, r_pass, r_break, r_cont, r_no, r_ret, r_retN, r_retNone, r_drop, r_dropN, r_asg, r_asgN, r_aug, r_stup, r_app, r_ext, r_setix, r_for, r_retOwn, wE_nComp, wE_ok, wS_nx, wS_rt, wS_bk, wS_ct, wS_seq, wV_d, wV_l, wO_d, wO_l, wL_some, wL_ite, wL_map, cB_true, cB_false, cB_not, wZ_d, wZ_l, wTk_some, wT_some, wipeE, tk_nil, tk_v, tk_s, putA, mask, d1, d2, tyD, okS_d, okS_l, lOf, asI, Option.isSome_some, Option.getD_some, Option.map_some, List.getElem?_cons_zero, List.getElem?_cons_succ, List.set_cons_zero, List.set_cons_succ, List.replicate_succ, List.replicate_zero, List.cons_append, List.nil_append, List.not_mem_nil, List.mem_cons, or_false, not_false_eq_true, true_and, decide_true, if_true, if_false, Bool.false_eq_true, reduceIte, Nat.reduceEqDiff, Nat.reduceAdd, Nat.reduceSub, Nat.reduceLeDiff, Nat.reduceLT, Int.reduceLT, Int.reduceLE, Int.reduceAdd, Int.reduceSub, Int.reduceEq, Int.reduceNeg, Nat.reduceMul, decide_false, Bool.not_true, Bool.not_false, and_true, true_or, or_true, Int.reduceMul, Int.reduceToNat, Nat.reducePow, Int.reducePow, Nat.not_lt_zero, r_par2, r_par3, wP2_c, wP3_c, r_fld, r_fldP, r_fldA, r_meth, r_make, r_pop, wFl_d, wNo_none, wMk_ok, oFs_o, okS_o, List.map_cons, List.map_nil, false_or, l_addI, l_addS, l_addL, l_addT, l_sub, l_div, l_mod, l_mulI, l_mulS, l_mulL, l_eqI, l_eqS, l_neI, l_neS, l_ltI, l_leI, l_gtI, l_geI, l_ltS, l_leS, l_gtS, l_geS, l_truI, l_truB, l_truL, l_truT, l_truN, l_truS, l_lenS, l_lenL, l_lenT, l_intI, l_absI, l_tupL, l_tupT, l_itL, l_itT, l_itS, l_rg1, l_rg2, l_ixL, l_ixT, l_ixS, at_0, at_1, at_2, at_3, set_0, set_1, set_2, set_3, List.length_cons, List.length_nil, Int.cast_ofNat_Int, Int.natCast_one, tgD_n, tgD_t, tgA_nil, tgA_cons, Option.bind_some, l_isSS, l_isST, l_isSL, l_isSI, l_isTT, l_isTS, l_isTL, l_isTI, l_isII, l_isBI, l_isLL, l_ord, lawleap, l_intB, l_inI]
    rw [if_neg h1]
    refine cB_dec (fun h2 => ?_) fun h2 => ?_
    · simp only [r_lft, r_var, r_own, r_c, r_bin, r_binO, r_cmp, r_tcmp, r_tcmpO, r_tru, r_tand, r_tor, r_tnot, r_eif, r_nif, r_and, r_or, r_not, r_neg, r_cb, r_ncb, r_bm, r_bm0, r_tup, r_lst, r_anil, r_acons, r_aone, r_vnil, r_vcons, r_vslot, r_sl, r_onone, r_osome, r_chain, r_tchain, r_isi, r_iany, r_rg1, r_rg2, r_yes, r_frz, r_call, r_F, r_sif, r_snil, r_pass, r_break, r_cont, r_no, r_ret, r_retN, r_retNone, r_drop, r_dropN, r_asg, r_asgN, r_aug, r_stup, r_app, r_ext, r_setix, r_for, r_retOwn, wE_nComp, wE_ok, wS_nx, wS_rt, wS_bk, wS_ct, wS_seq, wV_d, wV_l, wO_d, wO_l, wL_some, wL_ite, wL_map, cB_true, cB_false, cB_not, wZ_d, wZ_l, wTk_some, wT_some, wipeE, tk_nil, tk_v, tk_s, putA, mask, d1, d2, tyD, okS_d, okS_l, lOf, asI, Option.isSome_some, Option.getD_some, Option.map_some, List.getElem?_cons_zero, List.getElem?_cons_succ, List.set_cons_zero, List.set_cons_succ, List.replicate_succ, List.replicate_zero, List.cons_append, List.nil_append, List.not_mem_nil, List.mem_cons, or_false, not_false_eq_true, true_and, decide_true, if_true, if_false, Bool.false_eq_true, reduceIte, Nat.reduceEqDiff, Nat.reduceAdd, Nat.reduceSub, Nat.reduceLeDiff, Nat.reduceLT, Int.reduceLT, Int.reduceLE, Int.reduceAdd, Int.reduceSub, Int.reduceEq, Int.reduceNeg, Nat.reduceMul, decide_false, Bool.not_true, Bool.not_false, and_true, true_or, or_true, Int.reduceMul, Int.reduceToNat, Nat.reducePow, Int.reducePow, Nat.not_lt_zero, r_par2, r_par3, wP2_c, wP3_c, r_fld, r_fldP, r_fldA, r_meth, r_make, r_pop, wFl_d, wNo_none, wMk_ok, oFs_o, okS_o, List.map_cons, List.map_nil, false_or, l_addI, l_addS, l_addL, l_addT, l_sub, l_div, l_mod, l_mulI, l_mulS, l_mulL, l_eqI, l_eqS, l_neI, l_neS, l_ltI, l_leI, l_gtI, l_geI, l_ltS, l_leS, l_gtS, l_geS, l_truI, l_truB, l_truL, l_truT, l_truN, l_truS, l_lenS, l_lenL, l_lenT, l_intI, l_absI, l_tupL, l_tupT, l_itL, l_itT, l_itS, l_rg1, l_rg2, l_ixL, l_ixT, l_ixS, at_0, at_1, at_2, at_3, set_0, set_1, set_2, set_3, List.length_cons, List.length_nil, Int.cast_ofNat_Int, Int.natCast_one, tgD_n, tgD_t, tgA_nil, tgA_cons, Option.bind_some, l_isSS, l_isST, l_isSL, l_isSI, l_isTT, l_isTS, l_isTL, l_isTI, l_isII, l_isBI, l_isLL, l_ord]
      rw [if_pos h2]
    · simp only [r_lft, r_var, r_own, r_c, r_bin, r_binO, r_cmp, r_tcmp, r_tcmpO, r_tru, r_tand, r_tor, r_tnot, r_eif, r_nif, r_and, r_or, r_not, r_neg, r_cb, r_ncb, r_bm, r_bm0, r_tup, r_lst, r_anil, r_acons, r_aone, r_vnil, r_vcons, r_vslot, r_sl, r_onone, r_osome, r_chain, r_tchain, r_isi, r_iany, r_rg1, r_rg2, r_yes, r_frz, r_call, r_F, r_sif, r_snil, r_pass, r_break, r_cont, r_no, r_ret, r_retN, r_retNone, r_drop, r_dropN, r_asg, r_asgN, r_aug, r_stup, r_app, r_ext, r_setix, r_for, r_retOwn, wE_nComp, wE_ok, wS_nx, wS_rt, wS_bk, wS_ct, wS_seq, wV_d, wV_l, wO_d, wO_l, wL_some, wL_ite, wL_map, cB_true, cB_false, cB_not, wZ_d, wZ_l, wTk_some, wT_some, wipeE, tk_nil, tk_v, tk_s, putA, mask, d1, d2, tyD, okS_d, okS_l, lOf, asI, Option.isSome_some, Option.getD_some, Option.map_some, List.getElem?_cons_zero, List.getElem?_cons_succ, List.set_cons_zero, List.set_cons_succ, List.replicate_succ, List.replicate_zero, List.cons_append, List.nil_append, List.not_mem_nil, List.mem_cons, or_false, not_false_eq_true, true_and, decide_true, if_true, if_false, Bool.false_eq_true, reduceIte, Nat.reduceEqDiff, Nat.reduceAdd, Nat.reduceSub, Nat.reduceLeDiff, Nat.reduceLT, Int.reduceLT, Int.reduceLE, Int.reduceAdd, Int.reduceSub, Int.reduceEq, Int.reduceNeg, Nat.reduceMul, decide_false, Bool.not_true, Bool.not_false, and_true, true_or, or_true, Int.reduceMul, Int.reduceToNat, Nat.reducePow, Int.reducePow, Nat.not_lt_zero, r_par2, r_par3, wP2_c, wP3_c, r_fld, r_fldP, r_fldA, r_meth, r_make, r_pop, wFl_d, wNo_none, wMk_ok, oFs_o, okS_o, List.map_cons, List.map_nil, false_or, l_addI, l_addS, l_addL, l_addT, l_sub, l_div, l_mod, l_mulI, l_mulS, l_mulL, l_eqI, l_eqS, l_neI, l_neS, l_ltI, l_leI, l_gtI, l_geI, l_ltS, l_leS, l_gtS, l_geS, l_truI, l_truB, l_truL, l_truT, l_truN, l_truS, l_lenS, l_lenL, l_lenT, l_intI, l_absI, l_tupL, l_tupT, l_itL, l_itT, l_itS, l_rg1, l_rg2, l_ixL, l_ixT, l_ixS, at_0, at_1, at_2, at_3, set_0, set_1, set_2, set_3, List.length_cons, List.length_nil, Int.cast_ofNat_Int, Int.natCast_one, tgD_n, tgD_t, tgA_nil, tgA_cons, Option.bind_some, l_isSS, l_isST, l_isSL, l_isSI, l_isTT, l_isTS, l_isTL, l_isTI, l_isII, l_isBI, l_isLL, l_ord]
      rw [if_neg h2]
theorem lengthof {y m : Int} (h1 : 1 ≤ m) (h2 : m ≤ 12) : m_length_of [.d (.int y), .d (.int m)] = .ok (.d (.int (len y m))) [.un, .un] := by
  have : m = 1 ∨ m = 2 ∨ m = 3 ∨ m = 4 ∨ m = 5 ∨ m = 6 ∨ m = 7 ∨ m = 8 ∨ m = 9 ∨ m = 10 ∨ m = 11 ∨ m = 12 := by omega
  refine eqF (wF_run rfl ?_)
  rcases this with rfl | rfl | rfl | rfl | rfl | rfl | rfl | rfl | rfl | rfl | rfl | rfl
  all_goals
    simp only [b_length_of, r_lft, r_var, r_own, r_c, r_bin, r_binO, r_cmp, r_tcmp, r_tcmpO, r_tru, r_tand, r_tor, r_tnot, r_eif, r_nif, r_and, r_or, r_not, r_neg, r_cb, r_ncb, r_bm, r_bm0, r_tup, r_lst, r_anil, r_acons, r_aone, r_vnil, r_vcons, r_vslot, r_sl, r_onone, r_osome, r_chain, r_tchain, r_isi, r_iany, r_rg1, r_rg2, r_yes, r_frz, r_call, r_F, r_sif, r_snil, r_pass, r_break, r_cont, r_no, r_ret, r_retN, r_retNone, r_drop, r_dropN, r_asg, r_asgN, r_aug, r_stup, r_app, r_ext, r_setix, r_for, r_retOwn, wE_nComp, wE_ok, wS_nx, wS_rt, wS_bk, wS_ct, wS_seq, wV_d, wV_l, wO_d, wO_l, wL_some, wL_ite, wL_map, cB_true, cB_false, cB_not, wZ_d, wZ_l, wTk_some, wT_some, wipeE, tk_nil, tk_v, tk_s, putA, mask, d1, d2, tyD, okS_d, okS_l, lOf, asI, Option.isSome_some, Option.getD_some, Option.map_some, List.getElem?_cons_zero, List.getElem?_cons_succ, List.set_cons_zero, List.set_cons_succ, List.replicate_succ, List.replicate_zero, List.cons_append, List.nil_append, List.not_mem_nil, List.mem_cons, or_false, not_false_eq_true, true_and, decide_true, if_true, if_false, Bool.false_eq_true, reduceIte, Nat.reduceEqDiff, Nat.reduceAdd, Nat.reduceSub, Nat.reduceLeDiff, Nat.reduceLT, Int.reduceLT, Int.reduceLE, Int.reduceAdd, Int.reduceSub, Int.reduceEq, Int.reduceNeg, Nat.reduceMul, decide_false, Bool.not_true, Bool.not_false, and_true, true_or, or_true, Int.reduceMul, Int.reduceToNat, Nat.reducePow, Int.reducePow, Nat.not_lt_zero, r_par2, r_par3, wP2_c, wP3_c, r_fld, r_fldP, r_fldA, r_meth, r_make, r_pop, wFl_d, wNo_none, wMk_ok, oFs_o, okS_o, List.map_cons, List.map_nil, false_or, l_addI, l_addS, l_addL, l_addT, l_sub, l_div, l_mod, l_mulI, l_mulS, l_mulL, l_eqI, l_eqS, l_neI, l_neS, l_ltI, l_leI, l_gtI, l_geI, l_ltS, l_leS, l_gtS, l_geS, l_truI, l_truB, l_truL, l_truT, l_truN, l_truS, l_lenS, l_lenL, l_lenT, l_intI, l_absI, l_tupL, l_tupT, l_itL, l_itT, l_itS, l_rg1, l_rg2, l_ixL, l_ixT, l_ixS, at_0, at_1, at_2, at_3, set_0, set_1, set_2, set_3, List.length_cons, List.length_nil, Int.cast_ofNat_Int, Int.natCast_one, tgD_n, tgD_t, tgA_nil, tgA_cons, Option.bind_some, l_isSS, l_isST, l_isSL, l_isSI, l_isTT, l_isTS, l_isTL, l_isTI, l_isII, l_isBI, l_isLL, l_ord, isleap]
    try simp only [atI, ixN, List.length_cons, List.length_nil, Int.reduceSub, Int.reduceToNat, Int.reduceLE, if_true, Option.bind_some, List.getElem?_cons_succ, List.getElem?_cons_zero, r_lft, r_var, r_own, r_c, r_bin, r_binO, r_cmp, r_tcmp, r_tcmpO, r_tru, r_tand, r_tor, r_tnot, r_eif, r_nif, r_and, r_or, r_not, r_neg, r_cb, r_ncb, r_bm, r_bm0, r_tup, r_lst, r_anil, r_acons, r_aone, r_vnil, r_vcons, r_vslot, r_sl, r_onone, r_osome, r_chain, r_tchain, r_isi, r_iany, r_rg1, r_rg2, r_yes, r_frz, r_call, r_F, r_sif, r_snil, r_pass, r_break, r_cont, r_no, r_ret, r_retN, r_retNone, r_drop, r_dropN, r_asg, r_asgN, r_aug, r_stup, r_app, r_ext, r_setix, r_for, r_retOwn, wE_nComp, wE_ok, wS_nx, wS_rt, wS_bk, wS_ct, wS_seq, wV_d, wV_l, wO_d, wO_l, wL_some, wL_ite, wL_map, cB_true, cB_false, cB_not, wZ_d, wZ_l, wTk_some, wT_some, wipeE, tk_nil, tk_v, tk_s, putA, mask, d1, d2, tyD, okS_d, okS_l, lOf, asI, Option.isSome_some, Option.getD_some, Option.map_some, List.getElem?_cons_zero, List.getElem?_cons_succ, List.set_cons_zero, List.set_cons_succ, List.replicate_succ, List.replicate_zero, List.cons_append, List.nil_append, List.not_mem_nil, List.mem_cons, or_false, not_false_eq_true, true_and, decide_true, if_true, if_false, Bool.false_eq_true, reduceIte, Nat.reduceEqDiff, Nat.reduceAdd, Nat.reduceSub, Nat.reduceLeDiff, Nat.reduceLT, Int.reduceLT, Int.reduceLE, Int.reduceAdd, Int.reduceSub, Int.reduceEq, Int.reduceNeg, Nat.reduceMul, decide_false, Bool.not_true, Bool.not_false, and_true, true_or, or_true, Int.reduceMul, Int.reduceToNat, Nat.reducePow, Int.reducePow, Nat.not_lt_zero, r_par2, r_par3, wP2_c, wP3_c, r_fld, r_fldP, r_fldA, r_meth, r_make, r_pop, wFl_d, wNo_none, wMk_ok, oFs_o, okS_o, List.map_cons, List.map_nil, false_or, l_addI, l_addS, l_addL, l_addT, l_sub, l_div, l_mod, l_mulI, l_mulS, l_mulL, l_eqI, l_eqS, l_neI, l_neS, l_ltI, l_leI, l_gtI, l_geI, l_ltS, l_leS, l_gtS, l_geS, l_truI, l_truB, l_truL, l_truT, l_truN, l_truS, l_lenS, l_lenL, l_lenT, l_intI, l_absI, l_tupL, l_tupT, l_itL, l_itT, l_itS, l_rg1, l_rg2, l_ixL, l_ixT, l_ixS, at_0, at_1, at_2, at_3, set_0, set_1, set_2, set_3, List.length_cons, List.length_nil, Int.cast_ofNat_Int, Int.natCast_one, tgD_n, tgD_t, tgA_nil, tgA_cons, Option.bind_some, l_isSS, l_isST, l_isSL, l_isSI, l_isTT, l_isTS, l_isTL, l_isTI, l_isII, l_isBI, l_isLL, l_ord, isleap]
  all_goals first | (simp [len]; done) | (cases h : leap y <;> simp [len, h, cB]; done)
theorem yearsahead (y : Int) : m_years_ahead [.d (.int y)] = .ok (.d (.int (ya y))) [.un] := by
  refine eqF (wF_run rfl ?_)
  simp only [b_years_ahead, r_lft, r_var, r_own, r_c, r_bin, r_binO, r_cmp, r_tcmp, r_tcmpO, r_tru, r_tand, r_tor, r_tnot, r_eif, r_nif, r_and, r_or, r_not, r_neg, r_cb, r_ncb, r_bm, r_bm0, r_tup, r_lst, r_anil, r_acons, r_aone, r_vnil, r_vcons, r_vslot, r_sl, r_onone, r_osome, r_chain, r_tchain, r_isi, r_iany, r_rg1, r_rg2, r_yes, r_frz, r_call, r_F, r_sif, r_snil, r_pass, r_break, r_cont, r_no, r_ret, r_retN, r_retNone, r_drop, r_dropN, r_asg, r_asgN, r_aug, r_stup, r_app, r_ext, r_setix, r_for, r_retOwn, wE_nComp, wE_ok, wS_nx, wS_rt, wS_bk, wS_ct, wS_seq, wV_d, wV_l, wO_d, wO_l, wL_some, wL_ite, wL_map, cB_true, cB_false, cB_not, wZ_d, wZ_l, wTk_some, wT_some, wipeE, tk_nil, tk_v, tk_s, putA, mask, d1, d2, tyD, okS_d, okS_l, lOf, asI, Option.isSome_some, Option.getD_some, Option.map_some, List.getElem?_cons_zero, List.getElem?_cons_succ, List.set_cons_zero, List.set_cons_succ, List.replicate_succ, List.replicate_zero, List.cons_append, List.nil_append, List.not_mem_nil, List.mem_cons, or_false, not_false_eq_true, true_and, decide_true, if_true, if_false, Bool.false_eq_true, reduceIte, Nat.reduceEqDiff, Nat.reduceAdd, Nat.reduceSub, Nat.reduceLeDiff, Nat.reduceLT, Int.reduceLT, Int.reduceLE, Int.reduceAdd, Int.reduceSub, Int.reduceEq, Int.reduceNeg, Nat.reduceMul, decide_false, Bool.not_true, Bool.not_false, and_true, true_or, or_true, Int.reduceMul, Int.reduceToNat, Nat.reducePow, Int.reducePow, Nat.not_lt_zero, r_par2, r_par3, wP2_c, wP3_c, r_fld, r_fldP, r_fldA, r_meth, r_make, r_pop, wFl_d, wNo_none, wMk_ok, oFs_o, okS_o, List.map_cons, List.map_nil, false_or, l_addI, l_addS, l_addL, l_addT, l_sub, l_div, l_mod, l_mulI, l_mulS, l_mulL, l_eqI, l_eqS, l_neI, l_neS, l_ltI, l_leI, l_gtI, l_geI, l_ltS, l_leS, l_gtS, l_geS, l_truI, l_truB, l_truL, l_truT, l_truN, l_truS, l_lenS, l_lenL, l_lenT, l_intI, l_absI, l_tupL, l_tupT, l_itL, l_itT, l_itS, l_rg1, l_rg2, l_ixL, l_ixT, l_ixS, at_0, at_1, at_2, at_3, set_0, set_1, set_2, set_3, List.length_cons, List.length_nil, Int.cast_ofNat_Int, Int.natCast_one, tgD_n, tgD_t, tgA_nil, tgA_cons, Option.bind_some, l_isSS, l_isST, l_isSL, l_isSI, l_isTT, l_isTS, l_isTL, l_isTI, l_isII, l_isBI, l_isLL, l_ord]
  simp [ya]
/-! ### counting -/
/-- the first k months -/
def bmN (y : Int) : Nat → Int
  | 0 => 0
  | k + 1 => bmN y k + len y (1 + (k : Nat))
def bm (y m : Int) : Int := bmN y (m - 1).toNat
def num (y m d : Int) : Int := ya y + bm y m + d - 1 - 719162
theorem len_lo (y m : Int) : 28 ≤ len y m := by unfold len; split <;> split <;> omega
theorem len_hi (y m : Int) : len y m ≤ 31 := by unfold len; split <;> split <;> omega
theorem sumlen (y : Int) (k : Nat) : dSum (.list ((List.range k).filterMap fun i => some (PyData.int (len y (1 + (i : Nat)))))) = some (.int (bmN y k)) := by
  rw [fm_some (fun i : Nat => PyData.int (len y (1 + (i : Nat)))), show (fun i : Nat => PyData.int (len y (1 + (i : Nat)))) = PyData.int ∘ fun i : Nat => len y (1 + (i : Nat)) from rfl, ← List.map_map, l_sum]
  refine congrArg (fun z => some (PyData.int z)) ?_
  induction k with
  | zero => rfl
  | succ k ih => rw [List.range_succ, List.map_append, List.sum_append, ih]; simp [bmN]
theorem counts {y m d : Int} (h1 : 1 ≤ m) (h2 : m ≤ 12) : m_count [.d (.int y), .d (.int m), .d (.int d)] = .ok (.d (.int (num y m d))) [.un, .un, .un] := by
  refine eqF (wF_run rfl ?_)
  simp only [b_count, r_lft, r_var, r_own, r_c, r_bin, r_binO, r_cmp, r_tcmp, r_tcmpO, r_tru, r_tand, r_tor, r_tnot, r_eif, r_nif, r_and, r_or, r_not, r_neg, r_cb, r_ncb, r_bm, r_bm0, r_tup, r_lst, r_anil, r_acons, r_aone, r_vnil, r_vcons, r_vslot, r_sl, r_onone, r_osome, r_chain, r_tchain, r_isi, r_iany, r_rg1, r_rg2, r_yes, r_frz, r_call, r_F, r_sif, r_snil, r_pass, r_break, r_cont, r_no, r_ret, r_retN, r_retNone, r_drop, r_dropN, r_asg, r_asgN, r_aug, r_stup, r_app, r_ext, r_setix, r_for, r_retOwn, wE_nComp, wE_ok, wS_nx, wS_rt, wS_bk, wS_ct, wS_seq, wV_d, wV_l, wO_d, wO_l, wL_some, wL_ite, wL_map, cB_true, cB_false, cB_not, wZ_d, wZ_l, wTk_some, wT_some, wipeE, tk_nil, tk_v, tk_s, putA, mask, d1, d2, tyD, okS_d, okS_l, lOf, asI, Option.isSome_some, Option.getD_some, Option.map_some, List.getElem?_cons_zero, List.getElem?_cons_succ, List.set_cons_zero, List.set_cons_succ, List.replicate_succ, List.replicate_zero, List.cons_append, List.nil_append, List.not_mem_nil, List.mem_cons, or_false, not_false_eq_true, true_and, decide_true, if_true, if_false, Bool.false_eq_true, reduceIte, Nat.reduceEqDiff, Nat.reduceAdd, Nat.reduceSub, Nat.reduceLeDiff, Nat.reduceLT, Int.reduceLT, Int.reduceLE, Int.reduceAdd, Int.reduceSub, Int.reduceEq, Int.reduceNeg, Nat.reduceMul, decide_false, Bool.not_true, Bool.not_false, and_true, true_or, or_true, Int.reduceMul, Int.reduceToNat, Nat.reducePow, Int.reducePow, Nat.not_lt_zero, r_par2, r_par3, wP2_c, wP3_c, r_fld, r_fldP, r_fldA, r_meth, r_make, r_pop, wFl_d, wNo_none, wMk_ok, oFs_o, okS_o, List.map_cons, List.map_nil, false_or, l_addI, l_addS, l_addL, l_addT, l_sub, l_div, l_mod, l_mulI, l_mulS, l_mulL, l_eqI, l_eqS, l_neI, l_neS, l_ltI, l_leI, l_gtI, l_geI, l_ltS, l_leS, l_gtS, l_geS, l_truI, l_truB, l_truL, l_truT, l_truN, l_truS, l_lenS, l_lenL, l_lenT, l_intI, l_absI, l_tupL, l_tupT, l_itL, l_itT, l_itS, l_rg1, l_rg2, l_ixL, l_ixT, l_ixS, at_0, at_1, at_2, at_3, set_0, set_1, set_2, set_3, List.length_cons, List.length_nil, Int.cast_ofNat_Int, Int.natCast_one, tgD_n, tgD_t, tgA_nil, tgA_cons, Option.bind_some, l_isSS, l_isST, l_isSL, l_isSI, l_isTT, l_isTS, l_isTL, l_isTI, l_isII, l_isBI, l_isLL, l_ord, yearsahead]
  refine ⟨by omega, ?_⟩
  refine wE_compG [.d (.int y), .d (.int m), .d (.int d), .un] (fun i : Nat => PyData.int (1 + (i : Nat))) (fun i : Nat => some (.int (len y (1 + (i : Nat))))) (List.range (m - 1).toNat) rfl (by simp; omega) (fun i hi => ?_) ?_
  · have := List.mem_range.mp hi
    refine ⟨_, rfl, ?_⟩
    simp only [r_lft, r_var, r_own, r_c, r_bin, r_binO, r_cmp, r_tcmp, r_tcmpO, r_tru, r_tand, r_tor, r_tnot, r_eif, r_nif, r_and, r_or, r_not, r_neg, r_cb, r_ncb, r_bm, r_bm0, r_tup, r_lst, r_anil, r_acons, r_aone, r_vnil, r_vcons, r_vslot, r_sl, r_onone, r_osome, r_chain, r_tchain, r_isi, r_iany, r_rg1, r_rg2, r_yes, r_frz, r_call, r_F, r_sif, r_snil, r_pass, r_break, r_cont, r_no, r_ret, r_retN, r_retNone, r_drop, r_dropN, r_asg, r_asgN, r_aug, r_stup, r_app, r_ext, r_setix, r_for, r_retOwn, wE_nComp, wE_ok, wS_nx, wS_rt, wS_bk, wS_ct, wS_seq, wV_d, wV_l, wO_d, wO_l, wL_some, wL_ite, wL_map, cB_true, cB_false, cB_not, wZ_d, wZ_l, wTk_some, wT_some, wipeE, tk_nil, tk_v, tk_s, putA, mask, d1, d2, tyD, okS_d, okS_l, lOf, asI, Option.isSome_some, Option.getD_some, Option.map_some, List.getElem?_cons_zero, List.getElem?_cons_succ, List.set_cons_zero, List.set_cons_succ, List.replicate_succ, List.replicate_zero, List.cons_append, List.nil_append, List.not_mem_nil, List.mem_cons, or_false, not_false_eq_true, true_and, decide_true, if_true, if_false, Bool.false_eq_true, reduceIte, Nat.reduceEqDiff, Nat.reduceAdd, Nat.reduceSub, Nat.reduceLeDiff, Nat.reduceLT, Int.reduceLT, Int.reduceLE, Int.reduceAdd, Int.reduceSub, Int.reduceEq, Int.reduceNeg, Nat.reduceMul, decide_false, Bool.not_true, Bool.not_false, and_true, true_or, or_true, Int.reduceMul, Int.reduceToNat, Nat.reducePow, Int.reducePow, Nat.not_lt_zero, r_par2, r_par3, wP2_c, wP3_c, r_fld, r_fldP, r_fldA, r_meth, r_make, r_pop, wFl_d, wNo_none, wMk_ok, oFs_o, okS_o, List.map_cons, List.map_nil, false_or, l_addI, l_addS, l_addL, l_addT, l_sub, l_div, l_mod, l_mulI, l_mulS, l_mulL, l_eqI, l_eqS, l_neI, l_neS, l_ltI, l_leI, l_gtI, l_geI, l_ltS, l_leS, l_gtS, l_geS, l_truI, l_truB, l_truL, l_truT, l_truN, l_truS, l_lenS, l_lenL, l_lenT, l_intI, l_absI, l_tupL, l_tupT, l_itL, l_itT, l_itS, l_rg1, l_rg2, l_ixL, l_ixT, l_ixS, at_0, at_1, at_2, at_3, set_0, set_1, set_2, set_3, List.length_cons, List.length_nil, Int.cast_ofNat_Int, Int.natCast_one, tgD_n, tgD_t, tgA_nil, tgA_cons, Option.bind_some, l_isSS, l_isST, l_isSL, l_isSI, l_isTT, l_isTS, l_isTL, l_isTI, l_isII, l_isBI, l_isLL, l_ord, lengthof (y := y) (m := 1 + (i : Nat)) (by omega) (by omega)]
    try rfl
  · simp only [r_lft, r_var, r_own, r_c, r_bin, r_binO, r_cmp, r_tcmp, r_tcmpO, r_tru, r_tand, r_tor, r_tnot, r_eif, r_nif, r_and, r_or, r_not, r_neg, r_cb, r_ncb, r_bm, r_bm0, r_tup, r_lst, r_anil, r_acons, r_aone, r_vnil, r_vcons, r_vslot, r_sl, r_onone, r_osome, r_chain, r_tchain, r_isi, r_iany, r_rg1, r_rg2, r_yes, r_frz, r_call, r_F, r_sif, r_snil, r_pass, r_break, r_cont, r_no, r_ret, r_retN, r_retNone, r_drop, r_dropN, r_asg, r_asgN, r_aug, r_stup, r_app, r_ext, r_setix, r_for, r_retOwn, wE_nComp, wE_ok, wS_nx, wS_rt, wS_bk, wS_ct, wS_seq, wV_d, wV_l, wO_d, wO_l, wL_some, wL_ite, wL_map, cB_true, cB_false, cB_not, wZ_d, wZ_l, wTk_some, wT_some, wipeE, tk_nil, tk_v, tk_s, putA, mask, d1, d2, tyD, okS_d, okS_l, lOf, asI, Option.isSome_some, Option.getD_some, Option.map_some, List.getElem?_cons_zero, List.getElem?_cons_succ, List.set_cons_zero, List.set_cons_succ, List.replicate_succ, List.replicate_zero, List.cons_append, List.nil_append, List.not_mem_nil, List.mem_cons, or_false, not_false_eq_true, true_and, decide_true, if_true, if_false, Bool.false_eq_true, reduceIte, Nat.reduceEqDiff, Nat.reduceAdd, Nat.reduceSub, Nat.reduceLeDiff, Nat.reduceLT, Int.reduceLT, Int.reduceLE, Int.reduceAdd, Int.reduceSub, Int.reduceEq, Int.reduceNeg, Nat.reduceMul, decide_false, Bool.not_true, Bool.not_false, and_true, true_or, or_true, Int.reduceMul, Int.reduceToNat, Nat.reducePow, Int.reducePow, Nat.not_lt_zero, r_par2, r_par3, wP2_c, wP3_c, r_fld, r_fldP, r_fldA, r_meth, r_make, r_pop, wFl_d, wNo_none, wMk_ok, oFs_o, okS_o, List.map_cons, List.map_nil, false_or, l_addI, l_addS, l_addL, l_addT, l_sub, l_div, l_mod, l_mulI, l_mulS, l_mulL, l_eqI, l_eqS, l_neI, l_neS, l_ltI, l_leI, l_gtI, l_geI, l_ltS, l_leS, l_gtS, l_geS, l_truI, l_truB, l_truL, l_truT, l_truN, l_truS, l_lenS, l_lenL, l_lenT, l_intI, l_absI, l_tupL, l_tupT, l_itL, l_itT, l_itS, l_rg1, l_rg2, l_ixL, l_ixT, l_ixS, at_0, at_1, at_2, at_3, set_0, set_1, set_2, set_3, List.length_cons, List.length_nil, Int.cast_ofNat_Int, Int.natCast_one, tgD_n, tgD_t, tgA_nil, tgA_cons, Option.bind_some, l_isSS, l_isST, l_isSL, l_isSI, l_isTT, l_isTS, l_isTL, l_isTI, l_isII, l_isBI, l_isLL, l_ord, sumlen]
    simp [num, bm]
theorem ya_next (y : Int) : ya (y + 1) = ya y + 365 + if leap y = true then 1 else 0 := by
  unfold ya leap
  by_cases h : y % 4 = 0 ∧ (y % 100 ≠ 0 ∨ y % 400 = 0)
  · rw [decide_eq_true h, if_pos rfl]; omega
  · rw [decide_eq_false h, if_neg (by simp)]; omega
theorem ya_mono {a b : Int} (h : a ≤ b) : ya a ≤ ya b := by unfold ya; omega
theorem lawnumber {y m d : Int} (h0 : 1 ≤ y) (h3 : y ≤ 10000) (h1 : 1 ≤ m) (h2 : m ≤ 12) : m__law_number [.d (.int y), .d (.int m), .d (.int d)] = .ok (.d (.int (num y m d))) [.un, .un, .un] := by
  refine eqF (wF_run rfl ?_)
  simp only [b__law_number, r_lft, r_var, r_own, r_c, r_bin, r_binO, r_cmp, r_tcmp, r_tcmpO, r_tru, r_tand, r_tor, r_tnot, r_eif, r_nif, r_and, r_or, r_not, r_neg, r_cb, r_ncb, r_bm, r_bm0, r_tup, r_lst, r_anil, r_acons, r_aone, r_vnil, r_vcons, r_vslot, r_sl, r_onone, r_osome, r_chain, r_tchain, r_isi, r_iany, r_rg1, r_rg2, r_yes, r_frz, r_call, r_F, r_sif, r_snil, r_pass, r_break, r_cont, r_no, r_ret, r_retN, r_retNone, r_drop, r_dropN, r_asg, r_asgN, r_aug, r_stup, r_app, r_ext, r_setix, r_for, r_retOwn, wE_nComp, wE_ok, wS_nx, wS_rt, wS_bk, wS_ct, wS_seq, wV_d, wV_l, wO_d, wO_l, wL_some, wL_ite, wL_map, cB_true, cB_false, cB_not, wZ_d, wZ_l, wTk_some, wT_some, wipeE, tk_nil, tk_v, tk_s, putA, mask, d1, d2, tyD, okS_d, okS_l, lOf, asI, Option.isSome_some, Option.getD_some, Option.map_some, List.getElem?_cons_zero, List.getElem?_cons_succ, List.set_cons_zero, List.set_cons_succ, List.replicate_succ, List.replicate_zero, List.cons_append, List.nil_append, List.not_mem_nil, List.mem_cons, or_false, not_false_eq_true, true_and, decide_true, if_true, if_false, Bool.false_eq_true, reduceIte, Nat.reduceEqDiff, Nat.reduceAdd, Nat.reduceSub, Nat.reduceLeDiff, Nat.reduceLT, Int.reduceLT, Int.reduceLE, Int.reduceAdd, Int.reduceSub, Int.reduceEq, Int.reduceNeg, Nat.reduceMul, decide_false, Bool.not_true, Bool.not_false, and_true, true_or, or_true, Int.reduceMul, Int.reduceToNat, Nat.reducePow, Int.reducePow, Nat.not_lt_zero, r_par2, r_par3, wP2_c, wP3_c, r_fld, r_fldP, r_fldA, r_meth, r_make, r_pop, wFl_d, wNo_none, wMk_ok, oFs_o, okS_o, List.map_cons, List.map_nil, false_or, l_addI, l_addS, l_addL, l_addT, l_sub, l_div, l_mod, l_mulI, l_mulS, l_mulL, l_eqI, l_eqS, l_neI, l_neS, l_ltI, l_leI, l_gtI, l_geI, l_ltS, l_leS, l_gtS, l_geS, l_truI, l_truB, l_truL, l_truT, l_truN, l_truS, l_lenS, l_lenL, l_lenT, l_intI, l_absI, l_tupL, l_tupT, l_itL, l_itT, l_itS, l_rg1, l_rg2, l_ixL, l_ixT, l_ixS, at_0, at_1, at_2, at_3, set_0, set_1, set_2, set_3, List.length_cons, List.length_nil, Int.cast_ofNat_Int, Int.natCast_one, tgD_n, tgD_t, tgA_nil, tgA_cons, Option.bind_some, l_isSS, l_isST, l_isSL, l_isSI, l_isTT, l_isTS, l_isTL, l_isTI, l_isII, l_isBI, l_isLL, l_ord]
  have c0 : 0 ≤ (y - 1) / 400 := by omega
  have c1 : (y - 1) / 400 ≤ 24 := by omega
  have m0 : 0 ≤ (y - 1) % 400 := by omega
  have m1 : (y - 1) % 400 < 400 := by omega
  have key : 400 * ((y - 1) / 400) + 1 + (y - 1) % 400 = y := by omega
  simp only [r_lft, r_var, r_own, r_c, r_bin, r_binO, r_cmp, r_tcmp, r_tcmpO, r_tru, r_tand, r_tor, r_tnot, r_eif, r_nif, r_and, r_or, r_not, r_neg, r_cb, r_ncb, r_bm, r_bm0, r_tup, r_lst, r_anil, r_acons, r_aone, r_vnil, r_vcons, r_vslot, r_sl, r_onone, r_osome, r_chain, r_tchain, r_isi, r_iany, r_rg1, r_rg2, r_yes, r_frz, r_call, r_F, r_sif, r_snil, r_pass, r_break, r_cont, r_no, r_ret, r_retN, r_retNone, r_drop, r_dropN, r_asg, r_asgN, r_aug, r_stup, r_app, r_ext, r_setix, r_for, r_retOwn, wE_nComp, wE_ok, wS_nx, wS_rt, wS_bk, wS_ct, wS_seq, wV_d, wV_l, wO_d, wO_l, wL_some, wL_ite, wL_map, cB_true, cB_false, cB_not, wZ_d, wZ_l, wTk_some, wT_some, wipeE, tk_nil, tk_v, tk_s, putA, mask, d1, d2, tyD, okS_d, okS_l, lOf, asI, Option.isSome_some, Option.getD_some, Option.map_some, List.getElem?_cons_zero, List.getElem?_cons_succ, List.set_cons_zero, List.set_cons_succ, List.replicate_succ, List.replicate_zero, List.cons_append, List.nil_append, List.not_mem_nil, List.mem_cons, or_false, not_false_eq_true, true_and, decide_true, if_true, if_false, Bool.false_eq_true, reduceIte, Nat.reduceEqDiff, Nat.reduceAdd, Nat.reduceSub, Nat.reduceLeDiff, Nat.reduceLT, Int.reduceLT, Int.reduceLE, Int.reduceAdd, Int.reduceSub, Int.reduceEq, Int.reduceNeg, Nat.reduceMul, decide_false, Bool.not_true, Bool.not_false, and_true, true_or, or_true, Int.reduceMul, Int.reduceToNat, Nat.reducePow, Int.reducePow, Nat.not_lt_zero, r_par2, r_par3, wP2_c, wP3_c, r_fld, r_fldP, r_fldA, r_meth, r_make, r_pop, wFl_d, wNo_none, wMk_ok, oFs_o, okS_o, List.map_cons, List.map_nil, false_or, l_addI, l_addS, l_addL, l_addT, l_sub, l_div, l_mod, l_mulI, l_mulS, l_mulL, l_eqI, l_eqS, l_neI, l_neS, l_ltI, l_leI, l_gtI, l_geI, l_ltS, l_leS, l_gtS, l_geS, l_truI, l_truB, l_truL, l_truT, l_truN, l_truS, l_lenS, l_lenL, l_lenT, l_intI, l_absI, l_tupL, l_tupT, l_itL, l_itT, l_itS, l_rg1, l_rg2, l_ixL, l_ixT, l_ixS, at_0, at_1, at_2, at_3, set_0, set_1, set_2, set_3, List.length_cons, List.length_nil, Int.cast_ofNat_Int, Int.natCast_one, tgD_n, tgD_t, tgA_nil, tgA_cons, Option.bind_some, l_isSS, l_isST, l_isSL, l_isSI, l_isTT, l_isTS, l_isTL, l_isTI, l_isII, l_isBI, l_isLL, l_ord, key]
  refine ⟨by omega, ?_⟩
  refine wS_rng (fun i e => ∃ q6, e = [.d (.int y), .d (.int m), .d (.int d), .d (.int ((y - 1) / 400)), .d (.int ((y - 1) % 400)), .d (.int (ya i)), q6]) (by omega) ?_ ?_ _ ⟨.un, ?_⟩
  · rintro i e g1 g2 ⟨q6, rfl⟩
    refine ⟨_, rfl, ?_⟩
    simp only [r_lft, r_var, r_own, r_c, r_bin, r_binO, r_cmp, r_tcmp, r_tcmpO, r_tru, r_tand, r_tor, r_tnot, r_eif, r_nif, r_and, r_or, r_not, r_neg, r_cb, r_ncb, r_bm, r_bm0, r_tup, r_lst, r_anil, r_acons, r_aone, r_vnil, r_vcons, r_vslot, r_sl, r_onone, r_osome, r_chain, r_tchain, r_isi, r_iany, r_rg1, r_rg2, r_yes, r_frz, r_call, r_F, r_sif, r_snil, r_pass, r_break, r_cont, r_no, r_ret, r_retN, r_retNone, r_drop, r_dropN, r_asg, r_asgN, r_aug, r_stup, r_app, r_ext, r_setix, r_for, r_retOwn, wE_nComp, wE_ok, wS_nx, wS_rt, wS_bk, wS_ct, wS_seq, wV_d, wV_l, wO_d, wO_l, wL_some, wL_ite, wL_map, cB_true, cB_false, cB_not, wZ_d, wZ_l, wTk_some, wT_some, wipeE, tk_nil, tk_v, tk_s, putA, mask, d1, d2, tyD, okS_d, okS_l, lOf, asI, Option.isSome_some, Option.getD_some, Option.map_some, List.getElem?_cons_zero, List.getElem?_cons_succ, List.set_cons_zero, List.set_cons_succ, List.replicate_succ, List.replicate_zero, List.cons_append, List.nil_append, List.not_mem_nil, List.mem_cons, or_false, not_false_eq_true, true_and, decide_true, if_true, if_false, Bool.false_eq_true, reduceIte, Nat.reduceEqDiff, Nat.reduceAdd, Nat.reduceSub, Nat.reduceLeDiff, Nat.reduceLT, Int.reduceLT, Int.reduceLE, Int.reduceAdd, Int.reduceSub, Int.reduceEq, Int.reduceNeg, Nat.reduceMul, decide_false, Bool.not_true, Bool.not_false, and_true, true_or, or_true, Int.reduceMul, Int.reduceToNat, Nat.reducePow, Int.reducePow, Nat.not_lt_zero, r_par2, r_par3, wP2_c, wP3_c, r_fld, r_fldP, r_fldA, r_meth, r_make, r_pop, wFl_d, wNo_none, wMk_ok, oFs_o, okS_o, List.map_cons, List.map_nil, false_or, l_addI, l_addS, l_addL, l_addT, l_sub, l_div, l_mod, l_mulI, l_mulS, l_mulL, l_eqI, l_eqS, l_neI, l_neS, l_ltI, l_leI, l_gtI, l_geI, l_ltS, l_leS, l_gtS, l_geS, l_truI, l_truB, l_truL, l_truT, l_truN, l_truS, l_lenS, l_lenL, l_lenT, l_intI, l_absI, l_tupL, l_tupT, l_itL, l_itT, l_itS, l_rg1, l_rg2, l_ixL, l_ixT, l_ixS, at_0, at_1, at_2, at_3, set_0, set_1, set_2, set_3, List.length_cons, List.length_nil, Int.cast_ofNat_Int, Int.natCast_one, tgD_n, tgD_t, tgA_nil, tgA_cons, Option.bind_some, l_isSS, l_isST, l_isSL, l_isSI, l_isTT, l_isTS, l_isTL, l_isTI, l_isII, l_isBI, l_isLL, l_ord, lawleap, l_intB]
    exact ⟨_, by rw [ya_next]⟩
  · rintro e ⟨q6, rfl⟩
    simp only [r_lft, r_var, r_own, r_c, r_bin, r_binO, r_cmp, r_tcmp, r_tcmpO, r_tru, r_tand, r_tor, r_tnot, r_eif, r_nif, r_and, r_or, r_not, r_neg, r_cb, r_ncb, r_bm, r_bm0, r_tup, r_lst, r_anil, r_acons, r_aone, r_vnil, r_vcons, r_vslot, r_sl, r_onone, r_osome, r_chain, r_tchain, r_isi, r_iany, r_rg1, r_rg2, r_yes, r_frz, r_call, r_F, r_sif, r_snil, r_pass, r_break, r_cont, r_no, r_ret, r_retN, r_retNone, r_drop, r_dropN, r_asg, r_asgN, r_aug, r_stup, r_app, r_ext, r_setix, r_for, r_retOwn, wE_nComp, wE_ok, wS_nx, wS_rt, wS_bk, wS_ct, wS_seq, wV_d, wV_l, wO_d, wO_l, wL_some, wL_ite, wL_map, cB_true, cB_false, cB_not, wZ_d, wZ_l, wTk_some, wT_some, wipeE, tk_nil, tk_v, tk_s, putA, mask, d1, d2, tyD, okS_d, okS_l, lOf, asI, Option.isSome_some, Option.getD_some, Option.map_some, List.getElem?_cons_zero, List.getElem?_cons_succ, List.set_cons_zero, List.set_cons_succ, List.replicate_succ, List.replicate_zero, List.cons_append, List.nil_append, List.not_mem_nil, List.mem_cons, or_false, not_false_eq_true, true_and, decide_true, if_true, if_false, Bool.false_eq_true, reduceIte, Nat.reduceEqDiff, Nat.reduceAdd, Nat.reduceSub, Nat.reduceLeDiff, Nat.reduceLT, Int.reduceLT, Int.reduceLE, Int.reduceAdd, Int.reduceSub, Int.reduceEq, Int.reduceNeg, Nat.reduceMul, decide_false, Bool.not_true, Bool.not_false, and_true, true_or, or_true, Int.reduceMul, Int.reduceToNat, Nat.reducePow, Int.reducePow, Nat.not_lt_zero, r_par2, r_par3, wP2_c, wP3_c, r_fld, r_fldP, r_fldA, r_meth, r_make, r_pop, wFl_d, wNo_none, wMk_ok, oFs_o, okS_o, List.map_cons, List.map_nil, false_or, l_addI, l_addS, l_addL, l_addT, l_sub, l_div, l_mod, l_mulI, l_mulS, l_mulL, l_eqI, l_eqS, l_neI, l_neS, l_ltI, l_leI, l_gtI, l_geI, l_ltS, l_leS, l_gtS, l_geS, l_truI, l_truB, l_truL, l_truT, l_truN, l_truS, l_lenS, l_lenL, l_lenT, l_intI, l_absI, l_tupL, l_tupT, l_itL, l_itT, l_itS, l_rg1, l_rg2, l_ixL, l_ixT, l_ixS, at_0, at_1, at_2, at_3, set_0, set_1, set_2, set_3, List.length_cons, List.length_nil, Int.cast_ofNat_Int, Int.natCast_one, tgD_n, tgD_t, tgA_nil, tgA_cons, Option.bind_some, l_isSS, l_isST, l_isSL, l_isSI, l_isTT, l_isTS, l_isTL, l_isTI, l_isII, l_isBI, l_isLL, l_ord]
    refine ⟨by omega, ?_⟩
    refine wE_compG [.d (.int y), .d (.int m), .d (.int d), .d (.int ((y - 1) / 400)), .d (.int ((y - 1) % 400)), .d (.int (ya y)), .un] (fun i : Nat => PyData.int (1 + (i : Nat))) (fun i : Nat => some (.int (len y (1 + (i : Nat))))) (List.range (m - 1).toNat) rfl (by simp; omega) (fun i hi => ?_) ?_
    · refine ⟨_, rfl, ?_⟩
      simp only [r_lft, r_var, r_own, r_c, r_bin, r_binO, r_cmp, r_tcmp, r_tcmpO, r_tru, r_tand, r_tor, r_tnot, r_eif, r_nif, r_and, r_or, r_not, r_neg, r_cb, r_ncb, r_bm, r_bm0, r_tup, r_lst, r_anil, r_acons, r_aone, r_vnil, r_vcons, r_vslot, r_sl, r_onone, r_osome, r_chain, r_tchain, r_isi, r_iany, r_rg1, r_rg2, r_yes, r_frz, r_call, r_F, r_sif, r_snil, r_pass, r_break, r_cont, r_no, r_ret, r_retN, r_retNone, r_drop, r_dropN, r_asg, r_asgN, r_aug, r_stup, r_app, r_ext, r_setix, r_for, r_retOwn, wE_nComp, wE_ok, wS_nx, wS_rt, wS_bk, wS_ct, wS_seq, wV_d, wV_l, wO_d, wO_l, wL_some, wL_ite, wL_map, cB_true, cB_false, cB_not, wZ_d, wZ_l, wTk_some, wT_some, wipeE, tk_nil, tk_v, tk_s, putA, mask, d1, d2, tyD, okS_d, okS_l, lOf, asI, Option.isSome_some, Option.getD_some, Option.map_some, List.getElem?_cons_zero, List.getElem?_cons_succ, List.set_cons_zero, List.set_cons_succ, List.replicate_succ, List.replicate_zero, List.cons_append, List.nil_append, List.not_mem_nil, List.mem_cons, or_false, not_false_eq_true, true_and, decide_true, if_true, if_false, Bool.false_eq_true, reduceIte, Nat.reduceEqDiff, Nat.reduceAdd, Nat.reduceSub, Nat.reduceLeDiff, Nat.reduceLT, Int.reduceLT, Int.reduceLE, Int.reduceAdd, Int.reduceSub, Int.reduceEq, Int.reduceNeg, Nat.reduceMul, decide_false, Bool.not_true, Bool.not_false, and_true, true_or, or_true, Int.reduceMul, Int.reduceToNat, Nat.reducePow, Int.reducePow, Nat.not_lt_zero, r_par2, r_par3, wP2_c, wP3_c, r_fld, r_fldP, r_fldA, r_meth, r_make, r_pop, wFl_d, wNo_none, wMk_ok, oFs_o, okS_o, List.map_cons, List.map_nil, false_or, l_addI, l_addS, l_addL, l_addT, l_sub, l_div, l_mod, l_mulI, l_mulS, l_mulL, l_eqI, l_eqS, l_neI, l_neS, l_ltI, l_leI, l_gtI, l_geI, l_ltS, l_leS, l_gtS, l_geS, l_truI, l_truB, l_truL, l_truT, l_truN, l_truS, l_lenS, l_lenL, l_lenT, l_intI, l_absI, l_tupL, l_tupT, l_itL, l_itT, l_itS, l_rg1, l_rg2, l_ixL, l_ixT, l_ixS, at_0, at_1, at_2, at_3, set_0, set_1, set_2, set_3, List.length_cons, List.length_nil, Int.cast_ofNat_Int, Int.natCast_one, tgD_n, tgD_t, tgA_nil, tgA_cons, Option.bind_some, l_isSS, l_isST, l_isSL, l_isSI, l_isTT, l_isTS, l_isTL, l_isTI, l_isII, l_isBI, l_isLL, l_ord, lawlen]
      try rfl
    · simp only [r_lft, r_var, r_own, r_c, r_bin, r_binO, r_cmp, r_tcmp, r_tcmpO, r_tru, r_tand, r_tor, r_tnot, r_eif, r_nif, r_and, r_or, r_not, r_neg, r_cb, r_ncb, r_bm, r_bm0, r_tup, r_lst, r_anil, r_acons, r_aone, r_vnil, r_vcons, r_vslot, r_sl, r_onone, r_osome, r_chain, r_tchain, r_isi, r_iany, r_rg1, r_rg2, r_yes, r_frz, r_call, r_F, r_sif, r_snil, r_pass, r_break, r_cont, r_no, r_ret, r_retN, r_retNone, r_drop, r_dropN, r_asg, r_asgN, r_aug, r_stup, r_app, r_ext, r_setix, r_for, r_retOwn, wE_nComp, wE_ok, wS_nx, wS_rt, wS_bk, wS_ct, wS_seq, wV_d, wV_l, wO_d, wO_l, wL_some, wL_ite, wL_map, cB_true, cB_false, cB_not, wZ_d, wZ_l, wTk_some, wT_some, wipeE, tk_nil, tk_v, tk_s, putA, mask, d1, d2, tyD, okS_d, okS_l, lOf, asI, Option.isSome_some, Option.getD_some, Option.map_some, List.getElem?_cons_zero, List.getElem?_cons_succ, List.set_cons_zero, List.set_cons_succ, List.replicate_succ, List.replicate_zero, List.cons_append, List.nil_append, List.not_mem_nil, List.mem_cons, or_false, not_false_eq_true, true_and, decide_true, if_true, if_false, Bool.false_eq_true, reduceIte, Nat.reduceEqDiff, Nat.reduceAdd, Nat.reduceSub, Nat.reduceLeDiff, Nat.reduceLT, Int.reduceLT, Int.reduceLE, Int.reduceAdd, Int.reduceSub, Int.reduceEq, Int.reduceNeg, Nat.reduceMul, decide_false, Bool.not_true, Bool.not_false, and_true, true_or, or_true, Int.reduceMul, Int.reduceToNat, Nat.reducePow, Int.reducePow, Nat.not_lt_zero, r_par2, r_par3, wP2_c, wP3_c, r_fld, r_fldP, r_fldA, r_meth, r_make, r_pop, wFl_d, wNo_none, wMk_ok, oFs_o, okS_o, List.map_cons, List.map_nil, false_or, l_addI, l_addS, l_addL, l_addT, l_sub, l_div, l_mod, l_mulI, l_mulS, l_mulL, l_eqI, l_eqS, l_neI, l_neS, l_ltI, l_leI, l_gtI, l_geI, l_ltS, l_leS, l_gtS, l_geS, l_truI, l_truB, l_truL, l_truT, l_truN, l_truS, l_lenS, l_lenL, l_lenT, l_intI, l_absI, l_tupL, l_tupT, l_itL, l_itT, l_itS, l_rg1, l_rg2, l_ixL, l_ixT, l_ixS, at_0, at_1, at_2, at_3, set_0, set_1, set_2, set_3, List.length_cons, List.length_nil, Int.cast_ofNat_Int, Int.natCast_one, tgD_n, tgD_t, tgA_nil, tgA_cons, Option.bind_some, l_isSS, l_isST, l_isSL, l_isSI, l_isTT, l_isTS, l_isTL, l_isTI, l_isII, l_isBI, l_isLL, l_ord, sumlen]
      simp [num, bm]
  · rw [show ya (400 * ((y - 1) / 400) + 1) = (y - 1) / 400 * 146097 by unfold ya; omega]
/-! ### dates -/
def Ok (y m d : Int) : Prop := 1 ≤ y ∧ y ≤ 9999 ∧ 1 ≤ m ∧ m ≤ 12 ∧ 1 ≤ d ∧ d ≤ len y m
theorem bm_next {y m : Int} (h : 1 ≤ m) : bm y (m + 1) = bm y m + len y m := by
  unfold bm
  rw [show (m + 1 - 1).toNat = (m - 1).toNat + 1 by omega, bmN]
  rw [show (1 + ((m - 1).toNat : Nat) : Int) = m by omega]
theorem bm_13 (y : Int) : bm y 13 = 365 + if leap y = true then 1 else 0 := by
  show bmN y 12 = _
  simp only [bmN, len]
  cases leap y <;> decide
theorem bm_mono {y m : Int} (h : 1 ≤ m) : ∀ k : Nat, bm y m ≤ bm y (m + (k : Nat))
  | 0 => by simp
  | k + 1 => by
    have := bm_mono (y := y) h k
    have e := bm_next (y := y) (m := m + (k : Nat)) (by omega)
    have := len_lo y (m + (k : Nat))
    rw [show m + ((k + 1 : Nat) : Int) = m + (k : Nat) + 1 by omega, e]
    omega
theorem bm_le {y m n : Int} (h : 1 ≤ m) (hn : m ≤ n) : bm y m ≤ bm y n := by
  have := bm_mono (y := y) h (n - m).toNat
  rw [show m + (((n - m).toNat : Nat) : Int) = n by omega] at this
  exact this
theorem bm_one (y : Int) : bm y 1 = 0 := rfl
/-- the day of the year -/
theorem doy {y m d : Int} (h : Ok y m d) : 0 ≤ bm y m + d - 1 ∧ bm y m + d ≤ 365 + if leap y = true then 1 else 0 := by
  obtain ⟨h1, h2, h3, h4, h5, h6⟩ := h
  have a := bm_le (y := y) (m := 1) (n := m) (by omega) h3
  have b := bm_le (y := y) (m := m + 1) (n := 13) (by omega) (by omega)
  rw [bm_one] at a
  rw [bm_next h3, bm_13] at b
  constructor <;> omega
theorem year_at {y m d : Int} (h : Ok y m d) : ya y ≤ num y m d + 719162 ∧ num y m d + 719162 < ya (y + 1) := by
  have := doy h
  rw [ya_next]
  unfold num
  constructor <;> omega
theorem num_lo {y m d : Int} (h : Ok y m d) : -719162 ≤ num y m d := by
  have := (year_at h).1
  have := ya_mono h.1
  have : ya 1 = 0 := by decide
  omega
theorem num_hi {y m d : Int} (h : Ok y m d) : num y m d < 2932897 := by
  have := (year_at h).2
  have := ya_mono (show y + 1 ≤ 10000 by have := h.2.1; omega)
  have : ya 10000 = 3652059 := by decide
  omega
theorem isint (i : Int) : m_is_integer [.d (.int i)] = .ok (.d (.bool true)) [.un] := by
  refine eqF (wF_run rfl ?_)
  simp only [b_is_integer, r_lft, r_var, r_own, r_c, r_bin, r_binO, r_cmp, r_tcmp, r_tcmpO, r_tru, r_tand, r_tor, r_tnot, r_eif, r_nif, r_and, r_or, r_not, r_neg, r_cb, r_ncb, r_bm, r_bm0, r_tup, r_lst, r_anil, r_acons, r_aone, r_vnil, r_vcons, r_vslot, r_sl, r_onone, r_osome, r_chain, r_tchain, r_isi, r_iany, r_rg1, r_rg2, r_yes, r_frz, r_call, r_F, r_sif, r_snil, r_pass, r_break, r_cont, r_no, r_ret, r_retN, r_retNone, r_drop, r_dropN, r_asg, r_asgN, r_aug, r_stup, r_app, r_ext, r_setix, r_for, r_retOwn, wE_nComp, wE_ok, wS_nx, wS_rt, wS_bk, wS_ct, wS_seq, wV_d, wV_l, wO_d, wO_l, wL_some, wL_ite, wL_map, cB_true, cB_false, cB_not, wZ_d, wZ_l, wTk_some, wT_some, wipeE, tk_nil, tk_v, tk_s, putA, mask, d1, d2, tyD, okS_d, okS_l, lOf, asI, Option.isSome_some, Option.getD_some, Option.map_some, List.getElem?_cons_zero, List.getElem?_cons_succ, List.set_cons_zero, List.set_cons_succ, List.replicate_succ, List.replicate_zero, List.cons_append, List.nil_append, List.not_mem_nil, List.mem_cons, or_false, not_false_eq_true, true_and, decide_true, if_true, if_false, Bool.false_eq_true, reduceIte, Nat.reduceEqDiff, Nat.reduceAdd, Nat.reduceSub, Nat.reduceLeDiff, Nat.reduceLT, Int.reduceLT, Int.reduceLE, Int.reduceAdd, Int.reduceSub, Int.reduceEq, Int.reduceNeg, Nat.reduceMul, decide_false, Bool.not_true, Bool.not_false, and_true, true_or, or_true, Int.reduceMul, Int.reduceToNat, Nat.reducePow, Int.reducePow, Nat.not_lt_zero, r_par2, r_par3, wP2_c, wP3_c, r_fld, r_fldP, r_fldA, r_meth, r_make, r_pop, wFl_d, wNo_none, wMk_ok, oFs_o, okS_o, List.map_cons, List.map_nil, false_or, l_addI, l_addS, l_addL, l_addT, l_sub, l_div, l_mod, l_mulI, l_mulS, l_mulL, l_eqI, l_eqS, l_neI, l_neS, l_ltI, l_leI, l_gtI, l_geI, l_ltS, l_leS, l_gtS, l_geS, l_truI, l_truB, l_truL, l_truT, l_truN, l_truS, l_lenS, l_lenL, l_lenT, l_intI, l_absI, l_tupL, l_tupT, l_itL, l_itT, l_itS, l_rg1, l_rg2, l_ixL, l_ixT, l_ixS, at_0, at_1, at_2, at_3, set_0, set_1, set_2, set_3, List.length_cons, List.length_nil, Int.cast_ofNat_Int, Int.natCast_one, tgD_n, tgD_t, tgA_nil, tgA_cons, Option.bind_some, l_isSS, l_isST, l_isSL, l_isSI, l_isTT, l_isTS, l_isTL, l_isTI, l_isII, l_isBI, l_isLL, l_ord]
theorem checkdays {n : Int} (h1 : -719162 ≤ n) (h2 : n < 2932897) : m_check_days [.d (.int n)] = .ok (.d .none) [.un] := by
  have e1 : decide (-719162 ≤ n) = true := decide_eq_true h1
  have e2 : decide (n < 2932897) = true := decide_eq_true h2
  refine eqF (wF_run rfl ?_)
  simp only [b_check_days, r_lft, r_var, r_own, r_c, r_bin, r_binO, r_cmp, r_tcmp, r_tcmpO, r_tru, r_tand, r_tor, r_tnot, r_eif, r_nif, r_and, r_or, r_not, r_neg, r_cb, r_ncb, r_bm, r_bm0, r_tup, r_lst, r_anil, r_acons, r_aone, r_vnil, r_vcons, r_vslot, r_sl, r_onone, r_osome, r_chain, r_tchain, r_isi, r_iany, r_rg1, r_rg2, r_yes, r_frz, r_call, r_F, r_sif, r_snil, r_pass, r_break, r_cont, r_no, r_ret, r_retN, r_retNone, r_drop, r_dropN, r_asg, r_asgN, r_aug, r_stup, r_app, r_ext, r_setix, r_for, r_retOwn, wE_nComp, wE_ok, wS_nx, wS_rt, wS_bk, wS_ct, wS_seq, wV_d, wV_l, wO_d, wO_l, wL_some, wL_ite, wL_map, cB_true, cB_false, cB_not, wZ_d, wZ_l, wTk_some, wT_some, wipeE, tk_nil, tk_v, tk_s, putA, mask, d1, d2, tyD, okS_d, okS_l, lOf, asI, Option.isSome_some, Option.getD_some, Option.map_some, List.getElem?_cons_zero, List.getElem?_cons_succ, List.set_cons_zero, List.set_cons_succ, List.replicate_succ, List.replicate_zero, List.cons_append, List.nil_append, List.not_mem_nil, List.mem_cons, or_false, not_false_eq_true, true_and, decide_true, if_true, if_false, Bool.false_eq_true, reduceIte, Nat.reduceEqDiff, Nat.reduceAdd, Nat.reduceSub, Nat.reduceLeDiff, Nat.reduceLT, Int.reduceLT, Int.reduceLE, Int.reduceAdd, Int.reduceSub, Int.reduceEq, Int.reduceNeg, Nat.reduceMul, decide_false, Bool.not_true, Bool.not_false, and_true, true_or, or_true, Int.reduceMul, Int.reduceToNat, Nat.reducePow, Int.reducePow, Nat.not_lt_zero, r_par2, r_par3, wP2_c, wP3_c, r_fld, r_fldP, r_fldA, r_meth, r_make, r_pop, wFl_d, wNo_none, wMk_ok, oFs_o, okS_o, List.map_cons, List.map_nil, false_or, l_addI, l_addS, l_addL, l_addT, l_sub, l_div, l_mod, l_mulI, l_mulS, l_mulL, l_eqI, l_eqS, l_neI, l_neS, l_ltI, l_leI, l_gtI, l_geI, l_ltS, l_leS, l_gtS, l_geS, l_truI, l_truB, l_truL, l_truT, l_truN, l_truS, l_lenS, l_lenL, l_lenT, l_intI, l_absI, l_tupL, l_tupT, l_itL, l_itT, l_itS, l_rg1, l_rg2, l_ixL, l_ixT, l_ixS, at_0, at_1, at_2, at_3, set_0, set_1, set_2, set_3, List.length_cons, List.length_nil, Int.cast_ofNat_Int, Int.natCast_one, tgD_n, tgD_t, tgA_nil, tgA_cons, Option.bind_some, l_isSS, l_isST, l_isSL, l_isSI, l_isTT, l_isTS, l_isTL, l_isTI, l_isII, l_isBI, l_isLL, l_ord, isint]
  simp only [r_lft, r_var, r_own, r_c, r_bin, r_binO, r_cmp, r_tcmp, r_tcmpO, r_tru, r_tand, r_tor, r_tnot, r_eif, r_nif, r_and, r_or, r_not, r_neg, r_cb, r_ncb, r_bm, r_bm0, r_tup, r_lst, r_anil, r_acons, r_aone, r_vnil, r_vcons, r_vslot, r_sl, r_onone, r_osome, r_chain, r_tchain, r_isi, r_iany, r_rg1, r_rg2, r_yes, r_frz, r_call, r_F, r_sif, r_snil, r_pass, r_break, r_cont, r_no, r_ret, r_retN, r_retNone, r_drop, r_dropN, r_asg, r_asgN, r_aug, r_stup, r_app, r_ext, r_setix, r_for, r_retOwn, wE_nComp, wE_ok, wS_nx, wS_rt, wS_bk, wS_ct, wS_seq, wV_d, wV_l, wO_d, wO_l, wL_some, wL_ite, wL_map, cB_true, cB_false, cB_not, wZ_d, wZ_l, wTk_some, wT_some, wipeE, tk_nil, tk_v, tk_s, putA, mask, d1, d2, tyD, okS_d, okS_l, lOf, asI, Option.isSome_some, Option.getD_some, Option.map_some, List.getElem?_cons_zero, List.getElem?_cons_succ, List.set_cons_zero, List.set_cons_succ, List.replicate_succ, List.replicate_zero, List.cons_append, List.nil_append, List.not_mem_nil, List.mem_cons, or_false, not_false_eq_true, true_and, decide_true, if_true, if_false, Bool.false_eq_true, reduceIte, Nat.reduceEqDiff, Nat.reduceAdd, Nat.reduceSub, Nat.reduceLeDiff, Nat.reduceLT, Int.reduceLT, Int.reduceLE, Int.reduceAdd, Int.reduceSub, Int.reduceEq, Int.reduceNeg, Nat.reduceMul, decide_false, Bool.not_true, Bool.not_false, and_true, true_or, or_true, Int.reduceMul, Int.reduceToNat, Nat.reducePow, Int.reducePow, Nat.not_lt_zero, r_par2, r_par3, wP2_c, wP3_c, r_fld, r_fldP, r_fldA, r_meth, r_make, r_pop, wFl_d, wNo_none, wMk_ok, oFs_o, okS_o, List.map_cons, List.map_nil, false_or, l_addI, l_addS, l_addL, l_addT, l_sub, l_div, l_mod, l_mulI, l_mulS, l_mulL, l_eqI, l_eqS, l_neI, l_neS, l_ltI, l_leI, l_gtI, l_geI, l_ltS, l_leS, l_gtS, l_geS, l_truI, l_truB, l_truL, l_truT, l_truN, l_truS, l_lenS, l_lenL, l_lenT, l_intI, l_absI, l_tupL, l_tupT, l_itL, l_itT, l_itS, l_rg1, l_rg2, l_ixL, l_ixT, l_ixS, at_0, at_1, at_2, at_3, set_0, set_1, set_2, set_3, List.length_cons, List.length_nil, Int.cast_ofNat_Int, Int.natCast_one, tgD_n, tgD_t, tgA_nil, tgA_cons, Option.bind_some, l_isSS, l_isST, l_isSL, l_isSI, l_isTT, l_isTS, l_isTL, l_isTI, l_isII, l_isBI, l_isLL, l_ord, e1, e2]
end K40

/-! law_k40_dates: the plain law: dates and numbers. -/
namespace K40
open PySem PySem.Spec PyProof.Rows L2 BV
theorem isdate {y m d : Int} (h : Ok y m d) : m_is_date [.d (.int y), .d (.int m), .d (.int d)] = .ok (.d (.bool true)) [.un, .un, .un] := by
  obtain ⟨h1, h2, h3, h4, h5, h6⟩ := h
  have e1 : decide (1 ≤ y) = true := decide_eq_true h1
  have e2 : decide (y ≤ 9999) = true := decide_eq_true h2
  have e3 : decide (1 ≤ m) = true := decide_eq_true h3
  have e4 : decide (m ≤ 12) = true := decide_eq_true h4
  have e5 : decide (1 ≤ d) = true := decide_eq_true h5
  have e6 : decide (d ≤ len y m) = true := decide_eq_true h6
  refine eqF (wF_run rfl ?_)
  simp only [b_is_date, r_lft, r_var, r_own, r_c, r_bin, r_binO, r_cmp, r_tcmp, r_tcmpO, r_tru, r_tand, r_tor, r_tnot, r_eif, r_nif, r_and, r_or, r_not, r_neg, r_cb, r_ncb, r_bm, r_bm0, r_tup, r_lst, r_anil, r_acons, r_aone, r_vnil, r_vcons, r_vslot, r_sl, r_onone, r_osome, r_chain, r_tchain, r_isi, r_iany, r_rg1, r_rg2, r_yes, r_frz, r_call, r_F, r_sif, r_snil, r_pass, r_break, r_cont, r_no, r_ret, r_retN, r_retNone, r_drop, r_dropN, r_asg, r_asgN, r_aug, r_stup, r_app, r_ext, r_setix, r_for, r_retOwn, wE_nComp, wE_ok, wS_nx, wS_rt, wS_bk, wS_ct, wS_seq, wV_d, wV_l, wO_d, wO_l, wL_some, wL_ite, wL_map, cB_true, cB_false, cB_not, wZ_d, wZ_l, wTk_some, wT_some, wipeE, tk_nil, tk_v, tk_s, putA, mask, d1, d2, tyD, okS_d, okS_l, lOf, asI, Option.isSome_some, Option.getD_some, Option.map_some, List.getElem?_cons_zero, List.getElem?_cons_succ, List.set_cons_zero, List.set_cons_succ, List.replicate_succ, List.replicate_zero, List.cons_append, List.nil_append, List.not_mem_nil, List.mem_cons, or_false, not_false_eq_true, true_and, decide_true, if_true, if_false, Bool.false_eq_true, reduceIte, Nat.reduceEqDiff, Nat.reduceAdd, Nat.reduceSub, Nat.reduceLeDiff, Nat.reduceLT, Int.reduceLT, Int.reduceLE, Int.reduceAdd, Int.reduceSub, Int.reduceEq, Int.reduceNeg, Nat.reduceMul, decide_false, Bool.not_true, Bool.not_false, and_true, true_or, or_true, Int.reduceMul, Int.reduceToNat, Nat.reducePow, Int.reducePow, Nat.not_lt_zero, r_par2, r_par3, wP2_c, wP3_c, r_fld, r_fldP, r_fldA, r_meth, r_make, r_pop, wFl_d, wNo_none, wMk_ok, oFs_o, okS_o, List.map_cons, List.map_nil, false_or, l_addI, l_addS, l_addL, l_addT, l_sub, l_div, l_mod, l_mulI, l_mulS, l_mulL, l_eqI, l_eqS, l_neI, l_neS, l_ltI, l_leI, l_gtI, l_geI, l_ltS, l_leS, l_gtS, l_geS, l_truI, l_truB, l_truL, l_truT, l_truN, l_truS, l_lenS, l_lenL, l_lenT, l_intI, l_absI, l_tupL, l_tupT, l_itL, l_itT, l_itS, l_rg1, l_rg2, l_ixL, l_ixT, l_ixS, at_0, at_1, at_2, at_3, set_0, set_1, set_2, set_3, List.length_cons, List.length_nil, Int.cast_ofNat_Int, Int.natCast_one, tgD_n, tgD_t, tgA_nil, tgA_cons, Option.bind_some, l_isSS, l_isST, l_isSL, l_isSI, l_isTT, l_isTS, l_isTL, l_isTI, l_isII, l_isBI, l_isLL, l_ord, isint, e1]
  simp only [r_lft, r_var, r_own, r_c, r_bin, r_binO, r_cmp, r_tcmp, r_tcmpO, r_tru, r_tand, r_tor, r_tnot, r_eif, r_nif, r_and, r_or, r_not, r_neg, r_cb, r_ncb, r_bm, r_bm0, r_tup, r_lst, r_anil, r_acons, r_aone, r_vnil, r_vcons, r_vslot, r_sl, r_onone, r_osome, r_chain, r_tchain, r_isi, r_iany, r_rg1, r_rg2, r_yes, r_frz, r_call, r_F, r_sif, r_snil, r_pass, r_break, r_cont, r_no, r_ret, r_retN, r_retNone, r_drop, r_dropN, r_asg, r_asgN, r_aug, r_stup, r_app, r_ext, r_setix, r_for, r_retOwn, wE_nComp, wE_ok, wS_nx, wS_rt, wS_bk, wS_ct, wS_seq, wV_d, wV_l, wO_d, wO_l, wL_some, wL_ite, wL_map, cB_true, cB_false, cB_not, wZ_d, wZ_l, wTk_some, wT_some, wipeE, tk_nil, tk_v, tk_s, putA, mask, d1, d2, tyD, okS_d, okS_l, lOf, asI, Option.isSome_some, Option.getD_some, Option.map_some, List.getElem?_cons_zero, List.getElem?_cons_succ, List.set_cons_zero, List.set_cons_succ, List.replicate_succ, List.replicate_zero, List.cons_append, List.nil_append, List.not_mem_nil, List.mem_cons, or_false, not_false_eq_true, true_and, decide_true, if_true, if_false, Bool.false_eq_true, reduceIte, Nat.reduceEqDiff, Nat.reduceAdd, Nat.reduceSub, Nat.reduceLeDiff, Nat.reduceLT, Int.reduceLT, Int.reduceLE, Int.reduceAdd, Int.reduceSub, Int.reduceEq, Int.reduceNeg, Nat.reduceMul, decide_false, Bool.not_true, Bool.not_false, and_true, true_or, or_true, Int.reduceMul, Int.reduceToNat, Nat.reducePow, Int.reducePow, Nat.not_lt_zero, r_par2, r_par3, wP2_c, wP3_c, r_fld, r_fldP, r_fldA, r_meth, r_make, r_pop, wFl_d, wNo_none, wMk_ok, oFs_o, okS_o, List.map_cons, List.map_nil, false_or, l_addI, l_addS, l_addL, l_addT, l_sub, l_div, l_mod, l_mulI, l_mulS, l_mulL, l_eqI, l_eqS, l_neI, l_neS, l_ltI, l_leI, l_gtI, l_geI, l_ltS, l_leS, l_gtS, l_geS, l_truI, l_truB, l_truL, l_truT, l_truN, l_truS, l_lenS, l_lenL, l_lenT, l_intI, l_absI, l_tupL, l_tupT, l_itL, l_itT, l_itS, l_rg1, l_rg2, l_ixL, l_ixT, l_ixS, at_0, at_1, at_2, at_3, set_0, set_1, set_2, set_3, List.length_cons, List.length_nil, Int.cast_ofNat_Int, Int.natCast_one, tgD_n, tgD_t, tgA_nil, tgA_cons, Option.bind_some, l_isSS, l_isST, l_isSL, l_isSI, l_isTT, l_isTS, l_isTL, l_isTI, l_isII, l_isBI, l_isLL, l_ord, isint, e2]
  simp only [r_lft, r_var, r_own, r_c, r_bin, r_binO, r_cmp, r_tcmp, r_tcmpO, r_tru, r_tand, r_tor, r_tnot, r_eif, r_nif, r_and, r_or, r_not, r_neg, r_cb, r_ncb, r_bm, r_bm0, r_tup, r_lst, r_anil, r_acons, r_aone, r_vnil, r_vcons, r_vslot, r_sl, r_onone, r_osome, r_chain, r_tchain, r_isi, r_iany, r_rg1, r_rg2, r_yes, r_frz, r_call, r_F, r_sif, r_snil, r_pass, r_break, r_cont, r_no, r_ret, r_retN, r_retNone, r_drop, r_dropN, r_asg, r_asgN, r_aug, r_stup, r_app, r_ext, r_setix, r_for, r_retOwn, wE_nComp, wE_ok, wS_nx, wS_rt, wS_bk, wS_ct, wS_seq, wV_d, wV_l, wO_d, wO_l, wL_some, wL_ite, wL_map, cB_true, cB_false, cB_not, wZ_d, wZ_l, wTk_some, wT_some, wipeE, tk_nil, tk_v, tk_s, putA, mask, d1, d2, tyD, okS_d, okS_l, lOf, asI, Option.isSome_some, Option.getD_some, Option.map_some, List.getElem?_cons_zero, List.getElem?_cons_succ, List.set_cons_zero, List.set_cons_succ, List.replicate_succ, List.replicate_zero, List.cons_append, List.nil_append, List.not_mem_nil, List.mem_cons, or_false, not_false_eq_true, true_and, decide_true, if_true, if_false, Bool.false_eq_true, reduceIte, Nat.reduceEqDiff, Nat.reduceAdd, Nat.reduceSub, Nat.reduceLeDiff, Nat.reduceLT, Int.reduceLT, Int.reduceLE, Int.reduceAdd, Int.reduceSub, Int.reduceEq, Int.reduceNeg, Nat.reduceMul, decide_false, Bool.not_true, Bool.not_false, and_true, true_or, or_true, Int.reduceMul, Int.reduceToNat, Nat.reducePow, Int.reducePow, Nat.not_lt_zero, r_par2, r_par3, wP2_c, wP3_c, r_fld, r_fldP, r_fldA, r_meth, r_make, r_pop, wFl_d, wNo_none, wMk_ok, oFs_o, okS_o, List.map_cons, List.map_nil, false_or, l_addI, l_addS, l_addL, l_addT, l_sub, l_div, l_mod, l_mulI, l_mulS, l_mulL, l_eqI, l_eqS, l_neI, l_neS, l_ltI, l_leI, l_gtI, l_geI, l_ltS, l_leS, l_gtS, l_geS, l_truI, l_truB, l_truL, l_truT, l_truN, l_truS, l_lenS, l_lenL, l_lenT, l_intI, l_absI, l_tupL, l_tupT, l_itL, l_itT, l_itS, l_rg1, l_rg2, l_ixL, l_ixT, l_ixS, at_0, at_1, at_2, at_3, set_0, set_1, set_2, set_3, List.length_cons, List.length_nil, Int.cast_ofNat_Int, Int.natCast_one, tgD_n, tgD_t, tgA_nil, tgA_cons, Option.bind_some, l_isSS, l_isST, l_isSL, l_isSI, l_isTT, l_isTS, l_isTL, l_isTI, l_isII, l_isBI, l_isLL, l_ord, isint, e3]
  simp only [r_lft, r_var, r_own, r_c, r_bin, r_binO, r_cmp, r_tcmp, r_tcmpO, r_tru, r_tand, r_tor, r_tnot, r_eif, r_nif, r_and, r_or, r_not, r_neg, r_cb, r_ncb, r_bm, r_bm0, r_tup, r_lst, r_anil, r_acons, r_aone, r_vnil, r_vcons, r_vslot, r_sl, r_onone, r_osome, r_chain, r_tchain, r_isi, r_iany, r_rg1, r_rg2, r_yes, r_frz, r_call, r_F, r_sif, r_snil, r_pass, r_break, r_cont, r_no, r_ret, r_retN, r_retNone, r_drop, r_dropN, r_asg, r_asgN, r_aug, r_stup, r_app, r_ext, r_setix, r_for, r_retOwn, wE_nComp, wE_ok, wS_nx, wS_rt, wS_bk, wS_ct, wS_seq, wV_d, wV_l, wO_d, wO_l, wL_some, wL_ite, wL_map, cB_true, cB_false, cB_not, wZ_d, wZ_l, wTk_some, wT_some, wipeE, tk_nil, tk_v, tk_s, putA, mask, d1, d2, tyD, okS_d, okS_l, lOf, asI, Option.isSome_some, Option.getD_some, Option.map_some, List.getElem?_cons_zero, List.getElem?_cons_succ, List.set_cons_zero, List.set_cons_succ, List.replicate_succ, List.replicate_zero, List.cons_append, List.nil_append, List.not_mem_nil, List.mem_cons, or_false, not_false_eq_true, true_and, decide_true, if_true, if_false, Bool.false_eq_true, reduceIte, Nat.reduceEqDiff, Nat.reduceAdd, Nat.reduceSub, Nat.reduceLeDiff, Nat.reduceLT, Int.reduceLT, Int.reduceLE, Int.reduceAdd, Int.reduceSub, Int.reduceEq, Int.reduceNeg, Nat.reduceMul, decide_false, Bool.not_true, Bool.not_false, and_true, true_or, or_true, Int.reduceMul, Int.reduceToNat, Nat.reducePow, Int.reducePow, Nat.not_lt_zero, r_par2, r_par3, wP2_c, wP3_c, r_fld, r_fldP, r_fldA, r_meth, r_make, r_pop, wFl_d, wNo_none, wMk_ok, oFs_o, okS_o, List.map_cons, List.map_nil, false_or, l_addI, l_addS, l_addL, l_addT, l_sub, l_div, l_mod, l_mulI, l_mulS, l_mulL, l_eqI, l_eqS, l_neI, l_neS, l_ltI, l_leI, l_gtI, l_geI, l_ltS, l_leS, l_gtS, l_geS, l_truI, l_truB, l_truL, l_truT, l_truN, l_truS, l_lenS, l_lenL, l_lenT, l_intI, l_absI, l_tupL, l_tupT, l_itL, l_itT, l_itS, l_rg1, l_rg2, l_ixL, l_ixT, l_ixS, at_0, at_1, at_2, at_3, set_0, set_1, set_2, set_3, List.length_cons, List.length_nil, Int.cast_ofNat_Int, Int.natCast_one, tgD_n, tgD_t, tgA_nil, tgA_cons, Option.bind_some, l_isSS, l_isST, l_isSL, l_isSI, l_isTT, l_isTS, l_isTL, l_isTI, l_isII, l_isBI, l_isLL, l_ord, isint, e4]
  simp only [r_lft, r_var, r_own, r_c, r_bin, r_binO, r_cmp, r_tcmp, r_tcmpO, r_tru, r_tand, r_tor, r_tnot, r_eif, r_nif, r_and, r_or, r_not, r_neg, r_cb, r_ncb, r_bm, r_bm0, r_tup, r_lst, r_anil, r_acons, r_aone, r_vnil, r_vcons, r_vslot, r_sl, r_onone, r_osome, r_chain, r_tchain, r_isi, r_iany, r_rg1, r_rg2, r_yes, r_frz, r_call, r_F, r_sif, r_snil, r_pass, r_break, r_cont, r_no, r_ret, r_retN, r_retNone, r_drop, r_dropN, r_asg, r_asgN, r_aug, r_stup, r_app, r_ext, r_setix, r_for, r_retOwn, wE_nComp, wE_ok, wS_nx, wS_rt, wS_bk, wS_ct, wS_seq, wV_d, wV_l, wO_d, wO_l, wL_some, wL_ite, wL_map, cB_true, cB_false, cB_not, wZ_d, wZ_l, wTk_some, wT_some, wipeE, tk_nil, tk_v, tk_s, putA, mask, d1, d2, tyD, okS_d, okS_l, lOf, asI, Option.isSome_some, Option.getD_some, Option.map_some, List.getElem?_cons_zero, List.getElem?_cons_succ, List.set_cons_zero, List.set_cons_succ, List.replicate_succ, List.replicate_zero, List.cons_append, List.nil_append, List.not_mem_nil, List.mem_cons, or_false, not_false_eq_true, true_and, decide_true, if_true, if_false, Bool.false_eq_true, reduceIte, Nat.reduceEqDiff, Nat.reduceAdd, Nat.reduceSub, Nat.reduceLeDiff, Nat.reduceLT, Int.reduceLT, Int.reduceLE, Int.reduceAdd, Int.reduceSub, Int.reduceEq, Int.reduceNeg, Nat.reduceMul, decide_false, Bool.not_true, Bool.not_false, and_true, true_or, or_true, Int.reduceMul, Int.reduceToNat, Nat.reducePow, Int.reducePow, Nat.not_lt_zero, r_par2, r_par3, wP2_c, wP3_c, r_fld, r_fldP, r_fldA, r_meth, r_make, r_pop, wFl_d, wNo_none, wMk_ok, oFs_o, okS_o, List.map_cons, List.map_nil, false_or, l_addI, l_addS, l_addL, l_addT, l_sub, l_div, l_mod, l_mulI, l_mulS, l_mulL, l_eqI, l_eqS, l_neI, l_neS, l_ltI, l_leI, l_gtI, l_geI, l_ltS, l_leS, l_gtS, l_geS, l_truI, l_truB, l_truL, l_truT, l_truN, l_truS, l_lenS, l_lenL, l_lenT, l_intI, l_absI, l_tupL, l_tupT, l_itL, l_itT, l_itS, l_rg1, l_rg2, l_ixL, l_ixT, l_ixS, at_0, at_1, at_2, at_3, set_0, set_1, set_2, set_3, List.length_cons, List.length_nil, Int.cast_ofNat_Int, Int.natCast_one, tgD_n, tgD_t, tgA_nil, tgA_cons, Option.bind_some, l_isSS, l_isST, l_isSL, l_isSI, l_isTT, l_isTS, l_isTL, l_isTI, l_isII, l_isBI, l_isLL, l_ord, isint, e5, lengthof h3 h4]
  simp only [r_lft, r_var, r_own, r_c, r_bin, r_binO, r_cmp, r_tcmp, r_tcmpO, r_tru, r_tand, r_tor, r_tnot, r_eif, r_nif, r_and, r_or, r_not, r_neg, r_cb, r_ncb, r_bm, r_bm0, r_tup, r_lst, r_anil, r_acons, r_aone, r_vnil, r_vcons, r_vslot, r_sl, r_onone, r_osome, r_chain, r_tchain, r_isi, r_iany, r_rg1, r_rg2, r_yes, r_frz, r_call, r_F, r_sif, r_snil, r_pass, r_break, r_cont, r_no, r_ret, r_retN, r_retNone, r_drop, r_dropN, r_asg, r_asgN, r_aug, r_stup, r_app, r_ext, r_setix, r_for, r_retOwn, wE_nComp, wE_ok, wS_nx, wS_rt, wS_bk, wS_ct, wS_seq, wV_d, wV_l, wO_d, wO_l, wL_some, wL_ite, wL_map, cB_true, cB_false, cB_not, wZ_d, wZ_l, wTk_some, wT_some, wipeE, tk_nil, tk_v, tk_s, putA, mask, d1, d2, tyD, okS_d, okS_l, lOf, asI, Option.isSome_some, Option.getD_some, Option.map_some, List.getElem?_cons_zero, List.getElem?_cons_succ, List.set_cons_zero, List.set_cons_succ, List.replicate_succ, List.replicate_zero, List.cons_append, List.nil_append, List.not_mem_nil, List.mem_cons, or_false, not_false_eq_true, true_and, decide_true, if_true, if_false, Bool.false_eq_true, reduceIte, Nat.reduceEqDiff, Nat.reduceAdd, Nat.reduceSub, Nat.reduceLeDiff, Nat.reduceLT, Int.reduceLT, Int.reduceLE, Int.reduceAdd, Int.reduceSub, Int.reduceEq, Int.reduceNeg, Nat.reduceMul, decide_false, Bool.not_true, Bool.not_false, and_true, true_or, or_true, Int.reduceMul, Int.reduceToNat, Nat.reducePow, Int.reducePow, Nat.not_lt_zero, r_par2, r_par3, wP2_c, wP3_c, r_fld, r_fldP, r_fldA, r_meth, r_make, r_pop, wFl_d, wNo_none, wMk_ok, oFs_o, okS_o, List.map_cons, List.map_nil, false_or, l_addI, l_addS, l_addL, l_addT, l_sub, l_div, l_mod, l_mulI, l_mulS, l_mulL, l_eqI, l_eqS, l_neI, l_neS, l_ltI, l_leI, l_gtI, l_geI, l_ltS, l_leS, l_gtS, l_geS, l_truI, l_truB, l_truL, l_truT, l_truN, l_truS, l_lenS, l_lenL, l_lenT, l_intI, l_absI, l_tupL, l_tupT, l_itL, l_itT, l_itS, l_rg1, l_rg2, l_ixL, l_ixT, l_ixS, at_0, at_1, at_2, at_3, set_0, set_1, set_2, set_3, List.length_cons, List.length_nil, Int.cast_ofNat_Int, Int.natCast_one, tgD_n, tgD_t, tgA_nil, tgA_cons, Option.bind_some, l_isSS, l_isST, l_isSL, l_isSI, l_isTT, l_isTS, l_isTL, l_isTI, l_isII, l_isBI, l_isLL, l_ord, e6]
theorem daysof {y m d : Int} (h : Ok y m d) : m_days_of [.d (.int y), .d (.int m), .d (.int d)] = .ok (.d (.int (num y m d))) [.un, .un, .un] := by
  refine eqF (wF_run rfl ?_)
  simp only [b_days_of, r_lft, r_var, r_own, r_c, r_bin, r_binO, r_cmp, r_tcmp, r_tcmpO, r_tru, r_tand, r_tor, r_tnot, r_eif, r_nif, r_and, r_or, r_not, r_neg, r_cb, r_ncb, r_bm, r_bm0, r_tup, r_lst, r_anil, r_acons, r_aone, r_vnil, r_vcons, r_vslot, r_sl, r_onone, r_osome, r_chain, r_tchain, r_isi, r_iany, r_rg1, r_rg2, r_yes, r_frz, r_call, r_F, r_sif, r_snil, r_pass, r_break, r_cont, r_no, r_ret, r_retN, r_retNone, r_drop, r_dropN, r_asg, r_asgN, r_aug, r_stup, r_app, r_ext, r_setix, r_for, r_retOwn, wE_nComp, wE_ok, wS_nx, wS_rt, wS_bk, wS_ct, wS_seq, wV_d, wV_l, wO_d, wO_l, wL_some, wL_ite, wL_map, cB_true, cB_false, cB_not, wZ_d, wZ_l, wTk_some, wT_some, wipeE, tk_nil, tk_v, tk_s, putA, mask, d1, d2, tyD, okS_d, okS_l, lOf, asI, Option.isSome_some, Option.getD_some, Option.map_some, List.getElem?_cons_zero, List.getElem?_cons_succ, List.set_cons_zero, List.set_cons_succ, List.replicate_succ, List.replicate_zero, List.cons_append, List.nil_append, List.not_mem_nil, List.mem_cons, or_false, not_false_eq_true, true_and, decide_true, if_true, if_false, Bool.false_eq_true, reduceIte, Nat.reduceEqDiff, Nat.reduceAdd, Nat.reduceSub, Nat.reduceLeDiff, Nat.reduceLT, Int.reduceLT, Int.reduceLE, Int.reduceAdd, Int.reduceSub, Int.reduceEq, Int.reduceNeg, Nat.reduceMul, decide_false, Bool.not_true, Bool.not_false, and_true, true_or, or_true, Int.reduceMul, Int.reduceToNat, Nat.reducePow, Int.reducePow, Nat.not_lt_zero, r_par2, r_par3, wP2_c, wP3_c, r_fld, r_fldP, r_fldA, r_meth, r_make, r_pop, wFl_d, wNo_none, wMk_ok, oFs_o, okS_o, List.map_cons, List.map_nil, false_or, l_addI, l_addS, l_addL, l_addT, l_sub, l_div, l_mod, l_mulI, l_mulS, l_mulL, l_eqI, l_eqS, l_neI, l_neS, l_ltI, l_leI, l_gtI, l_geI, l_ltS, l_leS, l_gtS, l_geS, l_truI, l_truB, l_truL, l_truT, l_truN, l_truS, l_lenS, l_lenL, l_lenT, l_intI, l_absI, l_tupL, l_tupT, l_itL, l_itT, l_itS, l_rg1, l_rg2, l_ixL, l_ixT, l_ixS, at_0, at_1, at_2, at_3, set_0, set_1, set_2, set_3, List.length_cons, List.length_nil, Int.cast_ofNat_Int, Int.natCast_one, tgD_n, tgD_t, tgA_nil, tgA_cons, Option.bind_some, l_isSS, l_isST, l_isSL, l_isSI, l_isTT, l_isTS, l_isTL, l_isTI, l_isII, l_isBI, l_isLL, l_ord, isdate h, counts h.2.2.1 h.2.2.2.1]
theorem datein {y m d : Int} (h : Ok y m d) : m_date_in [.d (.int (num y m d))] = .ok (.d (.tuple [.int y, .int m, .int d])) [.un] := by
  obtain ⟨h1, h2, h3, h4, h5, h6⟩ := id h
  have ya1 := (year_at h).1
  have ya2 := (year_at h).2
  refine eqF (wF_run rfl ?_)
  simp only [b_date_in, r_lft, r_var, r_own, r_c, r_bin, r_binO, r_cmp, r_tcmp, r_tcmpO, r_tru, r_tand, r_tor, r_tnot, r_eif, r_nif, r_and, r_or, r_not, r_neg, r_cb, r_ncb, r_bm, r_bm0, r_tup, r_lst, r_anil, r_acons, r_aone, r_vnil, r_vcons, r_vslot, r_sl, r_onone, r_osome, r_chain, r_tchain, r_isi, r_iany, r_rg1, r_rg2, r_yes, r_frz, r_call, r_F, r_sif, r_snil, r_pass, r_break, r_cont, r_no, r_ret, r_retN, r_retNone, r_drop, r_dropN, r_asg, r_asgN, r_aug, r_stup, r_app, r_ext, r_setix, r_for, r_retOwn, wE_nComp, wE_ok, wS_nx, wS_rt, wS_bk, wS_ct, wS_seq, wV_d, wV_l, wO_d, wO_l, wL_some, wL_ite, wL_map, cB_true, cB_false, cB_not, wZ_d, wZ_l, wTk_some, wT_some, wipeE, tk_nil, tk_v, tk_s, putA, mask, d1, d2, tyD, okS_d, okS_l, lOf, asI, Option.isSome_some, Option.getD_some, Option.map_some, List.getElem?_cons_zero, List.getElem?_cons_succ, List.set_cons_zero, List.set_cons_succ, List.replicate_succ, List.replicate_zero, List.cons_append, List.nil_append, List.not_mem_nil, List.mem_cons, or_false, not_false_eq_true, true_and, decide_true, if_true, if_false, Bool.false_eq_true, reduceIte, Nat.reduceEqDiff, Nat.reduceAdd, Nat.reduceSub, Nat.reduceLeDiff, Nat.reduceLT, Int.reduceLT, Int.reduceLE, Int.reduceAdd, Int.reduceSub, Int.reduceEq, Int.reduceNeg, Nat.reduceMul, decide_false, Bool.not_true, Bool.not_false, and_true, true_or, or_true, Int.reduceMul, Int.reduceToNat, Nat.reducePow, Int.reducePow, Nat.not_lt_zero, r_par2, r_par3, wP2_c, wP3_c, r_fld, r_fldP, r_fldA, r_meth, r_make, r_pop, wFl_d, wNo_none, wMk_ok, oFs_o, okS_o, List.map_cons, List.map_nil, false_or, l_addI, l_addS, l_addL, l_addT, l_sub, l_div, l_mod, l_mulI, l_mulS, l_mulL, l_eqI, l_eqS, l_neI, l_neS, l_ltI, l_leI, l_gtI, l_geI, l_ltS, l_leS, l_gtS, l_geS, l_truI, l_truB, l_truL, l_truT, l_truN, l_truS, l_lenS, l_lenL, l_lenT, l_intI, l_absI, l_tupL, l_tupT, l_itL, l_itT, l_itS, l_rg1, l_rg2, l_ixL, l_ixT, l_ixS, at_0, at_1, at_2, at_3, set_0, set_1, set_2, set_3, List.length_cons, List.length_nil, Int.cast_ofNat_Int, Int.natCast_one, tgD_n, tgD_t, tgA_nil, tgA_cons, Option.bind_some, l_isSS, l_isST, l_isSL, l_isSI, l_isTT, l_isTS, l_isTL, l_isTI, l_isII, l_isBI, l_isLL, l_ord]
  refine wS_while (fun k e => ∃ (lo hi : Int) (q4 : Sl), e = [.d (.int (num y m d)), .d (.int (num y m d + 719162)), .d (.int lo), .d (.int hi), q4, .un, .un] ∧ 1 ≤ lo ∧ lo ≤ y ∧ y ≤ hi ∧ hi ≤ 9999 ∧ k = (hi - lo).toNat) ?_ _ 9998 _ ⟨1, 9999, _, rfl, by omega, by omega, by omega, by omega, by omega⟩ (by omega)
  rintro k e ⟨lo, hi, q4, rfl, g1, g2, g3, g4, rfl⟩
  simp only [r_lft, r_var, r_own, r_c, r_bin, r_binO, r_cmp, r_tcmp, r_tcmpO, r_tru, r_tand, r_tor, r_tnot, r_eif, r_nif, r_and, r_or, r_not, r_neg, r_cb, r_ncb, r_bm, r_bm0, r_tup, r_lst, r_anil, r_acons, r_aone, r_vnil, r_vcons, r_vslot, r_sl, r_onone, r_osome, r_chain, r_tchain, r_isi, r_iany, r_rg1, r_rg2, r_yes, r_frz, r_call, r_F, r_sif, r_snil, r_pass, r_break, r_cont, r_no, r_ret, r_retN, r_retNone, r_drop, r_dropN, r_asg, r_asgN, r_aug, r_stup, r_app, r_ext, r_setix, r_for, r_retOwn, wE_nComp, wE_ok, wS_nx, wS_rt, wS_bk, wS_ct, wS_seq, wV_d, wV_l, wO_d, wO_l, wL_some, wL_ite, wL_map, cB_true, cB_false, cB_not, wZ_d, wZ_l, wTk_some, wT_some, wipeE, tk_nil, tk_v, tk_s, putA, mask, d1, d2, tyD, okS_d, okS_l, lOf, asI, Option.isSome_some, Option.getD_some, Option.map_some, List.getElem?_cons_zero, List.getElem?_cons_succ, List.set_cons_zero, List.set_cons_succ, List.replicate_succ, List.replicate_zero, List.cons_append, List.nil_append, List.not_mem_nil, List.mem_cons, or_false, not_false_eq_true, true_and, decide_true, if_true, if_false, Bool.false_eq_true, reduceIte, Nat.reduceEqDiff, Nat.reduceAdd, Nat.reduceSub, Nat.reduceLeDiff, Nat.reduceLT, Int.reduceLT, Int.reduceLE, Int.reduceAdd, Int.reduceSub, Int.reduceEq, Int.reduceNeg, Nat.reduceMul, decide_false, Bool.not_true, Bool.not_false, and_true, true_or, or_true, Int.reduceMul, Int.reduceToNat, Nat.reducePow, Int.reducePow, Nat.not_lt_zero, r_par2, r_par3, wP2_c, wP3_c, r_fld, r_fldP, r_fldA, r_meth, r_make, r_pop, wFl_d, wNo_none, wMk_ok, oFs_o, okS_o, List.map_cons, List.map_nil, false_or, l_addI, l_addS, l_addL, l_addT, l_sub, l_div, l_mod, l_mulI, l_mulS, l_mulL, l_eqI, l_eqS, l_neI, l_neS, l_ltI, l_leI, l_gtI, l_geI, l_ltS, l_leS, l_gtS, l_geS, l_truI, l_truB, l_truL, l_truT, l_truN, l_truS, l_lenS, l_lenL, l_lenT, l_intI, l_absI, l_tupL, l_tupT, l_itL, l_itT, l_itS, l_rg1, l_rg2, l_ixL, l_ixT, l_ixS, at_0, at_1, at_2, at_3, set_0, set_1, set_2, set_3, List.length_cons, List.length_nil, Int.cast_ofNat_Int, Int.natCast_one, tgD_n, tgD_t, tgA_nil, tgA_cons, Option.bind_some, l_isSS, l_isST, l_isSL, l_isSI, l_isTT, l_isTS, l_isTL, l_isTI, l_isII, l_isBI, l_isLL, l_ord]
  by_cases hlt : lo < hi
  · simp only [r_lft, r_var, r_own, r_c, r_bin, r_binO, r_cmp, r_tcmp, r_tcmpO, r_tru, r_tand, r_tor, r_tnot, r_eif, r_nif, r_and, r_or, r_not, r_neg, r_cb, r_ncb, r_bm, r_bm0, r_tup, r_lst, r_anil, r_acons, r_aone, r_vnil, r_vcons, r_vslot, r_sl, r_onone, r_osome, r_chain, r_tchain, r_isi, r_iany, r_rg1, r_rg2, r_yes, r_frz, r_call, r_F, r_sif, r_snil, r_pass, r_break, r_cont, r_no, r_ret, r_retN, r_retNone, r_drop, r_dropN, r_asg, r_asgN, r_aug, r_stup, r_app, r_ext, r_setix, r_for, r_retOwn, wE_nComp, wE_ok, wS_nx, wS_rt, wS_bk, wS_ct, wS_seq, wV_d, wV_l, wO_d, wO_l, wL_some, wL_ite, wL_map, cB_true, cB_false, cB_not, wZ_d, wZ_l, wTk_some, wT_some, wipeE, tk_nil, tk_v, tk_s, putA, mask, d1, d2, tyD, okS_d, okS_l, lOf, asI, Option.isSome_some, Option.getD_some, Option.map_some, List.getElem?_cons_zero, List.getElem?_cons_succ, List.set_cons_zero, List.set_cons_succ, List.replicate_succ, List.replicate_zero, List.cons_append, List.nil_append, List.not_mem_nil, List.mem_cons, or_false, not_false_eq_true, true_and, decide_true, if_true, if_false, Bool.false_eq_true, reduceIte, Nat.reduceEqDiff, Nat.reduceAdd, Nat.reduceSub, Nat.reduceLeDiff, Nat.reduceLT, Int.reduceLT, Int.reduceLE, Int.reduceAdd, Int.reduceSub, Int.reduceEq, Int.reduceNeg, Nat.reduceMul, decide_false, Bool.not_true, Bool.not_false, and_true, true_or, or_true, Int.reduceMul, Int.reduceToNat, Nat.reducePow, Int.reducePow, Nat.not_lt_zero, r_par2, r_par3, wP2_c, wP3_c, r_fld, r_fldP, r_fldA, r_meth, r_make, r_pop, wFl_d, wNo_none, wMk_ok, oFs_o, okS_o, List.map_cons, List.map_nil, false_or, l_addI, l_addS, l_addL, l_addT, l_sub, l_div, l_mod, l_mulI, l_mulS, l_mulL, l_eqI, l_eqS, l_neI, l_neS, l_ltI, l_leI, l_gtI, l_geI, l_ltS, l_leS, l_gtS, l_geS, l_truI, l_truB, l_truL, l_truT, l_truN, l_truS, l_lenS, l_lenL, l_lenT, l_intI, l_absI, l_tupL, l_tupT, l_itL, l_itT, l_itS, l_rg1, l_rg2, l_ixL, l_ixT, l_ixS, at_0, at_1, at_2, at_3, set_0, set_1, set_2, set_3, List.length_cons, List.length_nil, Int.cast_ofNat_Int, Int.natCast_one, tgD_n, tgD_t, tgA_nil, tgA_cons, Option.bind_some, l_isSS, l_isST, l_isSL, l_isSI, l_isTT, l_isTS, l_isTL, l_isTI, l_isII, l_isBI, l_isLL, l_ord, hlt, yearsahead]
    refine cB_dec (fun hm => ?_) fun hm => ?_
    · simp only [r_lft, r_var, r_own, r_c, r_bin, r_binO, r_cmp, r_tcmp, r_tcmpO, r_tru, r_tand, r_tor, r_tnot, r_eif, r_nif, r_and, r_or, r_not, r_neg, r_cb, r_ncb, r_bm, r_bm0, r_tup, r_lst, r_anil, r_acons, r_aone, r_vnil, r_vcons, r_vslot, r_sl, r_onone, r_osome, r_chain, r_tchain, r_isi, r_iany, r_rg1, r_rg2, r_yes, r_frz, r_call, r_F, r_sif, r_snil, r_pass, r_break, r_cont, r_no, r_ret, r_retN, r_retNone, r_drop, r_dropN, r_asg, r_asgN, r_aug, r_stup, r_app, r_ext, r_setix, r_for, r_retOwn, wE_nComp, wE_ok, wS_nx, wS_rt, wS_bk, wS_ct, wS_seq, wV_d, wV_l, wO_d, wO_l, wL_some, wL_ite, wL_map, cB_true, cB_false, cB_not, wZ_d, wZ_l, wTk_some, wT_some, wipeE, tk_nil, tk_v, tk_s, putA, mask, d1, d2, tyD, okS_d, okS_l, lOf, asI, Option.isSome_some, Option.getD_some, Option.map_some, List.getElem?_cons_zero, List.getElem?_cons_succ, List.set_cons_zero, List.set_cons_succ, List.replicate_succ, List.replicate_zero, List.cons_append, List.nil_append, List.not_mem_nil, List.mem_cons, or_false, not_false_eq_true, true_and, decide_true, if_true, if_false, Bool.false_eq_true, reduceIte, Nat.reduceEqDiff, Nat.reduceAdd, Nat.reduceSub, Nat.reduceLeDiff, Nat.reduceLT, Int.reduceLT, Int.reduceLE, Int.reduceAdd, Int.reduceSub, Int.reduceEq, Int.reduceNeg, Nat.reduceMul, decide_false, Bool.not_true, Bool.not_false, and_true, true_or, or_true, Int.reduceMul, Int.reduceToNat, Nat.reducePow, Int.reducePow, Nat.not_lt_zero, r_par2, r_par3, wP2_c, wP3_c, r_fld, r_fldP, r_fldA, r_meth, r_make, r_pop, wFl_d, wNo_none, wMk_ok, oFs_o, okS_o, List.map_cons, List.map_nil, false_or, l_addI, l_addS, l_addL, l_addT, l_sub, l_div, l_mod, l_mulI, l_mulS, l_mulL, l_eqI, l_eqS, l_neI, l_neS, l_ltI, l_leI, l_gtI, l_geI, l_ltS, l_leS, l_gtS, l_geS, l_truI, l_truB, l_truL, l_truT, l_truN, l_truS, l_lenS, l_lenL, l_lenT, l_intI, l_absI, l_tupL, l_tupT, l_itL, l_itT, l_itS, l_rg1, l_rg2, l_ixL, l_ixT, l_ixS, at_0, at_1, at_2, at_3, set_0, set_1, set_2, set_3, List.length_cons, List.length_nil, Int.cast_ofNat_Int, Int.natCast_one, tgD_n, tgD_t, tgA_nil, tgA_cons, Option.bind_some, l_isSS, l_isST, l_isSL, l_isSI, l_isTT, l_isTS, l_isTL, l_isTI, l_isII, l_isBI, l_isLL, l_ord]
      refine ⟨(hi - (lo + hi + 1) / 2).toNat, by omega, _, hi, _, rfl, by omega, ?_, g3, g4, rfl⟩
      refine Classical.byContradiction fun hc => ?_
      have := ya_mono (show y + 1 ≤ (lo + hi + 1) / 2 by omega)
      omega
    · simp only [r_lft, r_var, r_own, r_c, r_bin, r_binO, r_cmp, r_tcmp, r_tcmpO, r_tru, r_tand, r_tor, r_tnot, r_eif, r_nif, r_and, r_or, r_not, r_neg, r_cb, r_ncb, r_bm, r_bm0, r_tup, r_lst, r_anil, r_acons, r_aone, r_vnil, r_vcons, r_vslot, r_sl, r_onone, r_osome, r_chain, r_tchain, r_isi, r_iany, r_rg1, r_rg2, r_yes, r_frz, r_call, r_F, r_sif, r_snil, r_pass, r_break, r_cont, r_no, r_ret, r_retN, r_retNone, r_drop, r_dropN, r_asg, r_asgN, r_aug, r_stup, r_app, r_ext, r_setix, r_for, r_retOwn, wE_nComp, wE_ok, wS_nx, wS_rt, wS_bk, wS_ct, wS_seq, wV_d, wV_l, wO_d, wO_l, wL_some, wL_ite, wL_map, cB_true, cB_false, cB_not, wZ_d, wZ_l, wTk_some, wT_some, wipeE, tk_nil, tk_v, tk_s, putA, mask, d1, d2, tyD, okS_d, okS_l, lOf, asI, Option.isSome_some, Option.getD_some, Option.map_some, List.getElem?_cons_zero, List.getElem?_cons_succ, List.set_cons_zero, List.set_cons_succ, List.replicate_succ, List.replicate_zero, List.cons_append, List.nil_append, List.not_mem_nil, List.mem_cons, or_false, not_false_eq_true, true_and, decide_true, if_true, if_false, Bool.false_eq_true, reduceIte, Nat.reduceEqDiff, Nat.reduceAdd, Nat.reduceSub, Nat.reduceLeDiff, Nat.reduceLT, Int.reduceLT, Int.reduceLE, Int.reduceAdd, Int.reduceSub, Int.reduceEq, Int.reduceNeg, Nat.reduceMul, decide_false, Bool.not_true, Bool.not_false, and_true, true_or, or_true, Int.reduceMul, Int.reduceToNat, Nat.reducePow, Int.reducePow, Nat.not_lt_zero, r_par2, r_par3, wP2_c, wP3_c, r_fld, r_fldP, r_fldA, r_meth, r_make, r_pop, wFl_d, wNo_none, wMk_ok, oFs_o, okS_o, List.map_cons, List.map_nil, false_or, l_addI, l_addS, l_addL, l_addT, l_sub, l_div, l_mod, l_mulI, l_mulS, l_mulL, l_eqI, l_eqS, l_neI, l_neS, l_ltI, l_leI, l_gtI, l_geI, l_ltS, l_leS, l_gtS, l_geS, l_truI, l_truB, l_truL, l_truT, l_truN, l_truS, l_lenS, l_lenL, l_lenT, l_intI, l_absI, l_tupL, l_tupT, l_itL, l_itT, l_itS, l_rg1, l_rg2, l_ixL, l_ixT, l_ixS, at_0, at_1, at_2, at_3, set_0, set_1, set_2, set_3, List.length_cons, List.length_nil, Int.cast_ofNat_Int, Int.natCast_one, tgD_n, tgD_t, tgA_nil, tgA_cons, Option.bind_some, l_isSS, l_isST, l_isSL, l_isSI, l_isTT, l_isTS, l_isTL, l_isTI, l_isII, l_isBI, l_isLL, l_ord]
      refine ⟨((lo + hi + 1) / 2 - 1 - lo).toNat, by omega, lo, _, _, rfl, g1, g2, ?_, by omega, rfl⟩
      refine Classical.byContradiction fun hc => ?_
      have := ya_mono (show (lo + hi + 1) / 2 ≤ y by omega)
      omega
  · have : lo = y := by omega
    subst this
    have hh : hi = lo := by omega
    subst hh
    simp only [r_lft, r_var, r_own, r_c, r_bin, r_binO, r_cmp, r_tcmp, r_tcmpO, r_tru, r_tand, r_tor, r_tnot, r_eif, r_nif, r_and, r_or, r_not, r_neg, r_cb, r_ncb, r_bm, r_bm0, r_tup, r_lst, r_anil, r_acons, r_aone, r_vnil, r_vcons, r_vslot, r_sl, r_onone, r_osome, r_chain, r_tchain, r_isi, r_iany, r_rg1, r_rg2, r_yes, r_frz, r_call, r_F, r_sif, r_snil, r_pass, r_break, r_cont, r_no, r_ret, r_retN, r_retNone, r_drop, r_dropN, r_asg, r_asgN, r_aug, r_stup, r_app, r_ext, r_setix, r_for, r_retOwn, wE_nComp, wE_ok, wS_nx, wS_rt, wS_bk, wS_ct, wS_seq, wV_d, wV_l, wO_d, wO_l, wL_some, wL_ite, wL_map, cB_true, cB_false, cB_not, wZ_d, wZ_l, wTk_some, wT_some, wipeE, tk_nil, tk_v, tk_s, putA, mask, d1, d2, tyD, okS_d, okS_l, lOf, asI, Option.isSome_some, Option.getD_some, Option.map_some, List.getElem?_cons_zero, List.getElem?_cons_succ, List.set_cons_zero, List.set_cons_succ, List.replicate_succ, List.replicate_zero, List.cons_append, List.nil_append, List.not_mem_nil, List.mem_cons, or_false, not_false_eq_true, true_and, decide_true, if_true, if_false, Bool.false_eq_true, reduceIte, Nat.reduceEqDiff, Nat.reduceAdd, Nat.reduceSub, Nat.reduceLeDiff, Nat.reduceLT, Int.reduceLT, Int.reduceLE, Int.reduceAdd, Int.reduceSub, Int.reduceEq, Int.reduceNeg, Nat.reduceMul, decide_false, Bool.not_true, Bool.not_false, and_true, true_or, or_true, Int.reduceMul, Int.reduceToNat, Nat.reducePow, Int.reducePow, Nat.not_lt_zero, r_par2, r_par3, wP2_c, wP3_c, r_fld, r_fldP, r_fldA, r_meth, r_make, r_pop, wFl_d, wNo_none, wMk_ok, oFs_o, okS_o, List.map_cons, List.map_nil, false_or, l_addI, l_addS, l_addL, l_addT, l_sub, l_div, l_mod, l_mulI, l_mulS, l_mulL, l_eqI, l_eqS, l_neI, l_neS, l_ltI, l_leI, l_gtI, l_geI, l_ltS, l_leS, l_gtS, l_geS, l_truI, l_truB, l_truL, l_truT, l_truN, l_truS, l_lenS, l_lenL, l_lenT, l_intI, l_absI, l_tupL, l_tupT, l_itL, l_itT, l_itS, l_rg1, l_rg2, l_ixL, l_ixT, l_ixS, at_0, at_1, at_2, at_3, set_0, set_1, set_2, set_3, List.length_cons, List.length_nil, Int.cast_ofNat_Int, Int.natCast_one, tgD_n, tgD_t, tgA_nil, tgA_cons, Option.bind_some, l_isSS, l_isST, l_isSL, l_isSI, l_isTT, l_isTS, l_isTL, l_isTI, l_isII, l_isBI, l_isLL, l_ord, hlt, yearsahead]
    refine wS_while (fun k e => ∃ (mo : Int), e = [.d (.int (num hi m d)), .d (.int (num hi m d + 719162)), .d (.int hi), .d (.int hi), q4, .d (.int (bm hi m + d - 1 - bm hi mo)), .d (.int mo)] ∧ 1 ≤ mo ∧ mo ≤ m ∧ k = (m - mo).toNat) ?_ _ (m - 1).toNat _ ⟨1, ?_, by omega, by omega, rfl⟩ (by omega)
    · rintro k e ⟨mo, rfl, k1, k2, rfl⟩
      have hl := lengthof (y := hi) (m := mo) k1 (by omega)
      simp only [r_lft, r_var, r_own, r_c, r_bin, r_binO, r_cmp, r_tcmp, r_tcmpO, r_tru, r_tand, r_tor, r_tnot, r_eif, r_nif, r_and, r_or, r_not, r_neg, r_cb, r_ncb, r_bm, r_bm0, r_tup, r_lst, r_anil, r_acons, r_aone, r_vnil, r_vcons, r_vslot, r_sl, r_onone, r_osome, r_chain, r_tchain, r_isi, r_iany, r_rg1, r_rg2, r_yes, r_frz, r_call, r_F, r_sif, r_snil, r_pass, r_break, r_cont, r_no, r_ret, r_retN, r_retNone, r_drop, r_dropN, r_asg, r_asgN, r_aug, r_stup, r_app, r_ext, r_setix, r_for, r_retOwn, wE_nComp, wE_ok, wS_nx, wS_rt, wS_bk, wS_ct, wS_seq, wV_d, wV_l, wO_d, wO_l, wL_some, wL_ite, wL_map, cB_true, cB_false, cB_not, wZ_d, wZ_l, wTk_some, wT_some, wipeE, tk_nil, tk_v, tk_s, putA, mask, d1, d2, tyD, okS_d, okS_l, lOf, asI, Option.isSome_some, Option.getD_some, Option.map_some, List.getElem?_cons_zero, List.getElem?_cons_succ, List.set_cons_zero, List.set_cons_succ, List.replicate_succ, List.replicate_zero, List.cons_append, List.nil_append, List.not_mem_nil, List.mem_cons, or_false, not_false_eq_true, true_and, decide_true, if_true, if_false, Bool.false_eq_true, reduceIte, Nat.reduceEqDiff, Nat.reduceAdd, Nat.reduceSub, Nat.reduceLeDiff, Nat.reduceLT, Int.reduceLT, Int.reduceLE, Int.reduceAdd, Int.reduceSub, Int.reduceEq, Int.reduceNeg, Nat.reduceMul, decide_false, Bool.not_true, Bool.not_false, and_true, true_or, or_true, Int.reduceMul, Int.reduceToNat, Nat.reducePow, Int.reducePow, Nat.not_lt_zero, r_par2, r_par3, wP2_c, wP3_c, r_fld, r_fldP, r_fldA, r_meth, r_make, r_pop, wFl_d, wNo_none, wMk_ok, oFs_o, okS_o, List.map_cons, List.map_nil, false_or, l_addI, l_addS, l_addL, l_addT, l_sub, l_div, l_mod, l_mulI, l_mulS, l_mulL, l_eqI, l_eqS, l_neI, l_neS, l_ltI, l_leI, l_gtI, l_geI, l_ltS, l_leS, l_gtS, l_geS, l_truI, l_truB, l_truL, l_truT, l_truN, l_truS, l_lenS, l_lenL, l_lenT, l_intI, l_absI, l_tupL, l_tupT, l_itL, l_itT, l_itS, l_rg1, l_rg2, l_ixL, l_ixT, l_ixS, at_0, at_1, at_2, at_3, set_0, set_1, set_2, set_3, List.length_cons, List.length_nil, Int.cast_ofNat_Int, Int.natCast_one, tgD_n, tgD_t, tgA_nil, tgA_cons, Option.bind_some, l_isSS, l_isST, l_isSL, l_isSI, l_isTT, l_isTS, l_isTL, l_isTI, l_isII, l_isBI, l_isLL, l_ord, hl]
      by_cases hmo : mo = m
      · subst hmo
        have e1 : decide (len hi mo ≤ bm hi mo + d - 1 - bm hi mo) = false := decide_eq_false (by omega)
        simp only [r_lft, r_var, r_own, r_c, r_bin, r_binO, r_cmp, r_tcmp, r_tcmpO, r_tru, r_tand, r_tor, r_tnot, r_eif, r_nif, r_and, r_or, r_not, r_neg, r_cb, r_ncb, r_bm, r_bm0, r_tup, r_lst, r_anil, r_acons, r_aone, r_vnil, r_vcons, r_vslot, r_sl, r_onone, r_osome, r_chain, r_tchain, r_isi, r_iany, r_rg1, r_rg2, r_yes, r_frz, r_call, r_F, r_sif, r_snil, r_pass, r_break, r_cont, r_no, r_ret, r_retN, r_retNone, r_drop, r_dropN, r_asg, r_asgN, r_aug, r_stup, r_app, r_ext, r_setix, r_for, r_retOwn, wE_nComp, wE_ok, wS_nx, wS_rt, wS_bk, wS_ct, wS_seq, wV_d, wV_l, wO_d, wO_l, wL_some, wL_ite, wL_map, cB_true, cB_false, cB_not, wZ_d, wZ_l, wTk_some, wT_some, wipeE, tk_nil, tk_v, tk_s, putA, mask, d1, d2, tyD, okS_d, okS_l, lOf, asI, Option.isSome_some, Option.getD_some, Option.map_some, List.getElem?_cons_zero, List.getElem?_cons_succ, List.set_cons_zero, List.set_cons_succ, List.replicate_succ, List.replicate_zero, List.cons_append, List.nil_append, List.not_mem_nil, List.mem_cons, or_false, not_false_eq_true, true_and, decide_true, if_true, if_false, Bool.false_eq_true, reduceIte, Nat.reduceEqDiff, Nat.reduceAdd, Nat.reduceSub, Nat.reduceLeDiff, Nat.reduceLT, Int.reduceLT, Int.reduceLE, Int.reduceAdd, Int.reduceSub, Int.reduceEq, Int.reduceNeg, Nat.reduceMul, decide_false, Bool.not_true, Bool.not_false, and_true, true_or, or_true, Int.reduceMul, Int.reduceToNat, Nat.reducePow, Int.reducePow, Nat.not_lt_zero, r_par2, r_par3, wP2_c, wP3_c, r_fld, r_fldP, r_fldA, r_meth, r_make, r_pop, wFl_d, wNo_none, wMk_ok, oFs_o, okS_o, List.map_cons, List.map_nil, false_or, l_addI, l_addS, l_addL, l_addT, l_sub, l_div, l_mod, l_mulI, l_mulS, l_mulL, l_eqI, l_eqS, l_neI, l_neS, l_ltI, l_leI, l_gtI, l_geI, l_ltS, l_leS, l_gtS, l_geS, l_truI, l_truB, l_truL, l_truT, l_truN, l_truS, l_lenS, l_lenL, l_lenT, l_intI, l_absI, l_tupL, l_tupT, l_itL, l_itT, l_itS, l_rg1, l_rg2, l_ixL, l_ixT, l_ixS, at_0, at_1, at_2, at_3, set_0, set_1, set_2, set_3, List.length_cons, List.length_nil, Int.cast_ofNat_Int, Int.natCast_one, tgD_n, tgD_t, tgA_nil, tgA_cons, Option.bind_some, l_isSS, l_isST, l_isSL, l_isSI, l_isTT, l_isTS, l_isTL, l_isTI, l_isII, l_isBI, l_isLL, l_ord, e1]
        rw [show bm hi mo + d - 1 - bm hi mo + 1 = d by omega]
      · have b1 := bm_le (y := hi) (m := mo + 1) (n := m) (by omega) (by omega)
        have b2 := bm_next (y := hi) k1
        have e1 : decide (len hi mo ≤ bm hi m + d - 1 - bm hi mo) = true := decide_eq_true (by omega)
        simp only [r_lft, r_var, r_own, r_c, r_bin, r_binO, r_cmp, r_tcmp, r_tcmpO, r_tru, r_tand, r_tor, r_tnot, r_eif, r_nif, r_and, r_or, r_not, r_neg, r_cb, r_ncb, r_bm, r_bm0, r_tup, r_lst, r_anil, r_acons, r_aone, r_vnil, r_vcons, r_vslot, r_sl, r_onone, r_osome, r_chain, r_tchain, r_isi, r_iany, r_rg1, r_rg2, r_yes, r_frz, r_call, r_F, r_sif, r_snil, r_pass, r_break, r_cont, r_no, r_ret, r_retN, r_retNone, r_drop, r_dropN, r_asg, r_asgN, r_aug, r_stup, r_app, r_ext, r_setix, r_for, r_retOwn, wE_nComp, wE_ok, wS_nx, wS_rt, wS_bk, wS_ct, wS_seq, wV_d, wV_l, wO_d, wO_l, wL_some, wL_ite, wL_map, cB_true, cB_false, cB_not, wZ_d, wZ_l, wTk_some, wT_some, wipeE, tk_nil, tk_v, tk_s, putA, mask, d1, d2, tyD, okS_d, okS_l, lOf, asI, Option.isSome_some, Option.getD_some, Option.map_some, List.getElem?_cons_zero, List.getElem?_cons_succ, List.set_cons_zero, List.set_cons_succ, List.replicate_succ, List.replicate_zero, List.cons_append, List.nil_append, List.not_mem_nil, List.mem_cons, or_false, not_false_eq_true, true_and, decide_true, if_true, if_false, Bool.false_eq_true, reduceIte, Nat.reduceEqDiff, Nat.reduceAdd, Nat.reduceSub, Nat.reduceLeDiff, Nat.reduceLT, Int.reduceLT, Int.reduceLE, Int.reduceAdd, Int.reduceSub, Int.reduceEq, Int.reduceNeg, Nat.reduceMul, decide_false, Bool.not_true, Bool.not_false, and_true, true_or, or_true, Int.reduceMul, Int.reduceToNat, Nat.reducePow, Int.reducePow, Nat.not_lt_zero, r_par2, r_par3, wP2_c, wP3_c, r_fld, r_fldP, r_fldA, r_meth, r_make, r_pop, wFl_d, wNo_none, wMk_ok, oFs_o, okS_o, List.map_cons, List.map_nil, false_or, l_addI, l_addS, l_addL, l_addT, l_sub, l_div, l_mod, l_mulI, l_mulS, l_mulL, l_eqI, l_eqS, l_neI, l_neS, l_ltI, l_leI, l_gtI, l_geI, l_ltS, l_leS, l_gtS, l_geS, l_truI, l_truB, l_truL, l_truT, l_truN, l_truS, l_lenS, l_lenL, l_lenT, l_intI, l_absI, l_tupL, l_tupT, l_itL, l_itT, l_itS, l_rg1, l_rg2, l_ixL, l_ixT, l_ixS, at_0, at_1, at_2, at_3, set_0, set_1, set_2, set_3, List.length_cons, List.length_nil, Int.cast_ofNat_Int, Int.natCast_one, tgD_n, tgD_t, tgA_nil, tgA_cons, Option.bind_some, l_isSS, l_isST, l_isSL, l_isSI, l_isTT, l_isTS, l_isTL, l_isTI, l_isII, l_isBI, l_isLL, l_ord, e1, hl, dAddI]
        refine ⟨(m - (mo + 1)).toNat, by omega, mo + 1, ?_, by omega, by omega, rfl⟩
        rw [b2, show bm hi m + d - 1 - bm hi mo - len hi mo = bm hi m + d - 1 - (bm hi mo + len hi mo) by omega]
    · rw [bm_one, show num hi m d + 719162 - ya hi = bm hi m + d - 1 - 0 by unfold num; omega]
theorem dateof {y m d : Int} (h : Ok y m d) : m_date_of [.d (.int (num y m d))] = .ok (.d (.tuple [.int y, .int m, .int d])) [.un] := by
  refine eqF (wF_run rfl ?_)
  simp only [b_date_of, r_lft, r_var, r_own, r_c, r_bin, r_binO, r_cmp, r_tcmp, r_tcmpO, r_tru, r_tand, r_tor, r_tnot, r_eif, r_nif, r_and, r_or, r_not, r_neg, r_cb, r_ncb, r_bm, r_bm0, r_tup, r_lst, r_anil, r_acons, r_aone, r_vnil, r_vcons, r_vslot, r_sl, r_onone, r_osome, r_chain, r_tchain, r_isi, r_iany, r_rg1, r_rg2, r_yes, r_frz, r_call, r_F, r_sif, r_snil, r_pass, r_break, r_cont, r_no, r_ret, r_retN, r_retNone, r_drop, r_dropN, r_asg, r_asgN, r_aug, r_stup, r_app, r_ext, r_setix, r_for, r_retOwn, wE_nComp, wE_ok, wS_nx, wS_rt, wS_bk, wS_ct, wS_seq, wV_d, wV_l, wO_d, wO_l, wL_some, wL_ite, wL_map, cB_true, cB_false, cB_not, wZ_d, wZ_l, wTk_some, wT_some, wipeE, tk_nil, tk_v, tk_s, putA, mask, d1, d2, tyD, okS_d, okS_l, lOf, asI, Option.isSome_some, Option.getD_some, Option.map_some, List.getElem?_cons_zero, List.getElem?_cons_succ, List.set_cons_zero, List.set_cons_succ, List.replicate_succ, List.replicate_zero, List.cons_append, List.nil_append, List.not_mem_nil, List.mem_cons, or_false, not_false_eq_true, true_and, decide_true, if_true, if_false, Bool.false_eq_true, reduceIte, Nat.reduceEqDiff, Nat.reduceAdd, Nat.reduceSub, Nat.reduceLeDiff, Nat.reduceLT, Int.reduceLT, Int.reduceLE, Int.reduceAdd, Int.reduceSub, Int.reduceEq, Int.reduceNeg, Nat.reduceMul, decide_false, Bool.not_true, Bool.not_false, and_true, true_or, or_true, Int.reduceMul, Int.reduceToNat, Nat.reducePow, Int.reducePow, Nat.not_lt_zero, r_par2, r_par3, wP2_c, wP3_c, r_fld, r_fldP, r_fldA, r_meth, r_make, r_pop, wFl_d, wNo_none, wMk_ok, oFs_o, okS_o, List.map_cons, List.map_nil, false_or, l_addI, l_addS, l_addL, l_addT, l_sub, l_div, l_mod, l_mulI, l_mulS, l_mulL, l_eqI, l_eqS, l_neI, l_neS, l_ltI, l_leI, l_gtI, l_geI, l_ltS, l_leS, l_gtS, l_geS, l_truI, l_truB, l_truL, l_truT, l_truN, l_truS, l_lenS, l_lenL, l_lenT, l_intI, l_absI, l_tupL, l_tupT, l_itL, l_itT, l_itS, l_rg1, l_rg2, l_ixL, l_ixT, l_ixS, at_0, at_1, at_2, at_3, set_0, set_1, set_2, set_3, List.length_cons, List.length_nil, Int.cast_ofNat_Int, Int.natCast_one, tgD_n, tgD_t, tgA_nil, tgA_cons, Option.bind_some, l_isSS, l_isST, l_isSL, l_isSI, l_isTT, l_isTS, l_isTL, l_isTI, l_isII, l_isBI, l_isLL, l_ord, checkdays (num_lo h) (num_hi h), datein h]
theorem weekdays {n : Int} (h1 : -719162 ≤ n) (h2 : n < 2932897) : m_weekday [.d (.int n)] = .ok (.d (.int ((n + 3) % 7))) [.un] := by
  refine eqF (wF_run rfl ?_)
  simp only [b_weekday, r_lft, r_var, r_own, r_c, r_bin, r_binO, r_cmp, r_tcmp, r_tcmpO, r_tru, r_tand, r_tor, r_tnot, r_eif, r_nif, r_and, r_or, r_not, r_neg, r_cb, r_ncb, r_bm, r_bm0, r_tup, r_lst, r_anil, r_acons, r_aone, r_vnil, r_vcons, r_vslot, r_sl, r_onone, r_osome, r_chain, r_tchain, r_isi, r_iany, r_rg1, r_rg2, r_yes, r_frz, r_call, r_F, r_sif, r_snil, r_pass, r_break, r_cont, r_no, r_ret, r_retN, r_retNone, r_drop, r_dropN, r_asg, r_asgN, r_aug, r_stup, r_app, r_ext, r_setix, r_for, r_retOwn, wE_nComp, wE_ok, wS_nx, wS_rt, wS_bk, wS_ct, wS_seq, wV_d, wV_l, wO_d, wO_l, wL_some, wL_ite, wL_map, cB_true, cB_false, cB_not, wZ_d, wZ_l, wTk_some, wT_some, wipeE, tk_nil, tk_v, tk_s, putA, mask, d1, d2, tyD, okS_d, okS_l, lOf, asI, Option.isSome_some, Option.getD_some, Option.map_some, List.getElem?_cons_zero, List.getElem?_cons_succ, List.set_cons_zero, List.set_cons_succ, List.replicate_succ, List.replicate_zero, List.cons_append, List.nil_append, List.not_mem_nil, List.mem_cons, or_false, not_false_eq_true, true_and, decide_true, if_true, if_false, Bool.false_eq_true, reduceIte, Nat.reduceEqDiff, Nat.reduceAdd, Nat.reduceSub, Nat.reduceLeDiff, Nat.reduceLT, Int.reduceLT, Int.reduceLE, Int.reduceAdd, Int.reduceSub, Int.reduceEq, Int.reduceNeg, Nat.reduceMul, decide_false, Bool.not_true, Bool.not_false, and_true, true_or, or_true, Int.reduceMul, Int.reduceToNat, Nat.reducePow, Int.reducePow, Nat.not_lt_zero, r_par2, r_par3, wP2_c, wP3_c, r_fld, r_fldP, r_fldA, r_meth, r_make, r_pop, wFl_d, wNo_none, wMk_ok, oFs_o, okS_o, List.map_cons, List.map_nil, false_or, l_addI, l_addS, l_addL, l_addT, l_sub, l_div, l_mod, l_mulI, l_mulS, l_mulL, l_eqI, l_eqS, l_neI, l_neS, l_ltI, l_leI, l_gtI, l_geI, l_ltS, l_leS, l_gtS, l_geS, l_truI, l_truB, l_truL, l_truT, l_truN, l_truS, l_lenS, l_lenL, l_lenT, l_intI, l_absI, l_tupL, l_tupT, l_itL, l_itT, l_itS, l_rg1, l_rg2, l_ixL, l_ixT, l_ixS, at_0, at_1, at_2, at_3, set_0, set_1, set_2, set_3, List.length_cons, List.length_nil, Int.cast_ofNat_Int, Int.natCast_one, tgD_n, tgD_t, tgA_nil, tgA_cons, Option.bind_some, l_isSS, l_isST, l_isSL, l_isSI, l_isTT, l_isTS, l_isTL, l_isTI, l_isII, l_isBI, l_isLL, l_ord, checkdays h1 h2]
/-- the next day -/
def nxt (y m d : Int) : Int × Int × Int := if d < len y m then (y, m, d + 1) else if m < 12 then (y, m + 1, 1) else (y + 1, 1, 1)
theorem lawnext (y m d : Int) : m__law_next_day [.d (.tuple [.int y, .int m, .int d])] = .ok (.d (.tuple [.int (nxt y m d).1, .int (nxt y m d).2.1, .int (nxt y m d).2.2])) [.un] := by
  refine eqF (wF_run rfl ?_)
  simp only [b__law_next_day, r_lft, r_var, r_own, r_c, r_bin, r_binO, r_cmp, r_tcmp, r_tcmpO, r_tru, r_tand, r_tor, r_tnot, r_eif, r_nif, r_and, r_or, r_not, r_neg, r_cb, r_ncb, r_bm, r_bm0, r_tup, r_lst, r_anil, r_acons, r_aone, r_vnil, r_vcons, r_vslot, r_sl, r_onone, r_osome, r_chain, r_tchain, r_isi, r_iany, r_rg1, r_rg2, r_yes, r_frz, r_call, r_F, r_sif, r_snil, r_pass, r_break, r_cont, r_no, r_ret, r_retN, r_retNone, r_drop, r_dropN, r_asg, r_asgN, r_aug, r_stup, r_app, r_ext, r_setix, r_for, r_retOwn, wE_nComp, wE_ok, wS_nx, wS_rt, wS_bk, wS_ct, wS_seq, wV_d, wV_l, wO_d, wO_l, wL_some, wL_ite, wL_map, cB_true, cB_false, cB_not, wZ_d, wZ_l, wTk_some, wT_some, wipeE, tk_nil, tk_v, tk_s, putA, mask, d1, d2, tyD, okS_d, okS_l, lOf, asI, Option.isSome_some, Option.getD_some, Option.map_some, List.getElem?_cons_zero, List.getElem?_cons_succ, List.set_cons_zero, List.set_cons_succ, List.replicate_succ, List.replicate_zero, List.cons_append, List.nil_append, List.not_mem_nil, List.mem_cons, or_false, not_false_eq_true, true_and, decide_true, if_true, if_false, Bool.false_eq_true, reduceIte, Nat.reduceEqDiff, Nat.reduceAdd, Nat.reduceSub, Nat.reduceLeDiff, Nat.reduceLT, Int.reduceLT, Int.reduceLE, Int.reduceAdd, Int.reduceSub, Int.reduceEq, Int.reduceNeg, Nat.reduceMul, decide_false, Bool.not_true, Bool.not_false, and_true, true_or, or_true, Int.reduceMul, Int.reduceToNat, Nat.reducePow, Int.reducePow, Nat.not_lt_zero, r_par2, r_par3, wP2_c, wP3_c, r_fld, r_fldP, r_fldA, r_meth, r_make, r_pop, wFl_d, wNo_none, wMk_ok, oFs_o, okS_o, List.map_cons, List.map_nil, false_or, l_addI, l_addS, l_addL, l_addT, l_sub, l_div, l_mod, l_mulI, l_mulS, l_mulL, l_eqI, l_eqS, l_neI, l_neS, l_ltI, l_leI, l_gtI, l_geI, l_ltS, l_leS, l_gtS, l_geS, l_truI, l_truB, l_truL, l_truT, l_truN, l_truS, l_lenS, l_lenL, l_lenT, l_intI, l_absI, l_tupL, l_tupT, l_itL, l_itT, l_itS, l_rg1, l_rg2, l_ixL, l_ixT, l_ixS, at_0, at_1, at_2, at_3, set_0, set_1, set_2, set_3, List.length_cons, List.length_nil, Int.cast_ofNat_Int, Int.natCast_one, tgD_n, tgD_t, tgA_nil, tgA_cons, Option.bind_some, l_isSS, l_isST, l_isSL, l_isSI, l_isTT, l_isTS, l_isTL, l_isTI, l_isII, l_isBI, l_isLL, l_ord, lawlen]
  unfold nxt
  refine cB_dec (fun g => ?_) fun g => ?_
  · simp only [r_lft, r_var, r_own, r_c, r_bin, r_binO, r_cmp, r_tcmp, r_tcmpO, r_tru, r_tand, r_tor, r_tnot, r_eif, r_nif, r_and, r_or, r_not, r_neg, r_cb, r_ncb, r_bm, r_bm0, r_tup, r_lst, r_anil, r_acons, r_aone, r_vnil, r_vcons, r_vslot, r_sl, r_onone, r_osome, r_chain, r_tchain, r_isi, r_iany, r_rg1, r_rg2, r_yes, r_frz, r_call, r_F, r_sif, r_snil, r_pass, r_break, r_cont, r_no, r_ret, r_retN, r_retNone, r_drop, r_dropN, r_asg, r_asgN, r_aug, r_stup, r_app, r_ext, r_setix, r_for, r_retOwn, wE_nComp, wE_ok, wS_nx, wS_rt, wS_bk, wS_ct, wS_seq, wV_d, wV_l, wO_d, wO_l, wL_some, wL_ite, wL_map, cB_true, cB_false, cB_not, wZ_d, wZ_l, wTk_some, wT_some, wipeE, tk_nil, tk_v, tk_s, putA, mask, d1, d2, tyD, okS_d, okS_l, lOf, asI, Option.isSome_some, Option.getD_some, Option.map_some, List.getElem?_cons_zero, List.getElem?_cons_succ, List.set_cons_zero, List.set_cons_succ, List.replicate_succ, List.replicate_zero, List.cons_append, List.nil_append, List.not_mem_nil, List.mem_cons, or_false, not_false_eq_true, true_and, decide_true, if_true, if_false, Bool.false_eq_true, reduceIte, Nat.reduceEqDiff, Nat.reduceAdd, Nat.reduceSub, Nat.reduceLeDiff, Nat.reduceLT, Int.reduceLT, Int.reduceLE, Int.reduceAdd, Int.reduceSub, Int.reduceEq, Int.reduceNeg, Nat.reduceMul, decide_false, Bool.not_true, Bool.not_false, and_true, true_or, or_true, Int.reduceMul, Int.reduceToNat, Nat.reducePow, Int.reducePow, Nat.not_lt_zero, r_par2, r_par3, wP2_c, wP3_c, r_fld, r_fldP, r_fldA, r_meth, r_make, r_pop, wFl_d, wNo_none, wMk_ok, oFs_o, okS_o, List.map_cons, List.map_nil, false_or, l_addI, l_addS, l_addL, l_addT, l_sub, l_div, l_mod, l_mulI, l_mulS, l_mulL, l_eqI, l_eqS, l_neI, l_neS, l_ltI, l_leI, l_gtI, l_geI, l_ltS, l_leS, l_gtS, l_geS, l_truI, l_truB, l_truL, l_truT, l_truN, l_truS, l_lenS, l_lenL, l_lenT, l_intI, l_absI, l_tupL, l_tupT, l_itL, l_itT, l_itS, l_rg1, l_rg2, l_ixL, l_ixT, l_ixS, at_0, at_1, at_2, at_3, set_0, set_1, set_2, set_3, List.length_cons, List.length_nil, Int.cast_ofNat_Int, Int.natCast_one, tgD_n, tgD_t, tgA_nil, tgA_cons, Option.bind_some, l_isSS, l_isST, l_isSL, l_isSI, l_isTT, l_isTS, l_isTL, l_isTI, l_isII, l_isBI, l_isLL, l_ord, if_pos g]
  · simp only [r_lft, r_var, r_own, r_c, r_bin, r_binO, r_cmp, r_tcmp, r_tcmpO, r_tru, r_tand, r_tor, r_tnot, r_eif, r_nif, r_and, r_or, r_not, r_neg, r_cb, r_ncb, r_bm, r_bm0, r_tup, r_lst, r_anil, r_acons, r_aone, r_vnil, r_vcons, r_vslot, r_sl, r_onone, r_osome, r_chain, r_tchain, r_isi, r_iany, r_rg1, r_rg2, r_yes, r_frz, r_call, r_F, r_sif, r_snil, r_pass, r_break, r_cont, r_no, r_ret, r_retN, r_retNone, r_drop, r_dropN, r_asg, r_asgN, r_aug, r_stup, r_app, r_ext, r_setix, r_for, r_retOwn, wE_nComp, wE_ok, wS_nx, wS_rt, wS_bk, wS_ct, wS_seq, wV_d, wV_l, wO_d, wO_l, wL_some, wL_ite, wL_map, cB_true, cB_false, cB_not, wZ_d, wZ_l, wTk_some, wT_some, wipeE, tk_nil, tk_v, tk_s, putA, mask, d1, d2, tyD, okS_d, okS_l, lOf, asI, Option.isSome_some, Option.getD_some, Option.map_some, List.getElem?_cons_zero, List.getElem?_cons_succ, List.set_cons_zero, List.set_cons_succ, List.replicate_succ, List.replicate_zero, List.cons_append, List.nil_append, List.not_mem_nil, List.mem_cons, or_false, not_false_eq_true, true_and, decide_true, if_true, if_false, Bool.false_eq_true, reduceIte, Nat.reduceEqDiff, Nat.reduceAdd, Nat.reduceSub, Nat.reduceLeDiff, Nat.reduceLT, Int.reduceLT, Int.reduceLE, Int.reduceAdd, Int.reduceSub, Int.reduceEq, Int.reduceNeg, Nat.reduceMul, decide_false, Bool.not_true, Bool.not_false, and_true, true_or, or_true, Int.reduceMul, Int.reduceToNat, Nat.reducePow, Int.reducePow, Nat.not_lt_zero, r_par2, r_par3, wP2_c, wP3_c, r_fld, r_fldP, r_fldA, r_meth, r_make, r_pop, wFl_d, wNo_none, wMk_ok, oFs_o, okS_o, List.map_cons, List.map_nil, false_or, l_addI, l_addS, l_addL, l_addT, l_sub, l_div, l_mod, l_mulI, l_mulS, l_mulL, l_eqI, l_eqS, l_neI, l_neS, l_ltI, l_leI, l_gtI, l_geI, l_ltS, l_leS, l_gtS, l_geS, l_truI, l_truB, l_truL, l_truT, l_truN, l_truS, l_lenS, l_lenL, l_lenT, l_intI, l_absI, l_tupL, l_tupT, l_itL, l_itT, l_itS, l_rg1, l_rg2, l_ixL, l_ixT, l_ixS, at_0, at_1, at_2, at_3, set_0, set_1, set_2, set_3, List.length_cons, List.length_nil, Int.cast_ofNat_Int, Int.natCast_one, tgD_n, tgD_t, tgA_nil, tgA_cons, Option.bind_some, l_isSS, l_isST, l_isSL, l_isSI, l_isTT, l_isTS, l_isTL, l_isTI, l_isII, l_isBI, l_isLL, l_ord, if_neg g]
    refine cB_dec (fun g2 => ?_) fun g2 => ?_
    · simp only [r_lft, r_var, r_own, r_c, r_bin, r_binO, r_cmp, r_tcmp, r_tcmpO, r_tru, r_tand, r_tor, r_tnot, r_eif, r_nif, r_and, r_or, r_not, r_neg, r_cb, r_ncb, r_bm, r_bm0, r_tup, r_lst, r_anil, r_acons, r_aone, r_vnil, r_vcons, r_vslot, r_sl, r_onone, r_osome, r_chain, r_tchain, r_isi, r_iany, r_rg1, r_rg2, r_yes, r_frz, r_call, r_F, r_sif, r_snil, r_pass, r_break, r_cont, r_no, r_ret, r_retN, r_retNone, r_drop, r_dropN, r_asg, r_asgN, r_aug, r_stup, r_app, r_ext, r_setix, r_for, r_retOwn, wE_nComp, wE_ok, wS_nx, wS_rt, wS_bk, wS_ct, wS_seq, wV_d, wV_l, wO_d, wO_l, wL_some, wL_ite, wL_map, cB_true, cB_false, cB_not, wZ_d, wZ_l, wTk_some, wT_some, wipeE, tk_nil, tk_v, tk_s, putA, mask, d1, d2, tyD, okS_d, okS_l, lOf, asI, Option.isSome_some, Option.getD_some, Option.map_some, List.getElem?_cons_zero, List.getElem?_cons_succ, List.set_cons_zero, List.set_cons_succ, List.replicate_succ, List.replicate_zero, List.cons_append, List.nil_append, List.not_mem_nil, List.mem_cons, or_false, not_false_eq_true, true_and, decide_true, if_true, if_false, Bool.false_eq_true, reduceIte, Nat.reduceEqDiff, Nat.reduceAdd, Nat.reduceSub, Nat.reduceLeDiff, Nat.reduceLT, Int.reduceLT, Int.reduceLE, Int.reduceAdd, Int.reduceSub, Int.reduceEq, Int.reduceNeg, Nat.reduceMul, decide_false, Bool.not_true, Bool.not_false, and_true, true_or, or_true, Int.reduceMul, Int.reduceToNat, Nat.reducePow, Int.reducePow, Nat.not_lt_zero, r_par2, r_par3, wP2_c, wP3_c, r_fld, r_fldP, r_fldA, r_meth, r_make, r_pop, wFl_d, wNo_none, wMk_ok, oFs_o, okS_o, List.map_cons, List.map_nil, false_or, l_addI, l_addS, l_addL, l_addT, l_sub, l_div, l_mod, l_mulI, l_mulS, l_mulL, l_eqI, l_eqS, l_neI, l_neS, l_ltI, l_leI, l_gtI, l_geI, l_ltS, l_leS, l_gtS, l_geS, l_truI, l_truB, l_truL, l_truT, l_truN, l_truS, l_lenS, l_lenL, l_lenT, l_intI, l_absI, l_tupL, l_tupT, l_itL, l_itT, l_itS, l_rg1, l_rg2, l_ixL, l_ixT, l_ixS, at_0, at_1, at_2, at_3, set_0, set_1, set_2, set_3, List.length_cons, List.length_nil, Int.cast_ofNat_Int, Int.natCast_one, tgD_n, tgD_t, tgA_nil, tgA_cons, Option.bind_some, l_isSS, l_isST, l_isSL, l_isSI, l_isTT, l_isTS, l_isTL, l_isTI, l_isII, l_isBI, l_isLL, l_ord, if_neg g, if_pos g2]
    · simp only [r_lft, r_var, r_own, r_c, r_bin, r_binO, r_cmp, r_tcmp, r_tcmpO, r_tru, r_tand, r_tor, r_tnot, r_eif, r_nif, r_and, r_or, r_not, r_neg, r_cb, r_ncb, r_bm, r_bm0, r_tup, r_lst, r_anil, r_acons, r_aone, r_vnil, r_vcons, r_vslot, r_sl, r_onone, r_osome, r_chain, r_tchain, r_isi, r_iany, r_rg1, r_rg2, r_yes, r_frz, r_call, r_F, r_sif, r_snil, r_pass, r_break, r_cont, r_no, r_ret, r_retN, r_retNone, r_drop, r_dropN, r_asg, r_asgN, r_aug, r_stup, r_app, r_ext, r_setix, r_for, r_retOwn, wE_nComp, wE_ok, wS_nx, wS_rt, wS_bk, wS_ct, wS_seq, wV_d, wV_l, wO_d, wO_l, wL_some, wL_ite, wL_map, cB_true, cB_false, cB_not, wZ_d, wZ_l, wTk_some, wT_some, wipeE, tk_nil, tk_v, tk_s, putA, mask, d1, d2, tyD, okS_d, okS_l, lOf, asI, Option.isSome_some, Option.getD_some, Option.map_some, List.getElem?_cons_zero, List.getElem?_cons_succ, List.set_cons_zero, List.set_cons_succ, List.replicate_succ, List.replicate_zero, List.cons_append, List.nil_append, List.not_mem_nil, List.mem_cons, or_false, not_false_eq_true, true_and, decide_true, if_true, if_false, Bool.false_eq_true, reduceIte, Nat.reduceEqDiff, Nat.reduceAdd, Nat.reduceSub, Nat.reduceLeDiff, Nat.reduceLT, Int.reduceLT, Int.reduceLE, Int.reduceAdd, Int.reduceSub, Int.reduceEq, Int.reduceNeg, Nat.reduceMul, decide_false, Bool.not_true, Bool.not_false, and_true, true_or, or_true, Int.reduceMul, Int.reduceToNat, Nat.reducePow, Int.reducePow, Nat.not_lt_zero, r_par2, r_par3, wP2_c, wP3_c, r_fld, r_fldP, r_fldA, r_meth, r_make, r_pop, wFl_d, wNo_none, wMk_ok, oFs_o, okS_o, List.map_cons, List.map_nil, false_or, l_addI, l_addS, l_addL, l_addT, l_sub, l_div, l_mod, l_mulI, l_mulS, l_mulL, l_eqI, l_eqS, l_neI, l_neS, l_ltI, l_leI, l_gtI, l_geI, l_ltS, l_leS, l_gtS, l_geS, l_truI, l_truB, l_truL, l_truT, l_truN, l_truS, l_lenS, l_lenL, l_lenT, l_intI, l_absI, l_tupL, l_tupT, l_itL, l_itT, l_itS, l_rg1, l_rg2, l_ixL, l_ixT, l_ixS, at_0, at_1, at_2, at_3, set_0, set_1, set_2, set_3, List.length_cons, List.length_nil, Int.cast_ofNat_Int, Int.natCast_one, tgD_n, tgD_t, tgA_nil, tgA_cons, Option.bind_some, l_isSS, l_isST, l_isSL, l_isSI, l_isTT, l_isTS, l_isTL, l_isTI, l_isII, l_isBI, l_isLL, l_ord, if_neg g, if_neg g2]
theorem nxt_ok {y m d : Int} (h : Ok y m d) (hl : ¬ (y = 9999 ∧ m = 12 ∧ d = 31)) : Ok (nxt y m d).1 (nxt y m d).2.1 (nxt y m d).2.2 ∧ num (nxt y m d).1 (nxt y m d).2.1 (nxt y m d).2.2 = num y m d + 1 := by
  obtain ⟨h1, h2, h3, h4, h5, h6⟩ := h
  unfold nxt
  by_cases g1 : d < len y m
  · rw [if_pos g1]
    exact ⟨⟨h1, h2, h3, h4, by show 1 ≤ d + 1; omega, by show d + 1 ≤ len y m; omega⟩, by unfold num; show ya y + bm y m + (d + 1) - 1 - 719162 = _; omega⟩
  · rw [if_neg g1]
    by_cases g2 : m < 12
    · rw [if_pos g2]
      have := len_lo y (m + 1)
      refine ⟨⟨h1, h2, by show 1 ≤ m + 1; omega, by show m + 1 ≤ 12; omega, by show (1 : Int) ≤ 1; decide, by show 1 ≤ len y (m + 1); omega⟩, ?_⟩
      unfold num
      show ya y + bm y (m + 1) + 1 - 1 - 719162 = _
      rw [bm_next h3]
      omega
    · rw [if_neg g2]
      have hm : m = 12 := by omega
      subst hm
      have hl12 : len y 12 = 31 := by simp [len]
      have := len_lo (y + 1) 1
      refine ⟨⟨by show 1 ≤ y + 1; omega, by show y + 1 ≤ 9999; omega, by show (1 : Int) ≤ 1; decide, by show (1 : Int) ≤ 12; decide, by show (1 : Int) ≤ 1; decide, by show 1 ≤ len (y + 1) 1; omega⟩, ?_⟩
      unfold num
      show ya (y + 1) + bm (y + 1) 1 + 1 - 1 - 719162 = _
      have b := bm_next (y := y) (m := 12) (by omega)
      have c := bm_13 y
      rw [show (12 : Int) + 1 = 13 from rfl] at b
      rw [ya_next, bm_one]
      omega
/-! ### is it a date: values of any kind -/
/-- what is drawn for a part -/
inductive At : D → Prop
  | int (i : Int) : At (.int i)
  | non : At .none
  | bl : At (.bool true)
  | str : At (.str "1")
def isDt : D → D → D → Bool
  | .int y, .int m, .int d => decide (1 ≤ y ∧ y ≤ 9999 ∧ 1 ≤ m ∧ m ≤ 12 ∧ 1 ≤ d ∧ d ≤ len y m)
  | _, _, _ => false
def isInt : D → Bool
  | .int _ => true
  | _ => false
theorem isint' {x : D} (h : At x) : m_is_integer [.d x] = .ok (.d (.bool (isInt x))) [.un] := by
  cases h with
  | int i => exact isint i
  | _ => first | rfl | kernel_rfl
theorem whole' {x : D} (h : At x) : m__law_is_whole [.d x] = .ok (.d (.bool (isInt x))) [.un] := isint' h
theorem isdate' {x y z : D} (hx : At x) (hy : At y) (hz : At z) : m_is_date [.d x, .d y, .d z] = .ok (.d (.bool (isDt x y z))) [.un, .un, .un] := by
  refine eqF (wF_run rfl ?_)
  simp only [b_is_date, r_lft, r_var, r_own, r_c, r_bin, r_binO, r_cmp, r_tcmp, r_tcmpO, r_tru, r_tand, r_tor, r_tnot, r_eif, r_nif, r_and, r_or, r_not, r_neg, r_cb, r_ncb, r_bm, r_bm0, r_tup, r_lst, r_anil, r_acons, r_aone, r_vnil, r_vcons, r_vslot, r_sl, r_onone, r_osome, r_chain, r_tchain, r_isi, r_iany, r_rg1, r_rg2, r_yes, r_frz, r_call, r_F, r_sif, r_snil, r_pass, r_break, r_cont, r_no, r_ret, r_retN, r_retNone, r_drop, r_dropN, r_asg, r_asgN, r_aug, r_stup, r_app, r_ext, r_setix, r_for, r_retOwn, wE_nComp, wE_ok, wS_nx, wS_rt, wS_bk, wS_ct, wS_seq, wV_d, wV_l, wO_d, wO_l, wL_some, wL_ite, wL_map, cB_true, cB_false, cB_not, wZ_d, wZ_l, wTk_some, wT_some, wipeE, tk_nil, tk_v, tk_s, putA, mask, d1, d2, tyD, okS_d, okS_l, lOf, asI, Option.isSome_some, Option.getD_some, Option.map_some, List.getElem?_cons_zero, List.getElem?_cons_succ, List.set_cons_zero, List.set_cons_succ, List.replicate_succ, List.replicate_zero, List.cons_append, List.nil_append, List.not_mem_nil, List.mem_cons, or_false, not_false_eq_true, true_and, decide_true, if_true, if_false, Bool.false_eq_true, reduceIte, Nat.reduceEqDiff, Nat.reduceAdd, Nat.reduceSub, Nat.reduceLeDiff, Nat.reduceLT, Int.reduceLT, Int.reduceLE, Int.reduceAdd, Int.reduceSub, Int.reduceEq, Int.reduceNeg, Nat.reduceMul, decide_false, Bool.not_true, Bool.not_false, and_true, true_or, or_true, Int.reduceMul, Int.reduceToNat, Nat.reducePow, Int.reducePow, Nat.not_lt_zero, r_par2, r_par3, wP2_c, wP3_c, r_fld, r_fldP, r_fldA, r_meth, r_make, r_pop, wFl_d, wNo_none, wMk_ok, oFs_o, okS_o, List.map_cons, List.map_nil, false_or, l_addI, l_addS, l_addL, l_addT, l_sub, l_div, l_mod, l_mulI, l_mulS, l_mulL, l_eqI, l_eqS, l_neI, l_neS, l_ltI, l_leI, l_gtI, l_geI, l_ltS, l_leS, l_gtS, l_geS, l_truI, l_truB, l_truL, l_truT, l_truN, l_truS, l_lenS, l_lenL, l_lenT, l_intI, l_absI, l_tupL, l_tupT, l_itL, l_itT, l_itS, l_rg1, l_rg2, l_ixL, l_ixT, l_ixS, at_0, at_1, at_2, at_3, set_0, set_1, set_2, set_3, List.length_cons, List.length_nil, Int.cast_ofNat_Int, Int.natCast_one, tgD_n, tgD_t, tgA_nil, tgA_cons, Option.bind_some, l_isSS, l_isST, l_isSL, l_isSI, l_isTT, l_isTS, l_isTL, l_isTI, l_isII, l_isBI, l_isLL, l_ord, isint' hx]
  cases hx with
  | int a =>
    simp only [isInt, r_lft, r_var, r_own, r_c, r_bin, r_binO, r_cmp, r_tcmp, r_tcmpO, r_tru, r_tand, r_tor, r_tnot, r_eif, r_nif, r_and, r_or, r_not, r_neg, r_cb, r_ncb, r_bm, r_bm0, r_tup, r_lst, r_anil, r_acons, r_aone, r_vnil, r_vcons, r_vslot, r_sl, r_onone, r_osome, r_chain, r_tchain, r_isi, r_iany, r_rg1, r_rg2, r_yes, r_frz, r_call, r_F, r_sif, r_snil, r_pass, r_break, r_cont, r_no, r_ret, r_retN, r_retNone, r_drop, r_dropN, r_asg, r_asgN, r_aug, r_stup, r_app, r_ext, r_setix, r_for, r_retOwn, wE_nComp, wE_ok, wS_nx, wS_rt, wS_bk, wS_ct, wS_seq, wV_d, wV_l, wO_d, wO_l, wL_some, wL_ite, wL_map, cB_true, cB_false, cB_not, wZ_d, wZ_l, wTk_some, wT_some, wipeE, tk_nil, tk_v, tk_s, putA, mask, d1, d2, tyD, okS_d, okS_l, lOf, asI, Option.isSome_some, Option.getD_some, Option.map_some, List.getElem?_cons_zero, List.getElem?_cons_succ, List.set_cons_zero, List.set_cons_succ, List.replicate_succ, List.replicate_zero, List.cons_append, List.nil_append, List.not_mem_nil, List.mem_cons, or_false, not_false_eq_true, true_and, decide_true, if_true, if_false, Bool.false_eq_true, reduceIte, Nat.reduceEqDiff, Nat.reduceAdd, Nat.reduceSub, Nat.reduceLeDiff, Nat.reduceLT, Int.reduceLT, Int.reduceLE, Int.reduceAdd, Int.reduceSub, Int.reduceEq, Int.reduceNeg, Nat.reduceMul, decide_false, Bool.not_true, Bool.not_false, and_true, true_or, or_true, Int.reduceMul, Int.reduceToNat, Nat.reducePow, Int.reducePow, Nat.not_lt_zero, r_par2, r_par3, wP2_c, wP3_c, r_fld, r_fldP, r_fldA, r_meth, r_make, r_pop, wFl_d, wNo_none, wMk_ok, oFs_o, okS_o, List.map_cons, List.map_nil, false_or, l_addI, l_addS, l_addL, l_addT, l_sub, l_div, l_mod, l_mulI, l_mulS, l_mulL, l_eqI, l_eqS, l_neI, l_neS, l_ltI, l_leI, l_gtI, l_geI, l_ltS, l_leS, l_gtS, l_geS, l_truI, l_truB, l_truL, l_truT, l_truN, l_truS, l_lenS, l_lenL, l_lenT, l_intI, l_absI, l_tupL, l_tupT, l_itL, l_itT, l_itS, l_rg1, l_rg2, l_ixL, l_ixT, l_ixS, at_0, at_1, at_2, at_3, set_0, set_1, set_2, set_3, List.length_cons, List.length_nil, Int.cast_ofNat_Int, Int.natCast_one, tgD_n, tgD_t, tgA_nil, tgA_cons, Option.bind_some, l_isSS, l_isST, l_isSL, l_isSI, l_isTT, l_isTS, l_isTL, l_isTI, l_isII, l_isBI, l_isLL, l_ord]
    refine cB_dec (fun a1 => ?_) fun a1 => ?_
    · simp only [r_lft, r_var, r_own, r_c, r_bin, r_binO, r_cmp, r_tcmp, r_tcmpO, r_tru, r_tand, r_tor, r_tnot, r_eif, r_nif, r_and, r_or, r_not, r_neg, r_cb, r_ncb, r_bm, r_bm0, r_tup, r_lst, r_anil, r_acons, r_aone, r_vnil, r_vcons, r_vslot, r_sl, r_onone, r_osome, r_chain, r_tchain, r_isi, r_iany, r_rg1, r_rg2, r_yes, r_frz, r_call, r_F, r_sif, r_snil, r_pass, r_break, r_cont, r_no, r_ret, r_retN, r_retNone, r_drop, r_dropN, r_asg, r_asgN, r_aug, r_stup, r_app, r_ext, r_setix, r_for, r_retOwn, wE_nComp, wE_ok, wS_nx, wS_rt, wS_bk, wS_ct, wS_seq, wV_d, wV_l, wO_d, wO_l, wL_some, wL_ite, wL_map, cB_true, cB_false, cB_not, wZ_d, wZ_l, wTk_some, wT_some, wipeE, tk_nil, tk_v, tk_s, putA, mask, d1, d2, tyD, okS_d, okS_l, lOf, asI, Option.isSome_some, Option.getD_some, Option.map_some, List.getElem?_cons_zero, List.getElem?_cons_succ, List.set_cons_zero, List.set_cons_succ, List.replicate_succ, List.replicate_zero, List.cons_append, List.nil_append, List.not_mem_nil, List.mem_cons, or_false, not_false_eq_true, true_and, decide_true, if_true, if_false, Bool.false_eq_true, reduceIte, Nat.reduceEqDiff, Nat.reduceAdd, Nat.reduceSub, Nat.reduceLeDiff, Nat.reduceLT, Int.reduceLT, Int.reduceLE, Int.reduceAdd, Int.reduceSub, Int.reduceEq, Int.reduceNeg, Nat.reduceMul, decide_false, Bool.not_true, Bool.not_false, and_true, true_or, or_true, Int.reduceMul, Int.reduceToNat, Nat.reducePow, Int.reducePow, Nat.not_lt_zero, r_par2, r_par3, wP2_c, wP3_c, r_fld, r_fldP, r_fldA, r_meth, r_make, r_pop, wFl_d, wNo_none, wMk_ok, oFs_o, okS_o, List.map_cons, List.map_nil, false_or, l_addI, l_addS, l_addL, l_addT, l_sub, l_div, l_mod, l_mulI, l_mulS, l_mulL, l_eqI, l_eqS, l_neI, l_neS, l_ltI, l_leI, l_gtI, l_geI, l_ltS, l_leS, l_gtS, l_geS, l_truI, l_truB, l_truL, l_truT, l_truN, l_truS, l_lenS, l_lenL, l_lenT, l_intI, l_absI, l_tupL, l_tupT, l_itL, l_itT, l_itS, l_rg1, l_rg2, l_ixL, l_ixT, l_ixS, at_0, at_1, at_2, at_3, set_0, set_1, set_2, set_3, List.length_cons, List.length_nil, Int.cast_ofNat_Int, Int.natCast_one, tgD_n, tgD_t, tgA_nil, tgA_cons, Option.bind_some, l_isSS, l_isST, l_isSL, l_isSI, l_isTT, l_isTS, l_isTL, l_isTI, l_isII, l_isBI, l_isLL, l_ord]
      refine cB_dec (fun a2 => ?_) fun a2 => ?_
      · simp only [r_lft, r_var, r_own, r_c, r_bin, r_binO, r_cmp, r_tcmp, r_tcmpO, r_tru, r_tand, r_tor, r_tnot, r_eif, r_nif, r_and, r_or, r_not, r_neg, r_cb, r_ncb, r_bm, r_bm0, r_tup, r_lst, r_anil, r_acons, r_aone, r_vnil, r_vcons, r_vslot, r_sl, r_onone, r_osome, r_chain, r_tchain, r_isi, r_iany, r_rg1, r_rg2, r_yes, r_frz, r_call, r_F, r_sif, r_snil, r_pass, r_break, r_cont, r_no, r_ret, r_retN, r_retNone, r_drop, r_dropN, r_asg, r_asgN, r_aug, r_stup, r_app, r_ext, r_setix, r_for, r_retOwn, wE_nComp, wE_ok, wS_nx, wS_rt, wS_bk, wS_ct, wS_seq, wV_d, wV_l, wO_d, wO_l, wL_some, wL_ite, wL_map, cB_true, cB_false, cB_not, wZ_d, wZ_l, wTk_some, wT_some, wipeE, tk_nil, tk_v, tk_s, putA, mask, d1, d2, tyD, okS_d, okS_l, lOf, asI, Option.isSome_some, Option.getD_some, Option.map_some, List.getElem?_cons_zero, List.getElem?_cons_succ, List.set_cons_zero, List.set_cons_succ, List.replicate_succ, List.replicate_zero, List.cons_append, List.nil_append, List.not_mem_nil, List.mem_cons, or_false, not_false_eq_true, true_and, decide_true, if_true, if_false, Bool.false_eq_true, reduceIte, Nat.reduceEqDiff, Nat.reduceAdd, Nat.reduceSub, Nat.reduceLeDiff, Nat.reduceLT, Int.reduceLT, Int.reduceLE, Int.reduceAdd, Int.reduceSub, Int.reduceEq, Int.reduceNeg, Nat.reduceMul, decide_false, Bool.not_true, Bool.not_false, and_true, true_or, or_true, Int.reduceMul, Int.reduceToNat, Nat.reducePow, Int.reducePow, Nat.not_lt_zero, r_par2, r_par3, wP2_c, wP3_c, r_fld, r_fldP, r_fldA, r_meth, r_make, r_pop, wFl_d, wNo_none, wMk_ok, oFs_o, okS_o, List.map_cons, List.map_nil, false_or, l_addI, l_addS, l_addL, l_addT, l_sub, l_div, l_mod, l_mulI, l_mulS, l_mulL, l_eqI, l_eqS, l_neI, l_neS, l_ltI, l_leI, l_gtI, l_geI, l_ltS, l_leS, l_gtS, l_geS, l_truI, l_truB, l_truL, l_truT, l_truN, l_truS, l_lenS, l_lenL, l_lenT, l_intI, l_absI, l_tupL, l_tupT, l_itL, l_itT, l_itS, l_rg1, l_rg2, l_ixL, l_ixT, l_ixS, at_0, at_1, at_2, at_3, set_0, set_1, set_2, set_3, List.length_cons, List.length_nil, Int.cast_ofNat_Int, Int.natCast_one, tgD_n, tgD_t, tgA_nil, tgA_cons, Option.bind_some, l_isSS, l_isST, l_isSL, l_isSI, l_isTT, l_isTS, l_isTL, l_isTI, l_isII, l_isBI, l_isLL, l_ord, isint' hy]
        cases hy with
        | int b =>
          simp only [isInt, r_lft, r_var, r_own, r_c, r_bin, r_binO, r_cmp, r_tcmp, r_tcmpO, r_tru, r_tand, r_tor, r_tnot, r_eif, r_nif, r_and, r_or, r_not, r_neg, r_cb, r_ncb, r_bm, r_bm0, r_tup, r_lst, r_anil, r_acons, r_aone, r_vnil, r_vcons, r_vslot, r_sl, r_onone, r_osome, r_chain, r_tchain, r_isi, r_iany, r_rg1, r_rg2, r_yes, r_frz, r_call, r_F, r_sif, r_snil, r_pass, r_break, r_cont, r_no, r_ret, r_retN, r_retNone, r_drop, r_dropN, r_asg, r_asgN, r_aug, r_stup, r_app, r_ext, r_setix, r_for, r_retOwn, wE_nComp, wE_ok, wS_nx, wS_rt, wS_bk, wS_ct, wS_seq, wV_d, wV_l, wO_d, wO_l, wL_some, wL_ite, wL_map, cB_true, cB_false, cB_not, wZ_d, wZ_l, wTk_some, wT_some, wipeE, tk_nil, tk_v, tk_s, putA, mask, d1, d2, tyD, okS_d, okS_l, lOf, asI, Option.isSome_some, Option.getD_some, Option.map_some, List.getElem?_cons_zero, List.getElem?_cons_succ, List.set_cons_zero, List.set_cons_succ, List.replicate_succ, List.replicate_zero, List.cons_append, List.nil_append, List.not_mem_nil, List.mem_cons, or_false, not_false_eq_true, true_and, decide_true, if_true, if_false, Bool.false_eq_true, reduceIte, Nat.reduceEqDiff, Nat.reduceAdd, Nat.reduceSub, Nat.reduceLeDiff, Nat.reduceLT, Int.reduceLT, Int.reduceLE, Int.reduceAdd, Int.reduceSub, Int.reduceEq, Int.reduceNeg, Nat.reduceMul, decide_false, Bool.not_true, Bool.not_false, and_true, true_or, or_true, Int.reduceMul, Int.reduceToNat, Nat.reducePow, Int.reducePow, Nat.not_lt_zero, r_par2, r_par3, wP2_c, wP3_c, r_fld, r_fldP, r_fldA, r_meth, r_make, r_pop, wFl_d, wNo_none, wMk_ok, oFs_o, okS_o, List.map_cons, List.map_nil, false_or, l_addI, l_addS, l_addL, l_addT, l_sub, l_div, l_mod, l_mulI, l_mulS, l_mulL, l_eqI, l_eqS, l_neI, l_neS, l_ltI, l_leI, l_gtI, l_geI, l_ltS, l_leS, l_gtS, l_geS, l_truI, l_truB, l_truL, l_truT, l_truN, l_truS, l_lenS, l_lenL, l_lenT, l_intI, l_absI, l_tupL, l_tupT, l_itL, l_itT, l_itS, l_rg1, l_rg2, l_ixL, l_ixT, l_ixS, at_0, at_1, at_2, at_3, set_0, set_1, set_2, set_3, List.length_cons, List.length_nil, Int.cast_ofNat_Int, Int.natCast_one, tgD_n, tgD_t, tgA_nil, tgA_cons, Option.bind_some, l_isSS, l_isST, l_isSL, l_isSI, l_isTT, l_isTS, l_isTL, l_isTI, l_isII, l_isBI, l_isLL, l_ord]
          refine cB_dec (fun b1 => ?_) fun b1 => ?_
          · simp only [r_lft, r_var, r_own, r_c, r_bin, r_binO, r_cmp, r_tcmp, r_tcmpO, r_tru, r_tand, r_tor, r_tnot, r_eif, r_nif, r_and, r_or, r_not, r_neg, r_cb, r_ncb, r_bm, r_bm0, r_tup, r_lst, r_anil, r_acons, r_aone, r_vnil, r_vcons, r_vslot, r_sl, r_onone, r_osome, r_chain, r_tchain, r_isi, r_iany, r_rg1, r_rg2, r_yes, r_frz, r_call, r_F, r_sif, r_snil, r_pass, r_break, r_cont, r_no, r_ret, r_retN, r_retNone, r_drop, r_dropN, r_asg, r_asgN, r_aug, r_stup, r_app, r_ext, r_setix, r_for, r_retOwn, wE_nComp, wE_ok, wS_nx, wS_rt, wS_bk, wS_ct, wS_seq, wV_d, wV_l, wO_d, wO_l, wL_some, wL_ite, wL_map, cB_true, cB_false, cB_not, wZ_d, wZ_l, wTk_some, wT_some, wipeE, tk_nil, tk_v, tk_s, putA, mask, d1, d2, tyD, okS_d, okS_l, lOf, asI, Option.isSome_some, Option.getD_some, Option.map_some, List.getElem?_cons_zero, List.getElem?_cons_succ, List.set_cons_zero, List.set_cons_succ, List.replicate_succ, List.replicate_zero, List.cons_append, List.nil_append, List.not_mem_nil, List.mem_cons, or_false, not_false_eq_true, true_and, decide_true, if_true, if_false, Bool.false_eq_true, reduceIte, Nat.reduceEqDiff, Nat.reduceAdd, Nat.reduceSub, Nat.reduceLeDiff, Nat.reduceLT, Int.reduceLT, Int.reduceLE, Int.reduceAdd, Int.reduceSub, Int.reduceEq, Int.reduceNeg, Nat.reduceMul, decide_false, Bool.not_true, Bool.not_false, and_true, true_or, or_true, Int.reduceMul, Int.reduceToNat, Nat.reducePow, Int.reducePow, Nat.not_lt_zero, r_par2, r_par3, wP2_c, wP3_c, r_fld, r_fldP, r_fldA, r_meth, r_make, r_pop, wFl_d, wNo_none, wMk_ok, oFs_o, okS_o, List.map_cons, List.map_nil, false_or, l_addI, l_addS, l_addL, l_addT, l_sub, l_div, l_mod, l_mulI, l_mulS, l_mulL, l_eqI, l_eqS, l_neI, l_neS, l_ltI, l_leI, l_gtI, l_geI, l_ltS, l_leS, l_gtS, l_geS, l_truI, l_truB, l_truL, l_truT, l_truN, l_truS, l_lenS, l_lenL, l_lenT, l_intI, l_absI, l_tupL, l_tupT, l_itL, l_itT, l_itS, l_rg1, l_rg2, l_ixL, l_ixT, l_ixS, at_0, at_1, at_2, at_3, set_0, set_1, set_2, set_3, List.length_cons, List.length_nil, Int.cast_ofNat_Int, Int.natCast_one, tgD_n, tgD_t, tgA_nil, tgA_cons, Option.bind_some, l_isSS, l_isST, l_isSL, l_isSI, l_isTT, l_isTS, l_isTL, l_isTI, l_isII, l_isBI, l_isLL, l_ord]
            refine cB_dec (fun b2 => ?_) fun b2 => ?_
            · simp only [r_lft, r_var, r_own, r_c, r_bin, r_binO, r_cmp, r_tcmp, r_tcmpO, r_tru, r_tand, r_tor, r_tnot, r_eif, r_nif, r_and, r_or, r_not, r_neg, r_cb, r_ncb, r_bm, r_bm0, r_tup, r_lst, r_anil, r_acons, r_aone, r_vnil, r_vcons, r_vslot, r_sl, r_onone, r_osome, r_chain, r_tchain, r_isi, r_iany, r_rg1, r_rg2, r_yes, r_frz, r_call, r_F, r_sif, r_snil, r_pass, r_break, r_cont, r_no, r_ret, r_retN, r_retNone, r_drop, r_dropN, r_asg, r_asgN, r_aug, r_stup, r_app, r_ext, r_setix, r_for, r_retOwn, wE_nComp, wE_ok, wS_nx, wS_rt, wS_bk, wS_ct, wS_seq, wV_d, wV_l, wO_d, wO_l, wL_some, wL_ite, wL_map, cB_true, cB_false, cB_not, wZ_d, wZ_l, wTk_some, wT_some, wipeE, tk_nil, tk_v, tk_s, putA, mask, d1, d2, tyD, okS_d, okS_l, lOf, asI, Option.isSome_some, Option.getD_some, Option.map_some, List.getElem?_cons_zero, List.getElem?_cons_succ, List.set_cons_zero, List.set_cons_succ, List.replicate_succ, List.replicate_zero, List.cons_append, List.nil_append, List.not_mem_nil, List.mem_cons, or_false, not_false_eq_true, true_and, decide_true, if_true, if_false, Bool.false_eq_true, reduceIte, Nat.reduceEqDiff, Nat.reduceAdd, Nat.reduceSub, Nat.reduceLeDiff, Nat.reduceLT, Int.reduceLT, Int.reduceLE, Int.reduceAdd, Int.reduceSub, Int.reduceEq, Int.reduceNeg, Nat.reduceMul, decide_false, Bool.not_true, Bool.not_false, and_true, true_or, or_true, Int.reduceMul, Int.reduceToNat, Nat.reducePow, Int.reducePow, Nat.not_lt_zero, r_par2, r_par3, wP2_c, wP3_c, r_fld, r_fldP, r_fldA, r_meth, r_make, r_pop, wFl_d, wNo_none, wMk_ok, oFs_o, okS_o, List.map_cons, List.map_nil, false_or, l_addI, l_addS, l_addL, l_addT, l_sub, l_div, l_mod, l_mulI, l_mulS, l_mulL, l_eqI, l_eqS, l_neI, l_neS, l_ltI, l_leI, l_gtI, l_geI, l_ltS, l_leS, l_gtS, l_geS, l_truI, l_truB, l_truL, l_truT, l_truN, l_truS, l_lenS, l_lenL, l_lenT, l_intI, l_absI, l_tupL, l_tupT, l_itL, l_itT, l_itS, l_rg1, l_rg2, l_ixL, l_ixT, l_ixS, at_0, at_1, at_2, at_3, set_0, set_1, set_2, set_3, List.length_cons, List.length_nil, Int.cast_ofNat_Int, Int.natCast_one, tgD_n, tgD_t, tgA_nil, tgA_cons, Option.bind_some, l_isSS, l_isST, l_isSL, l_isSI, l_isTT, l_isTS, l_isTL, l_isTI, l_isII, l_isBI, l_isLL, l_ord, isint' hz]
              cases hz with
              | int c =>
                simp only [isInt, r_lft, r_var, r_own, r_c, r_bin, r_binO, r_cmp, r_tcmp, r_tcmpO, r_tru, r_tand, r_tor, r_tnot, r_eif, r_nif, r_and, r_or, r_not, r_neg, r_cb, r_ncb, r_bm, r_bm0, r_tup, r_lst, r_anil, r_acons, r_aone, r_vnil, r_vcons, r_vslot, r_sl, r_onone, r_osome, r_chain, r_tchain, r_isi, r_iany, r_rg1, r_rg2, r_yes, r_frz, r_call, r_F, r_sif, r_snil, r_pass, r_break, r_cont, r_no, r_ret, r_retN, r_retNone, r_drop, r_dropN, r_asg, r_asgN, r_aug, r_stup, r_app, r_ext, r_setix, r_for, r_retOwn, wE_nComp, wE_ok, wS_nx, wS_rt, wS_bk, wS_ct, wS_seq, wV_d, wV_l, wO_d, wO_l, wL_some, wL_ite, wL_map, cB_true, cB_false, cB_not, wZ_d, wZ_l, wTk_some, wT_some, wipeE, tk_nil, tk_v, tk_s, putA, mask, d1, d2, tyD, okS_d, okS_l, lOf, asI, Option.isSome_some, Option.getD_some, Option.map_some, List.getElem?_cons_zero, List.getElem?_cons_succ, List.set_cons_zero, List.set_cons_succ, List.replicate_succ, List.replicate_zero, List.cons_append, List.nil_append, List.not_mem_nil, List.mem_cons, or_false, not_false_eq_true, true_and, decide_true, if_true, if_false, Bool.false_eq_true, reduceIte, Nat.reduceEqDiff, Nat.reduceAdd, Nat.reduceSub, Nat.reduceLeDiff, Nat.reduceLT, Int.reduceLT, Int.reduceLE, Int.reduceAdd, Int.reduceSub, Int.reduceEq, Int.reduceNeg, Nat.reduceMul, decide_false, Bool.not_true, Bool.not_false, and_true, true_or, or_true, Int.reduceMul, Int.reduceToNat, Nat.reducePow, Int.reducePow, Nat.not_lt_zero, r_par2, r_par3, wP2_c, wP3_c, r_fld, r_fldP, r_fldA, r_meth, r_make, r_pop, wFl_d, wNo_none, wMk_ok, oFs_o, okS_o, List.map_cons, List.map_nil, false_or, l_addI, l_addS, l_addL, l_addT, l_sub, l_div, l_mod, l_mulI, l_mulS, l_mulL, l_eqI, l_eqS, l_neI, l_neS, l_ltI, l_leI, l_gtI, l_geI, l_ltS, l_leS, l_gtS, l_geS, l_truI, l_truB, l_truL, l_truT, l_truN, l_truS, l_lenS, l_lenL, l_lenT, l_intI, l_absI, l_tupL, l_tupT, l_itL, l_itT, l_itS, l_rg1, l_rg2, l_ixL, l_ixT, l_ixS, at_0, at_1, at_2, at_3, set_0, set_1, set_2, set_3, List.length_cons, List.length_nil, Int.cast_ofNat_Int, Int.natCast_one, tgD_n, tgD_t, tgA_nil, tgA_cons, Option.bind_some, l_isSS, l_isST, l_isSL, l_isSI, l_isTT, l_isTS, l_isTL, l_isTI, l_isII, l_isBI, l_isLL, l_ord]
                refine cB_dec (fun c1 => ?_) fun c1 => ?_
                · simp only [r_lft, r_var, r_own, r_c, r_bin, r_binO, r_cmp, r_tcmp, r_tcmpO, r_tru, r_tand, r_tor, r_tnot, r_eif, r_nif, r_and, r_or, r_not, r_neg, r_cb, r_ncb, r_bm, r_bm0, r_tup, r_lst, r_anil, r_acons, r_aone, r_vnil, r_vcons, r_vslot, r_sl, r_onone, r_osome, r_chain, r_tchain, r_isi, r_iany, r_rg1, r_rg2, r_yes, r_frz, r_call, r_F, r_sif, r_snil, r_pass, r_break, r_cont, r_no, r_ret, r_retN, r_retNone, r_drop, r_dropN, r_asg, r_asgN, r_aug, r_stup, r_app, r_ext, r_setix, r_for, r_retOwn, wE_nComp, wE_ok, wS_nx, wS_rt, wS_bk, wS_ct, wS_seq, wV_d, wV_l, wO_d, wO_l, wL_some, wL_ite, wL_map, cB_true, cB_false, cB_not, wZ_d, wZ_l, wTk_some, wT_some, wipeE, tk_nil, tk_v, tk_s, putA, mask, d1, d2, tyD, okS_d, okS_l, lOf, asI, Option.isSome_some, Option.getD_some, Option.map_some, List.getElem?_cons_zero, List.getElem?_cons_succ, List.set_cons_zero, List.set_cons_succ, List.replicate_succ, List.replicate_zero, List.cons_append, List.nil_append, List.not_mem_nil, List.mem_cons, or_false, not_false_eq_true, true_and, decide_true, if_true, if_false, Bool.false_eq_true, reduceIte, Nat.reduceEqDiff, Nat.reduceAdd, Nat.reduceSub, Nat.reduceLeDiff, Nat.reduceLT, Int.reduceLT, Int.reduceLE, Int.reduceAdd, Int.reduceSub, Int.reduceEq, Int.reduceNeg, Nat.reduceMul, decide_false, Bool.not_true, Bool.not_false, and_true, true_or, or_true, Int.reduceMul, Int.reduceToNat, Nat.reducePow, Int.reducePow, Nat.not_lt_zero, r_par2, r_par3, wP2_c, wP3_c, r_fld, r_fldP, r_fldA, r_meth, r_make, r_pop, wFl_d, wNo_none, wMk_ok, oFs_o, okS_o, List.map_cons, List.map_nil, false_or, l_addI, l_addS, l_addL, l_addT, l_sub, l_div, l_mod, l_mulI, l_mulS, l_mulL, l_eqI, l_eqS, l_neI, l_neS, l_ltI, l_leI, l_gtI, l_geI, l_ltS, l_leS, l_gtS, l_geS, l_truI, l_truB, l_truL, l_truT, l_truN, l_truS, l_lenS, l_lenL, l_lenT, l_intI, l_absI, l_tupL, l_tupT, l_itL, l_itT, l_itS, l_rg1, l_rg2, l_ixL, l_ixT, l_ixS, at_0, at_1, at_2, at_3, set_0, set_1, set_2, set_3, List.length_cons, List.length_nil, Int.cast_ofNat_Int, Int.natCast_one, tgD_n, tgD_t, tgA_nil, tgA_cons, Option.bind_some, l_isSS, l_isST, l_isSL, l_isSI, l_isTT, l_isTS, l_isTL, l_isTI, l_isII, l_isBI, l_isLL, l_ord, lengthof b1 b2]
                  simp [isDt, a1, a2, b1, b2, c1]
                · simp only [r_lft, r_var, r_own, r_c, r_bin, r_binO, r_cmp, r_tcmp, r_tcmpO, r_tru, r_tand, r_tor, r_tnot, r_eif, r_nif, r_and, r_or, r_not, r_neg, r_cb, r_ncb, r_bm, r_bm0, r_tup, r_lst, r_anil, r_acons, r_aone, r_vnil, r_vcons, r_vslot, r_sl, r_onone, r_osome, r_chain, r_tchain, r_isi, r_iany, r_rg1, r_rg2, r_yes, r_frz, r_call, r_F, r_sif, r_snil, r_pass, r_break, r_cont, r_no, r_ret, r_retN, r_retNone, r_drop, r_dropN, r_asg, r_asgN, r_aug, r_stup, r_app, r_ext, r_setix, r_for, r_retOwn, wE_nComp, wE_ok, wS_nx, wS_rt, wS_bk, wS_ct, wS_seq, wV_d, wV_l, wO_d, wO_l, wL_some, wL_ite, wL_map, cB_true, cB_false, cB_not, wZ_d, wZ_l, wTk_some, wT_some, wipeE, tk_nil, tk_v, tk_s, putA, mask, d1, d2, tyD, okS_d, okS_l, lOf, asI, Option.isSome_some, Option.getD_some, Option.map_some, List.getElem?_cons_zero, List.getElem?_cons_succ, List.set_cons_zero, List.set_cons_succ, List.replicate_succ, List.replicate_zero, List.cons_append, List.nil_append, List.not_mem_nil, List.mem_cons, or_false, not_false_eq_true, true_and, decide_true, if_true, if_false, Bool.false_eq_true, reduceIte, Nat.reduceEqDiff, Nat.reduceAdd, Nat.reduceSub, Nat.reduceLeDiff, Nat.reduceLT, Int.reduceLT, Int.reduceLE, Int.reduceAdd, Int.reduceSub, Int.reduceEq, Int.reduceNeg, Nat.reduceMul, decide_false, Bool.not_true, Bool.not_false, and_true, true_or, or_true, Int.reduceMul, Int.reduceToNat, Nat.reducePow, Int.reducePow, Nat.not_lt_zero, r_par2, r_par3, wP2_c, wP3_c, r_fld, r_fldP, r_fldA, r_meth, r_make, r_pop, wFl_d, wNo_none, wMk_ok, oFs_o, okS_o, List.map_cons, List.map_nil, false_or, l_addI, l_addS, l_addL, l_addT, l_sub, l_div, l_mod, l_mulI, l_mulS, l_mulL, l_eqI, l_eqS, l_neI, l_neS, l_ltI, l_leI, l_gtI, l_geI, l_ltS, l_leS, l_gtS, l_geS, l_truI, l_truB, l_truL, l_truT, l_truN, l_truS, l_lenS, l_lenL, l_lenT, l_intI, l_absI, l_tupL, l_tupT, l_itL, l_itT, l_itS, l_rg1, l_rg2, l_ixL, l_ixT, l_ixS, at_0, at_1, at_2, at_3, set_0, set_1, set_2, set_3, List.length_cons, List.length_nil, Int.cast_ofNat_Int, Int.natCast_one, tgD_n, tgD_t, tgA_nil, tgA_cons, Option.bind_some, l_isSS, l_isST, l_isSL, l_isSI, l_isTT, l_isTS, l_isTL, l_isTI, l_isII, l_isBI, l_isLL, l_ord]
                  simp [isDt, c1]
              | _ => simp only [isInt, r_lft, r_var, r_own, r_c, r_bin, r_binO, r_cmp, r_tcmp, r_tcmpO, r_tru, r_tand, r_tor, r_tnot, r_eif, r_nif, r_and, r_or, r_not, r_neg, r_cb, r_ncb, r_bm, r_bm0, r_tup, r_lst, r_anil, r_acons, r_aone, r_vnil, r_vcons, r_vslot, r_sl, r_onone, r_osome, r_chain, r_tchain, r_isi, r_iany, r_rg1, r_rg2, r_yes, r_frz, r_call, r_F, r_sif, r_snil, r_pass, r_break, r_cont, r_no, r_ret, r_retN, r_retNone, r_drop, r_dropN, r_asg, r_asgN, r_aug, r_stup, r_app, r_ext, r_setix, r_for, r_retOwn, wE_nComp, wE_ok, wS_nx, wS_rt, wS_bk, wS_ct, wS_seq, wV_d, wV_l, wO_d, wO_l, wL_some, wL_ite, wL_map, cB_true, cB_false, cB_not, wZ_d, wZ_l, wTk_some, wT_some, wipeE, tk_nil, tk_v, tk_s, putA, mask, d1, d2, tyD, okS_d, okS_l, lOf, asI, Option.isSome_some, Option.getD_some, Option.map_some, List.getElem?_cons_zero, List.getElem?_cons_succ, List.set_cons_zero, List.set_cons_succ, List.replicate_succ, List.replicate_zero, List.cons_append, List.nil_append, List.not_mem_nil, List.mem_cons, or_false, not_false_eq_true, true_and, decide_true, if_true, if_false, Bool.false_eq_true, reduceIte, Nat.reduceEqDiff, Nat.reduceAdd, Nat.reduceSub, Nat.reduceLeDiff, Nat.reduceLT, Int.reduceLT, Int.reduceLE, Int.reduceAdd, Int.reduceSub, Int.reduceEq, Int.reduceNeg, Nat.reduceMul, decide_false, Bool.not_true, Bool.not_false, and_true, true_or, or_true, Int.reduceMul, Int.reduceToNat, Nat.reducePow, Int.reducePow, Nat.not_lt_zero, r_par2, r_par3, wP2_c, wP3_c, r_fld, r_fldP, r_fldA, r_meth, r_make, r_pop, wFl_d, wNo_none, wMk_ok, oFs_o, okS_o, List.map_cons, List.map_nil, false_or, l_addI, l_addS, l_addL, l_addT, l_sub, l_div, l_mod, l_mulI, l_mulS, l_mulL, l_eqI, l_eqS, l_neI, l_neS, l_ltI, l_leI, l_gtI, l_geI, l_ltS, l_leS, l_gtS, l_geS, l_truI, l_truB, l_truL, l_truT, l_truN, l_truS, l_lenS, l_lenL, l_lenT, l_intI, l_absI, l_tupL, l_tupT, l_itL, l_itT, l_itS, l_rg1, l_rg2, l_ixL, l_ixT, l_ixS, at_0, at_1, at_2, at_3, set_0, set_1, set_2, set_3, List.length_cons, List.length_nil, Int.cast_ofNat_Int, Int.natCast_one, tgD_n, tgD_t, tgA_nil, tgA_cons, Option.bind_some, l_isSS, l_isST, l_isSL, l_isSI, l_isTT, l_isTS, l_isTL, l_isTI, l_isII, l_isBI, l_isLL, l_ord]; rfl
            · simp only [r_lft, r_var, r_own, r_c, r_bin, r_binO, r_cmp, r_tcmp, r_tcmpO, r_tru, r_tand, r_tor, r_tnot, r_eif, r_nif, r_and, r_or, r_not, r_neg, r_cb, r_ncb, r_bm, r_bm0, r_tup, r_lst, r_anil, r_acons, r_aone, r_vnil, r_vcons, r_vslot, r_sl, r_onone, r_osome, r_chain, r_tchain, r_isi, r_iany, r_rg1, r_rg2, r_yes, r_frz, r_call, r_F, r_sif, r_snil, r_pass, r_break, r_cont, r_no, r_ret, r_retN, r_retNone, r_drop, r_dropN, r_asg, r_asgN, r_aug, r_stup, r_app, r_ext, r_setix, r_for, r_retOwn, wE_nComp, wE_ok, wS_nx, wS_rt, wS_bk, wS_ct, wS_seq, wV_d, wV_l, wO_d, wO_l, wL_some, wL_ite, wL_map, cB_true, cB_false, cB_not, wZ_d, wZ_l, wTk_some, wT_some, wipeE, tk_nil, tk_v, tk_s, putA, mask, d1, d2, tyD, okS_d, okS_l, lOf, asI, Option.isSome_some, Option.getD_some, Option.map_some, List.getElem?_cons_zero, List.getElem?_cons_succ, List.set_cons_zero, List.set_cons_succ, List.replicate_succ, List.replicate_zero, List.cons_append, List.nil_append, List.not_mem_nil, List.mem_cons, or_false, not_false_eq_true, true_and, decide_true, if_true, if_false, Bool.false_eq_true, reduceIte, Nat.reduceEqDiff, Nat.reduceAdd, Nat.reduceSub, Nat.reduceLeDiff, Nat.reduceLT, Int.reduceLT, Int.reduceLE, Int.reduceAdd, Int.reduceSub, Int.reduceEq, Int.reduceNeg, Nat.reduceMul, decide_false, Bool.not_true, Bool.not_false, and_true, true_or, or_true, Int.reduceMul, Int.reduceToNat, Nat.reducePow, Int.reducePow, Nat.not_lt_zero, r_par2, r_par3, wP2_c, wP3_c, r_fld, r_fldP, r_fldA, r_meth, r_make, r_pop, wFl_d, wNo_none, wMk_ok, oFs_o, okS_o, List.map_cons, List.map_nil, false_or, l_addI, l_addS, l_addL, l_addT, l_sub, l_div, l_mod, l_mulI, l_mulS, l_mulL, l_eqI, l_eqS, l_neI, l_neS, l_ltI, l_leI, l_gtI, l_geI, l_ltS, l_leS, l_gtS, l_geS, l_truI, l_truB, l_truL, l_truT, l_truN, l_truS, l_lenS, l_lenL, l_lenT, l_intI, l_absI, l_tupL, l_tupT, l_itL, l_itT, l_itS, l_rg1, l_rg2, l_ixL, l_ixT, l_ixS, at_0, at_1, at_2, at_3, set_0, set_1, set_2, set_3, List.length_cons, List.length_nil, Int.cast_ofNat_Int, Int.natCast_one, tgD_n, tgD_t, tgA_nil, tgA_cons, Option.bind_some, l_isSS, l_isST, l_isSL, l_isSI, l_isTT, l_isTS, l_isTL, l_isTI, l_isII, l_isBI, l_isLL, l_ord]
              cases hz <;> simp [isDt, b2]
          · simp only [r_lft, r_var, r_own, r_c, r_bin, r_binO, r_cmp, r_tcmp, r_tcmpO, r_tru, r_tand, r_tor, r_tnot, r_eif, r_nif, r_and, r_or, r_not, r_neg, r_cb, r_ncb, r_bm, r_bm0, r_tup, r_lst, r_anil, r_acons, r_aone, r_vnil, r_vcons, r_vslot, r_sl, r_onone, r_osome, r_chain, r_tchain, r_isi, r_iany, r_rg1, r_rg2, r_yes, r_frz, r_call, r_F, r_sif, r_snil, r_pass, r_break, r_cont, r_no, r_ret, r_retN, r_retNone, r_drop, r_dropN, r_asg, r_asgN, r_aug, r_stup, r_app, r_ext, r_setix, r_for, r_retOwn, wE_nComp, wE_ok, wS_nx, wS_rt, wS_bk, wS_ct, wS_seq, wV_d, wV_l, wO_d, wO_l, wL_some, wL_ite, wL_map, cB_true, cB_false, cB_not, wZ_d, wZ_l, wTk_some, wT_some, wipeE, tk_nil, tk_v, tk_s, putA, mask, d1, d2, tyD, okS_d, okS_l, lOf, asI, Option.isSome_some, Option.getD_some, Option.map_some, List.getElem?_cons_zero, List.getElem?_cons_succ, List.set_cons_zero, List.set_cons_succ, List.replicate_succ, List.replicate_zero, List.cons_append, List.nil_append, List.not_mem_nil, List.mem_cons, or_false, not_false_eq_true, true_and, decide_true, if_true, if_false, Bool.false_eq_true, reduceIte, Nat.reduceEqDiff, Nat.reduceAdd, Nat.reduceSub, Nat.reduceLeDiff, Nat.reduceLT, Int.reduceLT, Int.reduceLE, Int.reduceAdd, Int.reduceSub, Int.reduceEq, Int.reduceNeg, Nat.reduceMul, decide_false, Bool.not_true, Bool.not_false, and_true, true_or, or_true, Int.reduceMul, Int.reduceToNat, Nat.reducePow, Int.reducePow, Nat.not_lt_zero, r_par2, r_par3, wP2_c, wP3_c, r_fld, r_fldP, r_fldA, r_meth, r_make, r_pop, wFl_d, wNo_none, wMk_ok, oFs_o, okS_o, List.map_cons, List.map_nil, false_or, l_addI, l_addS, l_addL, l_addT, l_sub, l_div, l_mod, l_mulI, l_mulS, l_mulL, l_eqI, l_eqS, l_neI, l_neS, l_ltI, l_leI, l_gtI, l_geI, l_ltS, l_leS, l_gtS, l_geS, l_truI, l_truB, l_truL, l_truT, l_truN, l_truS, l_lenS, l_lenL, l_lenT, l_intI, l_absI, l_tupL, l_tupT, l_itL, l_itT, l_itS, l_rg1, l_rg2, l_ixL, l_ixT, l_ixS, at_0, at_1, at_2, at_3, set_0, set_1, set_2, set_3, List.length_cons, List.length_nil, Int.cast_ofNat_Int, Int.natCast_one, tgD_n, tgD_t, tgA_nil, tgA_cons, Option.bind_some, l_isSS, l_isST, l_isSL, l_isSI, l_isTT, l_isTS, l_isTL, l_isTI, l_isII, l_isBI, l_isLL, l_ord]
            cases hz <;> simp [isDt, b1]
        | _ => simp only [isInt, r_lft, r_var, r_own, r_c, r_bin, r_binO, r_cmp, r_tcmp, r_tcmpO, r_tru, r_tand, r_tor, r_tnot, r_eif, r_nif, r_and, r_or, r_not, r_neg, r_cb, r_ncb, r_bm, r_bm0, r_tup, r_lst, r_anil, r_acons, r_aone, r_vnil, r_vcons, r_vslot, r_sl, r_onone, r_osome, r_chain, r_tchain, r_isi, r_iany, r_rg1, r_rg2, r_yes, r_frz, r_call, r_F, r_sif, r_snil, r_pass, r_break, r_cont, r_no, r_ret, r_retN, r_retNone, r_drop, r_dropN, r_asg, r_asgN, r_aug, r_stup, r_app, r_ext, r_setix, r_for, r_retOwn, wE_nComp, wE_ok, wS_nx, wS_rt, wS_bk, wS_ct, wS_seq, wV_d, wV_l, wO_d, wO_l, wL_some, wL_ite, wL_map, cB_true, cB_false, cB_not, wZ_d, wZ_l, wTk_some, wT_some, wipeE, tk_nil, tk_v, tk_s, putA, mask, d1, d2, tyD, okS_d, okS_l, lOf, asI, Option.isSome_some, Option.getD_some, Option.map_some, List.getElem?_cons_zero, List.getElem?_cons_succ, List.set_cons_zero, List.set_cons_succ, List.replicate_succ, List.replicate_zero, List.cons_append, List.nil_append, List.not_mem_nil, List.mem_cons, or_false, not_false_eq_true, true_and, decide_true, if_true, if_false, Bool.false_eq_true, reduceIte, Nat.reduceEqDiff, Nat.reduceAdd, Nat.reduceSub, Nat.reduceLeDiff, Nat.reduceLT, Int.reduceLT, Int.reduceLE, Int.reduceAdd, Int.reduceSub, Int.reduceEq, Int.reduceNeg, Nat.reduceMul, decide_false, Bool.not_true, Bool.not_false, and_true, true_or, or_true, Int.reduceMul, Int.reduceToNat, Nat.reducePow, Int.reducePow, Nat.not_lt_zero, r_par2, r_par3, wP2_c, wP3_c, r_fld, r_fldP, r_fldA, r_meth, r_make, r_pop, wFl_d, wNo_none, wMk_ok, oFs_o, okS_o, List.map_cons, List.map_nil, false_or, l_addI, l_addS, l_addL, l_addT, l_sub, l_div, l_mod, l_mulI, l_mulS, l_mulL, l_eqI, l_eqS, l_neI, l_neS, l_ltI, l_leI, l_gtI, l_geI, l_ltS, l_leS, l_gtS, l_geS, l_truI, l_truB, l_truL, l_truT, l_truN, l_truS, l_lenS, l_lenL, l_lenT, l_intI, l_absI, l_tupL, l_tupT, l_itL, l_itT, l_itS, l_rg1, l_rg2, l_ixL, l_ixT, l_ixS, at_0, at_1, at_2, at_3, set_0, set_1, set_2, set_3, List.length_cons, List.length_nil, Int.cast_ofNat_Int, Int.natCast_one, tgD_n, tgD_t, tgA_nil, tgA_cons, Option.bind_some, l_isSS, l_isST, l_isSL, l_isSI, l_isTT, l_isTS, l_isTL, l_isTI, l_isII, l_isBI, l_isLL, l_ord]; try rfl
      · simp only [r_lft, r_var, r_own, r_c, r_bin, r_binO, r_cmp, r_tcmp, r_tcmpO, r_tru, r_tand, r_tor, r_tnot, r_eif, r_nif, r_and, r_or, r_not, r_neg, r_cb, r_ncb, r_bm, r_bm0, r_tup, r_lst, r_anil, r_acons, r_aone, r_vnil, r_vcons, r_vslot, r_sl, r_onone, r_osome, r_chain, r_tchain, r_isi, r_iany, r_rg1, r_rg2, r_yes, r_frz, r_call, r_F, r_sif, r_snil, r_pass, r_break, r_cont, r_no, r_ret, r_retN, r_retNone, r_drop, r_dropN, r_asg, r_asgN, r_aug, r_stup, r_app, r_ext, r_setix, r_for, r_retOwn, wE_nComp, wE_ok, wS_nx, wS_rt, wS_bk, wS_ct, wS_seq, wV_d, wV_l, wO_d, wO_l, wL_some, wL_ite, wL_map, cB_true, cB_false, cB_not, wZ_d, wZ_l, wTk_some, wT_some, wipeE, tk_nil, tk_v, tk_s, putA, mask, d1, d2, tyD, okS_d, okS_l, lOf, asI, Option.isSome_some, Option.getD_some, Option.map_some, List.getElem?_cons_zero, List.getElem?_cons_succ, List.set_cons_zero, List.set_cons_succ, List.replicate_succ, List.replicate_zero, List.cons_append, List.nil_append, List.not_mem_nil, List.mem_cons, or_false, not_false_eq_true, true_and, decide_true, if_true, if_false, Bool.false_eq_true, reduceIte, Nat.reduceEqDiff, Nat.reduceAdd, Nat.reduceSub, Nat.reduceLeDiff, Nat.reduceLT, Int.reduceLT, Int.reduceLE, Int.reduceAdd, Int.reduceSub, Int.reduceEq, Int.reduceNeg, Nat.reduceMul, decide_false, Bool.not_true, Bool.not_false, and_true, true_or, or_true, Int.reduceMul, Int.reduceToNat, Nat.reducePow, Int.reducePow, Nat.not_lt_zero, r_par2, r_par3, wP2_c, wP3_c, r_fld, r_fldP, r_fldA, r_meth, r_make, r_pop, wFl_d, wNo_none, wMk_ok, oFs_o, okS_o, List.map_cons, List.map_nil, false_or, l_addI, l_addS, l_addL, l_addT, l_sub, l_div, l_mod, l_mulI, l_mulS, l_mulL, l_eqI, l_eqS, l_neI, l_neS, l_ltI, l_leI, l_gtI, l_geI, l_ltS, l_leS, l_gtS, l_geS, l_truI, l_truB, l_truL, l_truT, l_truN, l_truS, l_lenS, l_lenL, l_lenT, l_intI, l_absI, l_tupL, l_tupT, l_itL, l_itT, l_itS, l_rg1, l_rg2, l_ixL, l_ixT, l_ixS, at_0, at_1, at_2, at_3, set_0, set_1, set_2, set_3, List.length_cons, List.length_nil, Int.cast_ofNat_Int, Int.natCast_one, tgD_n, tgD_t, tgA_nil, tgA_cons, Option.bind_some, l_isSS, l_isST, l_isSL, l_isSI, l_isTT, l_isTS, l_isTL, l_isTI, l_isII, l_isBI, l_isLL, l_ord]
        cases hy <;> cases hz <;> simp [isDt, a2]
    · simp only [r_lft, r_var, r_own, r_c, r_bin, r_binO, r_cmp, r_tcmp, r_tcmpO, r_tru, r_tand, r_tor, r_tnot, r_eif, r_nif, r_and, r_or, r_not, r_neg, r_cb, r_ncb, r_bm, r_bm0, r_tup, r_lst, r_anil, r_acons, r_aone, r_vnil, r_vcons, r_vslot, r_sl, r_onone, r_osome, r_chain, r_tchain, r_isi, r_iany, r_rg1, r_rg2, r_yes, r_frz, r_call, r_F, r_sif, r_snil, r_pass, r_break, r_cont, r_no, r_ret, r_retN, r_retNone, r_drop, r_dropN, r_asg, r_asgN, r_aug, r_stup, r_app, r_ext, r_setix, r_for, r_retOwn, wE_nComp, wE_ok, wS_nx, wS_rt, wS_bk, wS_ct, wS_seq, wV_d, wV_l, wO_d, wO_l, wL_some, wL_ite, wL_map, cB_true, cB_false, cB_not, wZ_d, wZ_l, wTk_some, wT_some, wipeE, tk_nil, tk_v, tk_s, putA, mask, d1, d2, tyD, okS_d, okS_l, lOf, asI, Option.isSome_some, Option.getD_some, Option.map_some, List.getElem?_cons_zero, List.getElem?_cons_succ, List.set_cons_zero, List.set_cons_succ, List.replicate_succ, List.replicate_zero, List.cons_append, List.nil_append, List.not_mem_nil, List.mem_cons, or_false, not_false_eq_true, true_and, decide_true, if_true, if_false, Bool.false_eq_true, reduceIte, Nat.reduceEqDiff, Nat.reduceAdd, Nat.reduceSub, Nat.reduceLeDiff, Nat.reduceLT, Int.reduceLT, Int.reduceLE, Int.reduceAdd, Int.reduceSub, Int.reduceEq, Int.reduceNeg, Nat.reduceMul, decide_false, Bool.not_true, Bool.not_false, and_true, true_or, or_true, Int.reduceMul, Int.reduceToNat, Nat.reducePow, Int.reducePow, Nat.not_lt_zero, r_par2, r_par3, wP2_c, wP3_c, r_fld, r_fldP, r_fldA, r_meth, r_make, r_pop, wFl_d, wNo_none, wMk_ok, oFs_o, okS_o, List.map_cons, List.map_nil, false_or, l_addI, l_addS, l_addL, l_addT, l_sub, l_div, l_mod, l_mulI, l_mulS, l_mulL, l_eqI, l_eqS, l_neI, l_neS, l_ltI, l_leI, l_gtI, l_geI, l_ltS, l_leS, l_gtS, l_geS, l_truI, l_truB, l_truL, l_truT, l_truN, l_truS, l_lenS, l_lenL, l_lenT, l_intI, l_absI, l_tupL, l_tupT, l_itL, l_itT, l_itS, l_rg1, l_rg2, l_ixL, l_ixT, l_ixS, at_0, at_1, at_2, at_3, set_0, set_1, set_2, set_3, List.length_cons, List.length_nil, Int.cast_ofNat_Int, Int.natCast_one, tgD_n, tgD_t, tgA_nil, tgA_cons, Option.bind_some, l_isSS, l_isST, l_isSL, l_isSI, l_isTT, l_isTS, l_isTL, l_isTI, l_isII, l_isBI, l_isLL, l_ord]
      cases hy <;> cases hz <;> simp [isDt, a1]
  | _ => simp only [isInt, r_lft, r_var, r_own, r_c, r_bin, r_binO, r_cmp, r_tcmp, r_tcmpO, r_tru, r_tand, r_tor, r_tnot, r_eif, r_nif, r_and, r_or, r_not, r_neg, r_cb, r_ncb, r_bm, r_bm0, r_tup, r_lst, r_anil, r_acons, r_aone, r_vnil, r_vcons, r_vslot, r_sl, r_onone, r_osome, r_chain, r_tchain, r_isi, r_iany, r_rg1, r_rg2, r_yes, r_frz, r_call, r_F, r_sif, r_snil, r_pass, r_break, r_cont, r_no, r_ret, r_retN, r_retNone, r_drop, r_dropN, r_asg, r_asgN, r_aug, r_stup, r_app, r_ext, r_setix, r_for, r_retOwn, wE_nComp, wE_ok, wS_nx, wS_rt, wS_bk, wS_ct, wS_seq, wV_d, wV_l, wO_d, wO_l, wL_some, wL_ite, wL_map, cB_true, cB_false, cB_not, wZ_d, wZ_l, wTk_some, wT_some, wipeE, tk_nil, tk_v, tk_s, putA, mask, d1, d2, tyD, okS_d, okS_l, lOf, asI, Option.isSome_some, Option.getD_some, Option.map_some, List.getElem?_cons_zero, List.getElem?_cons_succ, List.set_cons_zero, List.set_cons_succ, List.replicate_succ, List.replicate_zero, List.cons_append, List.nil_append, List.not_mem_nil, List.mem_cons, or_false, not_false_eq_true, true_and, decide_true, if_true, if_false, Bool.false_eq_true, reduceIte, Nat.reduceEqDiff, Nat.reduceAdd, Nat.reduceSub, Nat.reduceLeDiff, Nat.reduceLT, Int.reduceLT, Int.reduceLE, Int.reduceAdd, Int.reduceSub, Int.reduceEq, Int.reduceNeg, Nat.reduceMul, decide_false, Bool.not_true, Bool.not_false, and_true, true_or, or_true, Int.reduceMul, Int.reduceToNat, Nat.reducePow, Int.reducePow, Nat.not_lt_zero, r_par2, r_par3, wP2_c, wP3_c, r_fld, r_fldP, r_fldA, r_meth, r_make, r_pop, wFl_d, wNo_none, wMk_ok, oFs_o, okS_o, List.map_cons, List.map_nil, false_or, l_addI, l_addS, l_addL, l_addT, l_sub, l_div, l_mod, l_mulI, l_mulS, l_mulL, l_eqI, l_eqS, l_neI, l_neS, l_ltI, l_leI, l_gtI, l_geI, l_ltS, l_leS, l_gtS, l_geS, l_truI, l_truB, l_truL, l_truT, l_truN, l_truS, l_lenS, l_lenL, l_lenT, l_intI, l_absI, l_tupL, l_tupT, l_itL, l_itT, l_itS, l_rg1, l_rg2, l_ixL, l_ixT, l_ixS, at_0, at_1, at_2, at_3, set_0, set_1, set_2, set_3, List.length_cons, List.length_nil, Int.cast_ofNat_Int, Int.natCast_one, tgD_n, tgD_t, tgA_nil, tgA_cons, Option.bind_some, l_isSS, l_isST, l_isSL, l_isSI, l_isTT, l_isTS, l_isTL, l_isTI, l_isII, l_isBI, l_isLL, l_ord]; try rfl
theorem lawisdate {x y z : D} (hx : At x) (hy : At y) (hz : At z) : m__law_is_date [.d x, .d y, .d z] = .ok (.d (.bool (isDt x y z))) [.un, .un, .un] := by
  refine eqF (wF_run rfl ?_)
  simp only [b__law_is_date, r_lft, r_var, r_own, r_c, r_bin, r_binO, r_cmp, r_tcmp, r_tcmpO, r_tru, r_tand, r_tor, r_tnot, r_eif, r_nif, r_and, r_or, r_not, r_neg, r_cb, r_ncb, r_bm, r_bm0, r_tup, r_lst, r_anil, r_acons, r_aone, r_vnil, r_vcons, r_vslot, r_sl, r_onone, r_osome, r_chain, r_tchain, r_isi, r_iany, r_rg1, r_rg2, r_yes, r_frz, r_call, r_F, r_sif, r_snil, r_pass, r_break, r_cont, r_no, r_ret, r_retN, r_retNone, r_drop, r_dropN, r_asg, r_asgN, r_aug, r_stup, r_app, r_ext, r_setix, r_for, r_retOwn, wE_nComp, wE_ok, wS_nx, wS_rt, wS_bk, wS_ct, wS_seq, wV_d, wV_l, wO_d, wO_l, wL_some, wL_ite, wL_map, cB_true, cB_false, cB_not, wZ_d, wZ_l, wTk_some, wT_some, wipeE, tk_nil, tk_v, tk_s, putA, mask, d1, d2, tyD, okS_d, okS_l, lOf, asI, Option.isSome_some, Option.getD_some, Option.map_some, List.getElem?_cons_zero, List.getElem?_cons_succ, List.set_cons_zero, List.set_cons_succ, List.replicate_succ, List.replicate_zero, List.cons_append, List.nil_append, List.not_mem_nil, List.mem_cons, or_false, not_false_eq_true, true_and, decide_true, if_true, if_false, Bool.false_eq_true, reduceIte, Nat.reduceEqDiff, Nat.reduceAdd, Nat.reduceSub, Nat.reduceLeDiff, Nat.reduceLT, Int.reduceLT, Int.reduceLE, Int.reduceAdd, Int.reduceSub, Int.reduceEq, Int.reduceNeg, Nat.reduceMul, decide_false, Bool.not_true, Bool.not_false, and_true, true_or, or_true, Int.reduceMul, Int.reduceToNat, Nat.reducePow, Int.reducePow, Nat.not_lt_zero, r_par2, r_par3, wP2_c, wP3_c, r_fld, r_fldP, r_fldA, r_meth, r_make, r_pop, wFl_d, wNo_none, wMk_ok, oFs_o, okS_o, List.map_cons, List.map_nil, false_or, l_addI, l_addS, l_addL, l_addT, l_sub, l_div, l_mod, l_mulI, l_mulS, l_mulL, l_eqI, l_eqS, l_neI, l_neS, l_ltI, l_leI, l_gtI, l_geI, l_ltS, l_leS, l_gtS, l_geS, l_truI, l_truB, l_truL, l_truT, l_truN, l_truS, l_lenS, l_lenL, l_lenT, l_intI, l_absI, l_tupL, l_tupT, l_itL, l_itT, l_itS, l_rg1, l_rg2, l_ixL, l_ixT, l_ixS, at_0, at_1, at_2, at_3, set_0, set_1, set_2, set_3, List.length_cons, List.length_nil, Int.cast_ofNat_Int, Int.natCast_one, tgD_n, tgD_t, tgA_nil, tgA_cons, Option.bind_some, l_isSS, l_isST, l_isSL, l_isSI, l_isTT, l_isTS, l_isTL, l_isTI, l_isII, l_isBI, l_isLL, l_ord, whole' hx]
  cases hx with
  | int a =>
    simp only [isInt, r_lft, r_var, r_own, r_c, r_bin, r_binO, r_cmp, r_tcmp, r_tcmpO, r_tru, r_tand, r_tor, r_tnot, r_eif, r_nif, r_and, r_or, r_not, r_neg, r_cb, r_ncb, r_bm, r_bm0, r_tup, r_lst, r_anil, r_acons, r_aone, r_vnil, r_vcons, r_vslot, r_sl, r_onone, r_osome, r_chain, r_tchain, r_isi, r_iany, r_rg1, r_rg2, r_yes, r_frz, r_call, r_F, r_sif, r_snil, r_pass, r_break, r_cont, r_no, r_ret, r_retN, r_retNone, r_drop, r_dropN, r_asg, r_asgN, r_aug, r_stup, r_app, r_ext, r_setix, r_for, r_retOwn, wE_nComp, wE_ok, wS_nx, wS_rt, wS_bk, wS_ct, wS_seq, wV_d, wV_l, wO_d, wO_l, wL_some, wL_ite, wL_map, cB_true, cB_false, cB_not, wZ_d, wZ_l, wTk_some, wT_some, wipeE, tk_nil, tk_v, tk_s, putA, mask, d1, d2, tyD, okS_d, okS_l, lOf, asI, Option.isSome_some, Option.getD_some, Option.map_some, List.getElem?_cons_zero, List.getElem?_cons_succ, List.set_cons_zero, List.set_cons_succ, List.replicate_succ, List.replicate_zero, List.cons_append, List.nil_append, List.not_mem_nil, List.mem_cons, or_false, not_false_eq_true, true_and, decide_true, if_true, if_false, Bool.false_eq_true, reduceIte, Nat.reduceEqDiff, Nat.reduceAdd, Nat.reduceSub, Nat.reduceLeDiff, Nat.reduceLT, Int.reduceLT, Int.reduceLE, Int.reduceAdd, Int.reduceSub, Int.reduceEq, Int.reduceNeg, Nat.reduceMul, decide_false, Bool.not_true, Bool.not_false, and_true, true_or, or_true, Int.reduceMul, Int.reduceToNat, Nat.reducePow, Int.reducePow, Nat.not_lt_zero, r_par2, r_par3, wP2_c, wP3_c, r_fld, r_fldP, r_fldA, r_meth, r_make, r_pop, wFl_d, wNo_none, wMk_ok, oFs_o, okS_o, List.map_cons, List.map_nil, false_or, l_addI, l_addS, l_addL, l_addT, l_sub, l_div, l_mod, l_mulI, l_mulS, l_mulL, l_eqI, l_eqS, l_neI, l_neS, l_ltI, l_leI, l_gtI, l_geI, l_ltS, l_leS, l_gtS, l_geS, l_truI, l_truB, l_truL, l_truT, l_truN, l_truS, l_lenS, l_lenL, l_lenT, l_intI, l_absI, l_tupL, l_tupT, l_itL, l_itT, l_itS, l_rg1, l_rg2, l_ixL, l_ixT, l_ixS, at_0, at_1, at_2, at_3, set_0, set_1, set_2, set_3, List.length_cons, List.length_nil, Int.cast_ofNat_Int, Int.natCast_one, tgD_n, tgD_t, tgA_nil, tgA_cons, Option.bind_some, l_isSS, l_isST, l_isSL, l_isSI, l_isTT, l_isTS, l_isTL, l_isTI, l_isII, l_isBI, l_isLL, l_ord]
    refine cB_dec (fun a1 => ?_) fun a1 => ?_
    · simp only [r_lft, r_var, r_own, r_c, r_bin, r_binO, r_cmp, r_tcmp, r_tcmpO, r_tru, r_tand, r_tor, r_tnot, r_eif, r_nif, r_and, r_or, r_not, r_neg, r_cb, r_ncb, r_bm, r_bm0, r_tup, r_lst, r_anil, r_acons, r_aone, r_vnil, r_vcons, r_vslot, r_sl, r_onone, r_osome, r_chain, r_tchain, r_isi, r_iany, r_rg1, r_rg2, r_yes, r_frz, r_call, r_F, r_sif, r_snil, r_pass, r_break, r_cont, r_no, r_ret, r_retN, r_retNone, r_drop, r_dropN, r_asg, r_asgN, r_aug, r_stup, r_app, r_ext, r_setix, r_for, r_retOwn, wE_nComp, wE_ok, wS_nx, wS_rt, wS_bk, wS_ct, wS_seq, wV_d, wV_l, wO_d, wO_l, wL_some, wL_ite, wL_map, cB_true, cB_false, cB_not, wZ_d, wZ_l, wTk_some, wT_some, wipeE, tk_nil, tk_v, tk_s, putA, mask, d1, d2, tyD, okS_d, okS_l, lOf, asI, Option.isSome_some, Option.getD_some, Option.map_some, List.getElem?_cons_zero, List.getElem?_cons_succ, List.set_cons_zero, List.set_cons_succ, List.replicate_succ, List.replicate_zero, List.cons_append, List.nil_append, List.not_mem_nil, List.mem_cons, or_false, not_false_eq_true, true_and, decide_true, if_true, if_false, Bool.false_eq_true, reduceIte, Nat.reduceEqDiff, Nat.reduceAdd, Nat.reduceSub, Nat.reduceLeDiff, Nat.reduceLT, Int.reduceLT, Int.reduceLE, Int.reduceAdd, Int.reduceSub, Int.reduceEq, Int.reduceNeg, Nat.reduceMul, decide_false, Bool.not_true, Bool.not_false, and_true, true_or, or_true, Int.reduceMul, Int.reduceToNat, Nat.reducePow, Int.reducePow, Nat.not_lt_zero, r_par2, r_par3, wP2_c, wP3_c, r_fld, r_fldP, r_fldA, r_meth, r_make, r_pop, wFl_d, wNo_none, wMk_ok, oFs_o, okS_o, List.map_cons, List.map_nil, false_or, l_addI, l_addS, l_addL, l_addT, l_sub, l_div, l_mod, l_mulI, l_mulS, l_mulL, l_eqI, l_eqS, l_neI, l_neS, l_ltI, l_leI, l_gtI, l_geI, l_ltS, l_leS, l_gtS, l_geS, l_truI, l_truB, l_truL, l_truT, l_truN, l_truS, l_lenS, l_lenL, l_lenT, l_intI, l_absI, l_tupL, l_tupT, l_itL, l_itT, l_itS, l_rg1, l_rg2, l_ixL, l_ixT, l_ixS, at_0, at_1, at_2, at_3, set_0, set_1, set_2, set_3, List.length_cons, List.length_nil, Int.cast_ofNat_Int, Int.natCast_one, tgD_n, tgD_t, tgA_nil, tgA_cons, Option.bind_some, l_isSS, l_isST, l_isSL, l_isSI, l_isTT, l_isTS, l_isTL, l_isTI, l_isII, l_isBI, l_isLL, l_ord]
      refine cB_dec (fun a2 => ?_) fun a2 => ?_
      · simp only [r_lft, r_var, r_own, r_c, r_bin, r_binO, r_cmp, r_tcmp, r_tcmpO, r_tru, r_tand, r_tor, r_tnot, r_eif, r_nif, r_and, r_or, r_not, r_neg, r_cb, r_ncb, r_bm, r_bm0, r_tup, r_lst, r_anil, r_acons, r_aone, r_vnil, r_vcons, r_vslot, r_sl, r_onone, r_osome, r_chain, r_tchain, r_isi, r_iany, r_rg1, r_rg2, r_yes, r_frz, r_call, r_F, r_sif, r_snil, r_pass, r_break, r_cont, r_no, r_ret, r_retN, r_retNone, r_drop, r_dropN, r_asg, r_asgN, r_aug, r_stup, r_app, r_ext, r_setix, r_for, r_retOwn, wE_nComp, wE_ok, wS_nx, wS_rt, wS_bk, wS_ct, wS_seq, wV_d, wV_l, wO_d, wO_l, wL_some, wL_ite, wL_map, cB_true, cB_false, cB_not, wZ_d, wZ_l, wTk_some, wT_some, wipeE, tk_nil, tk_v, tk_s, putA, mask, d1, d2, tyD, okS_d, okS_l, lOf, asI, Option.isSome_some, Option.getD_some, Option.map_some, List.getElem?_cons_zero, List.getElem?_cons_succ, List.set_cons_zero, List.set_cons_succ, List.replicate_succ, List.replicate_zero, List.cons_append, List.nil_append, List.not_mem_nil, List.mem_cons, or_false, not_false_eq_true, true_and, decide_true, if_true, if_false, Bool.false_eq_true, reduceIte, Nat.reduceEqDiff, Nat.reduceAdd, Nat.reduceSub, Nat.reduceLeDiff, Nat.reduceLT, Int.reduceLT, Int.reduceLE, Int.reduceAdd, Int.reduceSub, Int.reduceEq, Int.reduceNeg, Nat.reduceMul, decide_false, Bool.not_true, Bool.not_false, and_true, true_or, or_true, Int.reduceMul, Int.reduceToNat, Nat.reducePow, Int.reducePow, Nat.not_lt_zero, r_par2, r_par3, wP2_c, wP3_c, r_fld, r_fldP, r_fldA, r_meth, r_make, r_pop, wFl_d, wNo_none, wMk_ok, oFs_o, okS_o, List.map_cons, List.map_nil, false_or, l_addI, l_addS, l_addL, l_addT, l_sub, l_div, l_mod, l_mulI, l_mulS, l_mulL, l_eqI, l_eqS, l_neI, l_neS, l_ltI, l_leI, l_gtI, l_geI, l_ltS, l_leS, l_gtS, l_geS, l_truI, l_truB, l_truL, l_truT, l_truN, l_truS, l_lenS, l_lenL, l_lenT, l_intI, l_absI, l_tupL, l_tupT, l_itL, l_itT, l_itS, l_rg1, l_rg2, l_ixL, l_ixT, l_ixS, at_0, at_1, at_2, at_3, set_0, set_1, set_2, set_3, List.length_cons, List.length_nil, Int.cast_ofNat_Int, Int.natCast_one, tgD_n, tgD_t, tgA_nil, tgA_cons, Option.bind_some, l_isSS, l_isST, l_isSL, l_isSI, l_isTT, l_isTS, l_isTL, l_isTI, l_isII, l_isBI, l_isLL, l_ord, whole' hy]
        cases hy with
        | int b =>
          simp only [isInt, r_lft, r_var, r_own, r_c, r_bin, r_binO, r_cmp, r_tcmp, r_tcmpO, r_tru, r_tand, r_tor, r_tnot, r_eif, r_nif, r_and, r_or, r_not, r_neg, r_cb, r_ncb, r_bm, r_bm0, r_tup, r_lst, r_anil, r_acons, r_aone, r_vnil, r_vcons, r_vslot, r_sl, r_onone, r_osome, r_chain, r_tchain, r_isi, r_iany, r_rg1, r_rg2, r_yes, r_frz, r_call, r_F, r_sif, r_snil, r_pass, r_break, r_cont, r_no, r_ret, r_retN, r_retNone, r_drop, r_dropN, r_asg, r_asgN, r_aug, r_stup, r_app, r_ext, r_setix, r_for, r_retOwn, wE_nComp, wE_ok, wS_nx, wS_rt, wS_bk, wS_ct, wS_seq, wV_d, wV_l, wO_d, wO_l, wL_some, wL_ite, wL_map, cB_true, cB_false, cB_not, wZ_d, wZ_l, wTk_some, wT_some, wipeE, tk_nil, tk_v, tk_s, putA, mask, d1, d2, tyD, okS_d, okS_l, lOf, asI, Option.isSome_some, Option.getD_some, Option.map_some, List.getElem?_cons_zero, List.getElem?_cons_succ, List.set_cons_zero, List.set_cons_succ, List.replicate_succ, List.replicate_zero, List.cons_append, List.nil_append, List.not_mem_nil, List.mem_cons, or_false, not_false_eq_true, true_and, decide_true, if_true, if_false, Bool.false_eq_true, reduceIte, Nat.reduceEqDiff, Nat.reduceAdd, Nat.reduceSub, Nat.reduceLeDiff, Nat.reduceLT, Int.reduceLT, Int.reduceLE, Int.reduceAdd, Int.reduceSub, Int.reduceEq, Int.reduceNeg, Nat.reduceMul, decide_false, Bool.not_true, Bool.not_false, and_true, true_or, or_true, Int.reduceMul, Int.reduceToNat, Nat.reducePow, Int.reducePow, Nat.not_lt_zero, r_par2, r_par3, wP2_c, wP3_c, r_fld, r_fldP, r_fldA, r_meth, r_make, r_pop, wFl_d, wNo_none, wMk_ok, oFs_o, okS_o, List.map_cons, List.map_nil, false_or, l_addI, l_addS, l_addL, l_addT, l_sub, l_div, l_mod, l_mulI, l_mulS, l_mulL, l_eqI, l_eqS, l_neI, l_neS, l_ltI, l_leI, l_gtI, l_geI, l_ltS, l_leS, l_gtS, l_geS, l_truI, l_truB, l_truL, l_truT, l_truN, l_truS, l_lenS, l_lenL, l_lenT, l_intI, l_absI, l_tupL, l_tupT, l_itL, l_itT, l_itS, l_rg1, l_rg2, l_ixL, l_ixT, l_ixS, at_0, at_1, at_2, at_3, set_0, set_1, set_2, set_3, List.length_cons, List.length_nil, Int.cast_ofNat_Int, Int.natCast_one, tgD_n, tgD_t, tgA_nil, tgA_cons, Option.bind_some, l_isSS, l_isST, l_isSL, l_isSI, l_isTT, l_isTS, l_isTL, l_isTI, l_isII, l_isBI, l_isLL, l_ord]
          refine cB_dec (fun b1 => ?_) fun b1 => ?_
          · simp only [r_lft, r_var, r_own, r_c, r_bin, r_binO, r_cmp, r_tcmp, r_tcmpO, r_tru, r_tand, r_tor, r_tnot, r_eif, r_nif, r_and, r_or, r_not, r_neg, r_cb, r_ncb, r_bm, r_bm0, r_tup, r_lst, r_anil, r_acons, r_aone, r_vnil, r_vcons, r_vslot, r_sl, r_onone, r_osome, r_chain, r_tchain, r_isi, r_iany, r_rg1, r_rg2, r_yes, r_frz, r_call, r_F, r_sif, r_snil, r_pass, r_break, r_cont, r_no, r_ret, r_retN, r_retNone, r_drop, r_dropN, r_asg, r_asgN, r_aug, r_stup, r_app, r_ext, r_setix, r_for, r_retOwn, wE_nComp, wE_ok, wS_nx, wS_rt, wS_bk, wS_ct, wS_seq, wV_d, wV_l, wO_d, wO_l, wL_some, wL_ite, wL_map, cB_true, cB_false, cB_not, wZ_d, wZ_l, wTk_some, wT_some, wipeE, tk_nil, tk_v, tk_s, putA, mask, d1, d2, tyD, okS_d, okS_l, lOf, asI, Option.isSome_some, Option.getD_some, Option.map_some, List.getElem?_cons_zero, List.getElem?_cons_succ, List.set_cons_zero, List.set_cons_succ, List.replicate_succ, List.replicate_zero, List.cons_append, List.nil_append, List.not_mem_nil, List.mem_cons, or_false, not_false_eq_true, true_and, decide_true, if_true, if_false, Bool.false_eq_true, reduceIte, Nat.reduceEqDiff, Nat.reduceAdd, Nat.reduceSub, Nat.reduceLeDiff, Nat.reduceLT, Int.reduceLT, Int.reduceLE, Int.reduceAdd, Int.reduceSub, Int.reduceEq, Int.reduceNeg, Nat.reduceMul, decide_false, Bool.not_true, Bool.not_false, and_true, true_or, or_true, Int.reduceMul, Int.reduceToNat, Nat.reducePow, Int.reducePow, Nat.not_lt_zero, r_par2, r_par3, wP2_c, wP3_c, r_fld, r_fldP, r_fldA, r_meth, r_make, r_pop, wFl_d, wNo_none, wMk_ok, oFs_o, okS_o, List.map_cons, List.map_nil, false_or, l_addI, l_addS, l_addL, l_addT, l_sub, l_div, l_mod, l_mulI, l_mulS, l_mulL, l_eqI, l_eqS, l_neI, l_neS, l_ltI, l_leI, l_gtI, l_geI, l_ltS, l_leS, l_gtS, l_geS, l_truI, l_truB, l_truL, l_truT, l_truN, l_truS, l_lenS, l_lenL, l_lenT, l_intI, l_absI, l_tupL, l_tupT, l_itL, l_itT, l_itS, l_rg1, l_rg2, l_ixL, l_ixT, l_ixS, at_0, at_1, at_2, at_3, set_0, set_1, set_2, set_3, List.length_cons, List.length_nil, Int.cast_ofNat_Int, Int.natCast_one, tgD_n, tgD_t, tgA_nil, tgA_cons, Option.bind_some, l_isSS, l_isST, l_isSL, l_isSI, l_isTT, l_isTS, l_isTL, l_isTI, l_isII, l_isBI, l_isLL, l_ord]
            refine cB_dec (fun b2 => ?_) fun b2 => ?_
            · simp only [r_lft, r_var, r_own, r_c, r_bin, r_binO, r_cmp, r_tcmp, r_tcmpO, r_tru, r_tand, r_tor, r_tnot, r_eif, r_nif, r_and, r_or, r_not, r_neg, r_cb, r_ncb, r_bm, r_bm0, r_tup, r_lst, r_anil, r_acons, r_aone, r_vnil, r_vcons, r_vslot, r_sl, r_onone, r_osome, r_chain, r_tchain, r_isi, r_iany, r_rg1, r_rg2, r_yes, r_frz, r_call, r_F, r_sif, r_snil, r_pass, r_break, r_cont, r_no, r_ret, r_retN, r_retNone, r_drop, r_dropN, r_asg, r_asgN, r_aug, r_stup, r_app, r_ext, r_setix, r_for, r_retOwn, wE_nComp, wE_ok, wS_nx, wS_rt, wS_bk, wS_ct, wS_seq, wV_d, wV_l, wO_d, wO_l, wL_some, wL_ite, wL_map, cB_true, cB_false, cB_not, wZ_d, wZ_l, wTk_some, wT_some, wipeE, tk_nil, tk_v, tk_s, putA, mask, d1, d2, tyD, okS_d, okS_l, lOf, asI, Option.isSome_some, Option.getD_some, Option.map_some, List.getElem?_cons_zero, List.getElem?_cons_succ, List.set_cons_zero, List.set_cons_succ, List.replicate_succ, List.replicate_zero, List.cons_append, List.nil_append, List.not_mem_nil, List.mem_cons, or_false, not_false_eq_true, true_and, decide_true, if_true, if_false, Bool.false_eq_true, reduceIte, Nat.reduceEqDiff, Nat.reduceAdd, Nat.reduceSub, Nat.reduceLeDiff, Nat.reduceLT, Int.reduceLT, Int.reduceLE, Int.reduceAdd, Int.reduceSub, Int.reduceEq, Int.reduceNeg, Nat.reduceMul, decide_false, Bool.not_true, Bool.not_false, and_true, true_or, or_true, Int.reduceMul, Int.reduceToNat, Nat.reducePow, Int.reducePow, Nat.not_lt_zero, r_par2, r_par3, wP2_c, wP3_c, r_fld, r_fldP, r_fldA, r_meth, r_make, r_pop, wFl_d, wNo_none, wMk_ok, oFs_o, okS_o, List.map_cons, List.map_nil, false_or, l_addI, l_addS, l_addL, l_addT, l_sub, l_div, l_mod, l_mulI, l_mulS, l_mulL, l_eqI, l_eqS, l_neI, l_neS, l_ltI, l_leI, l_gtI, l_geI, l_ltS, l_leS, l_gtS, l_geS, l_truI, l_truB, l_truL, l_truT, l_truN, l_truS, l_lenS, l_lenL, l_lenT, l_intI, l_absI, l_tupL, l_tupT, l_itL, l_itT, l_itS, l_rg1, l_rg2, l_ixL, l_ixT, l_ixS, at_0, at_1, at_2, at_3, set_0, set_1, set_2, set_3, List.length_cons, List.length_nil, Int.cast_ofNat_Int, Int.natCast_one, tgD_n, tgD_t, tgA_nil, tgA_cons, Option.bind_some, l_isSS, l_isST, l_isSL, l_isSI, l_isTT, l_isTS, l_isTL, l_isTI, l_isII, l_isBI, l_isLL, l_ord, whole' hz]
              cases hz with
              | int c =>
                simp only [isInt, r_lft, r_var, r_own, r_c, r_bin, r_binO, r_cmp, r_tcmp, r_tcmpO, r_tru, r_tand, r_tor, r_tnot, r_eif, r_nif, r_and, r_or, r_not, r_neg, r_cb, r_ncb, r_bm, r_bm0, r_tup, r_lst, r_anil, r_acons, r_aone, r_vnil, r_vcons, r_vslot, r_sl, r_onone, r_osome, r_chain, r_tchain, r_isi, r_iany, r_rg1, r_rg2, r_yes, r_frz, r_call, r_F, r_sif, r_snil, r_pass, r_break, r_cont, r_no, r_ret, r_retN, r_retNone, r_drop, r_dropN, r_asg, r_asgN, r_aug, r_stup, r_app, r_ext, r_setix, r_for, r_retOwn, wE_nComp, wE_ok, wS_nx, wS_rt, wS_bk, wS_ct, wS_seq, wV_d, wV_l, wO_d, wO_l, wL_some, wL_ite, wL_map, cB_true, cB_false, cB_not, wZ_d, wZ_l, wTk_some, wT_some, wipeE, tk_nil, tk_v, tk_s, putA, mask, d1, d2, tyD, okS_d, okS_l, lOf, asI, Option.isSome_some, Option.getD_some, Option.map_some, List.getElem?_cons_zero, List.getElem?_cons_succ, List.set_cons_zero, List.set_cons_succ, List.replicate_succ, List.replicate_zero, List.cons_append, List.nil_append, List.not_mem_nil, List.mem_cons, or_false, not_false_eq_true, true_and, decide_true, if_true, if_false, Bool.false_eq_true, reduceIte, Nat.reduceEqDiff, Nat.reduceAdd, Nat.reduceSub, Nat.reduceLeDiff, Nat.reduceLT, Int.reduceLT, Int.reduceLE, Int.reduceAdd, Int.reduceSub, Int.reduceEq, Int.reduceNeg, Nat.reduceMul, decide_false, Bool.not_true, Bool.not_false, and_true, true_or, or_true, Int.reduceMul, Int.reduceToNat, Nat.reducePow, Int.reducePow, Nat.not_lt_zero, r_par2, r_par3, wP2_c, wP3_c, r_fld, r_fldP, r_fldA, r_meth, r_make, r_pop, wFl_d, wNo_none, wMk_ok, oFs_o, okS_o, List.map_cons, List.map_nil, false_or, l_addI, l_addS, l_addL, l_addT, l_sub, l_div, l_mod, l_mulI, l_mulS, l_mulL, l_eqI, l_eqS, l_neI, l_neS, l_ltI, l_leI, l_gtI, l_geI, l_ltS, l_leS, l_gtS, l_geS, l_truI, l_truB, l_truL, l_truT, l_truN, l_truS, l_lenS, l_lenL, l_lenT, l_intI, l_absI, l_tupL, l_tupT, l_itL, l_itT, l_itS, l_rg1, l_rg2, l_ixL, l_ixT, l_ixS, at_0, at_1, at_2, at_3, set_0, set_1, set_2, set_3, List.length_cons, List.length_nil, Int.cast_ofNat_Int, Int.natCast_one, tgD_n, tgD_t, tgA_nil, tgA_cons, Option.bind_some, l_isSS, l_isST, l_isSL, l_isSI, l_isTT, l_isTS, l_isTL, l_isTI, l_isII, l_isBI, l_isLL, l_ord]
                refine cB_dec (fun c1 => ?_) fun c1 => ?_
                · simp only [r_lft, r_var, r_own, r_c, r_bin, r_binO, r_cmp, r_tcmp, r_tcmpO, r_tru, r_tand, r_tor, r_tnot, r_eif, r_nif, r_and, r_or, r_not, r_neg, r_cb, r_ncb, r_bm, r_bm0, r_tup, r_lst, r_anil, r_acons, r_aone, r_vnil, r_vcons, r_vslot, r_sl, r_onone, r_osome, r_chain, r_tchain, r_isi, r_iany, r_rg1, r_rg2, r_yes, r_frz, r_call, r_F, r_sif, r_snil, r_pass, r_break, r_cont, r_no, r_ret, r_retN, r_retNone, r_drop, r_dropN, r_asg, r_asgN, r_aug, r_stup, r_app, r_ext, r_setix, r_for, r_retOwn, wE_nComp, wE_ok, wS_nx, wS_rt, wS_bk, wS_ct, wS_seq, wV_d, wV_l, wO_d, wO_l, wL_some, wL_ite, wL_map, cB_true, cB_false, cB_not, wZ_d, wZ_l, wTk_some, wT_some, wipeE, tk_nil, tk_v, tk_s, putA, mask, d1, d2, tyD, okS_d, okS_l, lOf, asI, Option.isSome_some, Option.getD_some, Option.map_some, List.getElem?_cons_zero, List.getElem?_cons_succ, List.set_cons_zero, List.set_cons_succ, List.replicate_succ, List.replicate_zero, List.cons_append, List.nil_append, List.not_mem_nil, List.mem_cons, or_false, not_false_eq_true, true_and, decide_true, if_true, if_false, Bool.false_eq_true, reduceIte, Nat.reduceEqDiff, Nat.reduceAdd, Nat.reduceSub, Nat.reduceLeDiff, Nat.reduceLT, Int.reduceLT, Int.reduceLE, Int.reduceAdd, Int.reduceSub, Int.reduceEq, Int.reduceNeg, Nat.reduceMul, decide_false, Bool.not_true, Bool.not_false, and_true, true_or, or_true, Int.reduceMul, Int.reduceToNat, Nat.reducePow, Int.reducePow, Nat.not_lt_zero, r_par2, r_par3, wP2_c, wP3_c, r_fld, r_fldP, r_fldA, r_meth, r_make, r_pop, wFl_d, wNo_none, wMk_ok, oFs_o, okS_o, List.map_cons, List.map_nil, false_or, l_addI, l_addS, l_addL, l_addT, l_sub, l_div, l_mod, l_mulI, l_mulS, l_mulL, l_eqI, l_eqS, l_neI, l_neS, l_ltI, l_leI, l_gtI, l_geI, l_ltS, l_leS, l_gtS, l_geS, l_truI, l_truB, l_truL, l_truT, l_truN, l_truS, l_lenS, l_lenL, l_lenT, l_intI, l_absI, l_tupL, l_tupT, l_itL, l_itT, l_itS, l_rg1, l_rg2, l_ixL, l_ixT, l_ixS, at_0, at_1, at_2, at_3, set_0, set_1, set_2, set_3, List.length_cons, List.length_nil, Int.cast_ofNat_Int, Int.natCast_one, tgD_n, tgD_t, tgA_nil, tgA_cons, Option.bind_some, l_isSS, l_isST, l_isSL, l_isSI, l_isTT, l_isTS, l_isTL, l_isTI, l_isII, l_isBI, l_isLL, l_ord, lawlen]
                  simp [isDt, a1, a2, b1, b2, c1]
                · simp only [r_lft, r_var, r_own, r_c, r_bin, r_binO, r_cmp, r_tcmp, r_tcmpO, r_tru, r_tand, r_tor, r_tnot, r_eif, r_nif, r_and, r_or, r_not, r_neg, r_cb, r_ncb, r_bm, r_bm0, r_tup, r_lst, r_anil, r_acons, r_aone, r_vnil, r_vcons, r_vslot, r_sl, r_onone, r_osome, r_chain, r_tchain, r_isi, r_iany, r_rg1, r_rg2, r_yes, r_frz, r_call, r_F, r_sif, r_snil, r_pass, r_break, r_cont, r_no, r_ret, r_retN, r_retNone, r_drop, r_dropN, r_asg, r_asgN, r_aug, r_stup, r_app, r_ext, r_setix, r_for, r_retOwn, wE_nComp, wE_ok, wS_nx, wS_rt, wS_bk, wS_ct, wS_seq, wV_d, wV_l, wO_d, wO_l, wL_some, wL_ite, wL_map, cB_true, cB_false, cB_not, wZ_d, wZ_l, wTk_some, wT_some, wipeE, tk_nil, tk_v, tk_s, putA, mask, d1, d2, tyD, okS_d, okS_l, lOf, asI, Option.isSome_some, Option.getD_some, Option.map_some, List.getElem?_cons_zero, List.getElem?_cons_succ, List.set_cons_zero, List.set_cons_succ, List.replicate_succ, List.replicate_zero, List.cons_append, List.nil_append, List.not_mem_nil, List.mem_cons, or_false, not_false_eq_true, true_and, decide_true, if_true, if_false, Bool.false_eq_true, reduceIte, Nat.reduceEqDiff, Nat.reduceAdd, Nat.reduceSub, Nat.reduceLeDiff, Nat.reduceLT, Int.reduceLT, Int.reduceLE, Int.reduceAdd, Int.reduceSub, Int.reduceEq, Int.reduceNeg, Nat.reduceMul, decide_false, Bool.not_true, Bool.not_false, and_true, true_or, or_true, Int.reduceMul, Int.reduceToNat, Nat.reducePow, Int.reducePow, Nat.not_lt_zero, r_par2, r_par3, wP2_c, wP3_c, r_fld, r_fldP, r_fldA, r_meth, r_make, r_pop, wFl_d, wNo_none, wMk_ok, oFs_o, okS_o, List.map_cons, List.map_nil, false_or, l_addI, l_addS, l_addL, l_addT, l_sub, l_div, l_mod, l_mulI, l_mulS, l_mulL, l_eqI, l_eqS, l_neI, l_neS, l_ltI, l_leI, l_gtI, l_geI, l_ltS, l_leS, l_gtS, l_geS, l_truI, l_truB, l_truL, l_truT, l_truN, l_truS, l_lenS, l_lenL, l_lenT, l_intI, l_absI, l_tupL, l_tupT, l_itL, l_itT, l_itS, l_rg1, l_rg2, l_ixL, l_ixT, l_ixS, at_0, at_1, at_2, at_3, set_0, set_1, set_2, set_3, List.length_cons, List.length_nil, Int.cast_ofNat_Int, Int.natCast_one, tgD_n, tgD_t, tgA_nil, tgA_cons, Option.bind_some, l_isSS, l_isST, l_isSL, l_isSI, l_isTT, l_isTS, l_isTL, l_isTI, l_isII, l_isBI, l_isLL, l_ord]
                  simp [isDt, c1]
              | _ => simp only [isInt, r_lft, r_var, r_own, r_c, r_bin, r_binO, r_cmp, r_tcmp, r_tcmpO, r_tru, r_tand, r_tor, r_tnot, r_eif, r_nif, r_and, r_or, r_not, r_neg, r_cb, r_ncb, r_bm, r_bm0, r_tup, r_lst, r_anil, r_acons, r_aone, r_vnil, r_vcons, r_vslot, r_sl, r_onone, r_osome, r_chain, r_tchain, r_isi, r_iany, r_rg1, r_rg2, r_yes, r_frz, r_call, r_F, r_sif, r_snil, r_pass, r_break, r_cont, r_no, r_ret, r_retN, r_retNone, r_drop, r_dropN, r_asg, r_asgN, r_aug, r_stup, r_app, r_ext, r_setix, r_for, r_retOwn, wE_nComp, wE_ok, wS_nx, wS_rt, wS_bk, wS_ct, wS_seq, wV_d, wV_l, wO_d, wO_l, wL_some, wL_ite, wL_map, cB_true, cB_false, cB_not, wZ_d, wZ_l, wTk_some, wT_some, wipeE, tk_nil, tk_v, tk_s, putA, mask, d1, d2, tyD, okS_d, okS_l, lOf, asI, Option.isSome_some, Option.getD_some, Option.map_some, List.getElem?_cons_zero, List.getElem?_cons_succ, List.set_cons_zero, List.set_cons_succ, List.replicate_succ, List.replicate_zero, List.cons_append, List.nil_append, List.not_mem_nil, List.mem_cons, or_false, not_false_eq_true, true_and, decide_true, if_true, if_false, Bool.false_eq_true, reduceIte, Nat.reduceEqDiff, Nat.reduceAdd, Nat.reduceSub, Nat.reduceLeDiff, Nat.reduceLT, Int.reduceLT, Int.reduceLE, Int.reduceAdd, Int.reduceSub, Int.reduceEq, Int.reduceNeg, Nat.reduceMul, decide_false, Bool.not_true, Bool.not_false, and_true, true_or, or_true, Int.reduceMul, Int.reduceToNat, Nat.reducePow, Int.reducePow, Nat.not_lt_zero, r_par2, r_par3, wP2_c, wP3_c, r_fld, r_fldP, r_fldA, r_meth, r_make, r_pop, wFl_d, wNo_none, wMk_ok, oFs_o, okS_o, List.map_cons, List.map_nil, false_or, l_addI, l_addS, l_addL, l_addT, l_sub, l_div, l_mod, l_mulI, l_mulS, l_mulL, l_eqI, l_eqS, l_neI, l_neS, l_ltI, l_leI, l_gtI, l_geI, l_ltS, l_leS, l_gtS, l_geS, l_truI, l_truB, l_truL, l_truT, l_truN, l_truS, l_lenS, l_lenL, l_lenT, l_intI, l_absI, l_tupL, l_tupT, l_itL, l_itT, l_itS, l_rg1, l_rg2, l_ixL, l_ixT, l_ixS, at_0, at_1, at_2, at_3, set_0, set_1, set_2, set_3, List.length_cons, List.length_nil, Int.cast_ofNat_Int, Int.natCast_one, tgD_n, tgD_t, tgA_nil, tgA_cons, Option.bind_some, l_isSS, l_isST, l_isSL, l_isSI, l_isTT, l_isTS, l_isTL, l_isTI, l_isII, l_isBI, l_isLL, l_ord]; rfl
            · simp only [r_lft, r_var, r_own, r_c, r_bin, r_binO, r_cmp, r_tcmp, r_tcmpO, r_tru, r_tand, r_tor, r_tnot, r_eif, r_nif, r_and, r_or, r_not, r_neg, r_cb, r_ncb, r_bm, r_bm0, r_tup, r_lst, r_anil, r_acons, r_aone, r_vnil, r_vcons, r_vslot, r_sl, r_onone, r_osome, r_chain, r_tchain, r_isi, r_iany, r_rg1, r_rg2, r_yes, r_frz, r_call, r_F, r_sif, r_snil, r_pass, r_break, r_cont, r_no, r_ret, r_retN, r_retNone, r_drop, r_dropN, r_asg, r_asgN, r_aug, r_stup, r_app, r_ext, r_setix, r_for, r_retOwn, wE_nComp, wE_ok, wS_nx, wS_rt, wS_bk, wS_ct, wS_seq, wV_d, wV_l, wO_d, wO_l, wL_some, wL_ite, wL_map, cB_true, cB_false, cB_not, wZ_d, wZ_l, wTk_some, wT_some, wipeE, tk_nil, tk_v, tk_s, putA, mask, d1, d2, tyD, okS_d, okS_l, lOf, asI, Option.isSome_some, Option.getD_some, Option.map_some, List.getElem?_cons_zero, List.getElem?_cons_succ, List.set_cons_zero, List.set_cons_succ, List.replicate_succ, List.replicate_zero, List.cons_append, List.nil_append, List.not_mem_nil, List.mem_cons, or_false, not_false_eq_true, true_and, decide_true, if_true, if_false, Bool.false_eq_true, reduceIte, Nat.reduceEqDiff, Nat.reduceAdd, Nat.reduceSub, Nat.reduceLeDiff, Nat.reduceLT, Int.reduceLT, Int.reduceLE, Int.reduceAdd, Int.reduceSub, Int.reduceEq, Int.reduceNeg, Nat.reduceMul, decide_false, Bool.not_true, Bool.not_false, and_true, true_or, or_true, Int.reduceMul, Int.reduceToNat, Nat.reducePow, Int.reducePow, Nat.not_lt_zero, r_par2, r_par3, wP2_c, wP3_c, r_fld, r_fldP, r_fldA, r_meth, r_make, r_pop, wFl_d, wNo_none, wMk_ok, oFs_o, okS_o, List.map_cons, List.map_nil, false_or, l_addI, l_addS, l_addL, l_addT, l_sub, l_div, l_mod, l_mulI, l_mulS, l_mulL, l_eqI, l_eqS, l_neI, l_neS, l_ltI, l_leI, l_gtI, l_geI, l_ltS, l_leS, l_gtS, l_geS, l_truI, l_truB, l_truL, l_truT, l_truN, l_truS, l_lenS, l_lenL, l_lenT, l_intI, l_absI, l_tupL, l_tupT, l_itL, l_itT, l_itS, l_rg1, l_rg2, l_ixL, l_ixT, l_ixS, at_0, at_1, at_2, at_3, set_0, set_1, set_2, set_3, List.length_cons, List.length_nil, Int.cast_ofNat_Int, Int.natCast_one, tgD_n, tgD_t, tgA_nil, tgA_cons, Option.bind_some, l_isSS, l_isST, l_isSL, l_isSI, l_isTT, l_isTS, l_isTL, l_isTI, l_isII, l_isBI, l_isLL, l_ord]
              cases hz <;> simp [isDt, b2]
          · simp only [r_lft, r_var, r_own, r_c, r_bin, r_binO, r_cmp, r_tcmp, r_tcmpO, r_tru, r_tand, r_tor, r_tnot, r_eif, r_nif, r_and, r_or, r_not, r_neg, r_cb, r_ncb, r_bm, r_bm0, r_tup, r_lst, r_anil, r_acons, r_aone, r_vnil, r_vcons, r_vslot, r_sl, r_onone, r_osome, r_chain, r_tchain, r_isi, r_iany, r_rg1, r_rg2, r_yes, r_frz, r_call, r_F, r_sif, r_snil, r_pass, r_break, r_cont, r_no, r_ret, r_retN, r_retNone, r_drop, r_dropN, r_asg, r_asgN, r_aug, r_stup, r_app, r_ext, r_setix, r_for, r_retOwn, wE_nComp, wE_ok, wS_nx, wS_rt, wS_bk, wS_ct, wS_seq, wV_d, wV_l, wO_d, wO_l, wL_some, wL_ite, wL_map, cB_true, cB_false, cB_not, wZ_d, wZ_l, wTk_some, wT_some, wipeE, tk_nil, tk_v, tk_s, putA, mask, d1, d2, tyD, okS_d, okS_l, lOf, asI, Option.isSome_some, Option.getD_some, Option.map_some, List.getElem?_cons_zero, List.getElem?_cons_succ, List.set_cons_zero, List.set_cons_succ, List.replicate_succ, List.replicate_zero, List.cons_append, List.nil_append, List.not_mem_nil, List.mem_cons, or_false, not_false_eq_true, true_and, decide_true, if_true, if_false, Bool.false_eq_true, reduceIte, Nat.reduceEqDiff, Nat.reduceAdd, Nat.reduceSub, Nat.reduceLeDiff, Nat.reduceLT, Int.reduceLT, Int.reduceLE, Int.reduceAdd, Int.reduceSub, Int.reduceEq, Int.reduceNeg, Nat.reduceMul, decide_false, Bool.not_true, Bool.not_false, and_true, true_or, or_true, Int.reduceMul, Int.reduceToNat, Nat.reducePow, Int.reducePow, Nat.not_lt_zero, r_par2, r_par3, wP2_c, wP3_c, r_fld, r_fldP, r_fldA, r_meth, r_make, r_pop, wFl_d, wNo_none, wMk_ok, oFs_o, okS_o, List.map_cons, List.map_nil, false_or, l_addI, l_addS, l_addL, l_addT, l_sub, l_div, l_mod, l_mulI, l_mulS, l_mulL, l_eqI, l_eqS, l_neI, l_neS, l_ltI, l_leI, l_gtI, l_geI, l_ltS, l_leS, l_gtS, l_geS, l_truI, l_truB, l_truL, l_truT, l_truN, l_truS, l_lenS, l_lenL, l_lenT, l_intI, l_absI, l_tupL, l_tupT, l_itL, l_itT, l_itS, l_rg1, l_rg2, l_ixL, l_ixT, l_ixS, at_0, at_1, at_2, at_3, set_0, set_1, set_2, set_3, List.length_cons, List.length_nil, Int.cast_ofNat_Int, Int.natCast_one, tgD_n, tgD_t, tgA_nil, tgA_cons, Option.bind_some, l_isSS, l_isST, l_isSL, l_isSI, l_isTT, l_isTS, l_isTL, l_isTI, l_isII, l_isBI, l_isLL, l_ord]
            cases hz <;> simp [isDt, b1]
        | _ => simp only [isInt, r_lft, r_var, r_own, r_c, r_bin, r_binO, r_cmp, r_tcmp, r_tcmpO, r_tru, r_tand, r_tor, r_tnot, r_eif, r_nif, r_and, r_or, r_not, r_neg, r_cb, r_ncb, r_bm, r_bm0, r_tup, r_lst, r_anil, r_acons, r_aone, r_vnil, r_vcons, r_vslot, r_sl, r_onone, r_osome, r_chain, r_tchain, r_isi, r_iany, r_rg1, r_rg2, r_yes, r_frz, r_call, r_F, r_sif, r_snil, r_pass, r_break, r_cont, r_no, r_ret, r_retN, r_retNone, r_drop, r_dropN, r_asg, r_asgN, r_aug, r_stup, r_app, r_ext, r_setix, r_for, r_retOwn, wE_nComp, wE_ok, wS_nx, wS_rt, wS_bk, wS_ct, wS_seq, wV_d, wV_l, wO_d, wO_l, wL_some, wL_ite, wL_map, cB_true, cB_false, cB_not, wZ_d, wZ_l, wTk_some, wT_some, wipeE, tk_nil, tk_v, tk_s, putA, mask, d1, d2, tyD, okS_d, okS_l, lOf, asI, Option.isSome_some, Option.getD_some, Option.map_some, List.getElem?_cons_zero, List.getElem?_cons_succ, List.set_cons_zero, List.set_cons_succ, List.replicate_succ, List.replicate_zero, List.cons_append, List.nil_append, List.not_mem_nil, List.mem_cons, or_false, not_false_eq_true, true_and, decide_true, if_true, if_false, Bool.false_eq_true, reduceIte, Nat.reduceEqDiff, Nat.reduceAdd, Nat.reduceSub, Nat.reduceLeDiff, Nat.reduceLT, Int.reduceLT, Int.reduceLE, Int.reduceAdd, Int.reduceSub, Int.reduceEq, Int.reduceNeg, Nat.reduceMul, decide_false, Bool.not_true, Bool.not_false, and_true, true_or, or_true, Int.reduceMul, Int.reduceToNat, Nat.reducePow, Int.reducePow, Nat.not_lt_zero, r_par2, r_par3, wP2_c, wP3_c, r_fld, r_fldP, r_fldA, r_meth, r_make, r_pop, wFl_d, wNo_none, wMk_ok, oFs_o, okS_o, List.map_cons, List.map_nil, false_or, l_addI, l_addS, l_addL, l_addT, l_sub, l_div, l_mod, l_mulI, l_mulS, l_mulL, l_eqI, l_eqS, l_neI, l_neS, l_ltI, l_leI, l_gtI, l_geI, l_ltS, l_leS, l_gtS, l_geS, l_truI, l_truB, l_truL, l_truT, l_truN, l_truS, l_lenS, l_lenL, l_lenT, l_intI, l_absI, l_tupL, l_tupT, l_itL, l_itT, l_itS, l_rg1, l_rg2, l_ixL, l_ixT, l_ixS, at_0, at_1, at_2, at_3, set_0, set_1, set_2, set_3, List.length_cons, List.length_nil, Int.cast_ofNat_Int, Int.natCast_one, tgD_n, tgD_t, tgA_nil, tgA_cons, Option.bind_some, l_isSS, l_isST, l_isSL, l_isSI, l_isTT, l_isTS, l_isTL, l_isTI, l_isII, l_isBI, l_isLL, l_ord]; try rfl
      · simp only [r_lft, r_var, r_own, r_c, r_bin, r_binO, r_cmp, r_tcmp, r_tcmpO, r_tru, r_tand, r_tor, r_tnot, r_eif, r_nif, r_and, r_or, r_not, r_neg, r_cb, r_ncb, r_bm, r_bm0, r_tup, r_lst, r_anil, r_acons, r_aone, r_vnil, r_vcons, r_vslot, r_sl, r_onone, r_osome, r_chain, r_tchain, r_isi, r_iany, r_rg1, r_rg2, r_yes, r_frz, r_call, r_F, r_sif, r_snil, r_pass, r_break, r_cont, r_no, r_ret, r_retN, r_retNone, r_drop, r_dropN, r_asg, r_asgN, r_aug, r_stup, r_app, r_ext, r_setix, r_for, r_retOwn, wE_nComp, wE_ok, wS_nx, wS_rt, wS_bk, wS_ct, wS_seq, wV_d, wV_l, wO_d, wO_l, wL_some, wL_ite, wL_map, cB_true, cB_false, cB_not, wZ_d, wZ_l, wTk_some, wT_some, wipeE, tk_nil, tk_v, tk_s, putA, mask, d1, d2, tyD, okS_d, okS_l, lOf, asI, Option.isSome_some, Option.getD_some, Option.map_some, List.getElem?_cons_zero, List.getElem?_cons_succ, List.set_cons_zero, List.set_cons_succ, List.replicate_succ, List.replicate_zero, List.cons_append, List.nil_append, List.not_mem_nil, List.mem_cons, or_false, not_false_eq_true, true_and, decide_true, if_true, if_false, Bool.false_eq_true, reduceIte, Nat.reduceEqDiff, Nat.reduceAdd, Nat.reduceSub, Nat.reduceLeDiff, Nat.reduceLT, Int.reduceLT, Int.reduceLE, Int.reduceAdd, Int.reduceSub, Int.reduceEq, Int.reduceNeg, Nat.reduceMul, decide_false, Bool.not_true, Bool.not_false, and_true, true_or, or_true, Int.reduceMul, Int.reduceToNat, Nat.reducePow, Int.reducePow, Nat.not_lt_zero, r_par2, r_par3, wP2_c, wP3_c, r_fld, r_fldP, r_fldA, r_meth, r_make, r_pop, wFl_d, wNo_none, wMk_ok, oFs_o, okS_o, List.map_cons, List.map_nil, false_or, l_addI, l_addS, l_addL, l_addT, l_sub, l_div, l_mod, l_mulI, l_mulS, l_mulL, l_eqI, l_eqS, l_neI, l_neS, l_ltI, l_leI, l_gtI, l_geI, l_ltS, l_leS, l_gtS, l_geS, l_truI, l_truB, l_truL, l_truT, l_truN, l_truS, l_lenS, l_lenL, l_lenT, l_intI, l_absI, l_tupL, l_tupT, l_itL, l_itT, l_itS, l_rg1, l_rg2, l_ixL, l_ixT, l_ixS, at_0, at_1, at_2, at_3, set_0, set_1, set_2, set_3, List.length_cons, List.length_nil, Int.cast_ofNat_Int, Int.natCast_one, tgD_n, tgD_t, tgA_nil, tgA_cons, Option.bind_some, l_isSS, l_isST, l_isSL, l_isSI, l_isTT, l_isTS, l_isTL, l_isTI, l_isII, l_isBI, l_isLL, l_ord]
        cases hy <;> cases hz <;> simp [isDt, a2]
    · simp only [r_lft, r_var, r_own, r_c, r_bin, r_binO, r_cmp, r_tcmp, r_tcmpO, r_tru, r_tand, r_tor, r_tnot, r_eif, r_nif, r_and, r_or, r_not, r_neg, r_cb, r_ncb, r_bm, r_bm0, r_tup, r_lst, r_anil, r_acons, r_aone, r_vnil, r_vcons, r_vslot, r_sl, r_onone, r_osome, r_chain, r_tchain, r_isi, r_iany, r_rg1, r_rg2, r_yes, r_frz, r_call, r_F, r_sif, r_snil, r_pass, r_break, r_cont, r_no, r_ret, r_retN, r_retNone, r_drop, r_dropN, r_asg, r_asgN, r_aug, r_stup, r_app, r_ext, r_setix, r_for, r_retOwn, wE_nComp, wE_ok, wS_nx, wS_rt, wS_bk, wS_ct, wS_seq, wV_d, wV_l, wO_d, wO_l, wL_some, wL_ite, wL_map, cB_true, cB_false, cB_not, wZ_d, wZ_l, wTk_some, wT_some, wipeE, tk_nil, tk_v, tk_s, putA, mask, d1, d2, tyD, okS_d, okS_l, lOf, asI, Option.isSome_some, Option.getD_some, Option.map_some, List.getElem?_cons_zero, List.getElem?_cons_succ, List.set_cons_zero, List.set_cons_succ, List.replicate_succ, List.replicate_zero, List.cons_append, List.nil_append, List.not_mem_nil, List.mem_cons, or_false, not_false_eq_true, true_and, decide_true, if_true, if_false, Bool.false_eq_true, reduceIte, Nat.reduceEqDiff, Nat.reduceAdd, Nat.reduceSub, Nat.reduceLeDiff, Nat.reduceLT, Int.reduceLT, Int.reduceLE, Int.reduceAdd, Int.reduceSub, Int.reduceEq, Int.reduceNeg, Nat.reduceMul, decide_false, Bool.not_true, Bool.not_false, and_true, true_or, or_true, Int.reduceMul, Int.reduceToNat, Nat.reducePow, Int.reducePow, Nat.not_lt_zero, r_par2, r_par3, wP2_c, wP3_c, r_fld, r_fldP, r_fldA, r_meth, r_make, r_pop, wFl_d, wNo_none, wMk_ok, oFs_o, okS_o, List.map_cons, List.map_nil, false_or, l_addI, l_addS, l_addL, l_addT, l_sub, l_div, l_mod, l_mulI, l_mulS, l_mulL, l_eqI, l_eqS, l_neI, l_neS, l_ltI, l_leI, l_gtI, l_geI, l_ltS, l_leS, l_gtS, l_geS, l_truI, l_truB, l_truL, l_truT, l_truN, l_truS, l_lenS, l_lenL, l_lenT, l_intI, l_absI, l_tupL, l_tupT, l_itL, l_itT, l_itS, l_rg1, l_rg2, l_ixL, l_ixT, l_ixS, at_0, at_1, at_2, at_3, set_0, set_1, set_2, set_3, List.length_cons, List.length_nil, Int.cast_ofNat_Int, Int.natCast_one, tgD_n, tgD_t, tgA_nil, tgA_cons, Option.bind_some, l_isSS, l_isST, l_isSL, l_isSI, l_isTT, l_isTS, l_isTL, l_isTI, l_isII, l_isBI, l_isLL, l_ord]
      cases hy <;> cases hz <;> simp [isDt, a1]
  | _ => simp only [isInt, r_lft, r_var, r_own, r_c, r_bin, r_binO, r_cmp, r_tcmp, r_tcmpO, r_tru, r_tand, r_tor, r_tnot, r_eif, r_nif, r_and, r_or, r_not, r_neg, r_cb, r_ncb, r_bm, r_bm0, r_tup, r_lst, r_anil, r_acons, r_aone, r_vnil, r_vcons, r_vslot, r_sl, r_onone, r_osome, r_chain, r_tchain, r_isi, r_iany, r_rg1, r_rg2, r_yes, r_frz, r_call, r_F, r_sif, r_snil, r_pass, r_break, r_cont, r_no, r_ret, r_retN, r_retNone, r_drop, r_dropN, r_asg, r_asgN, r_aug, r_stup, r_app, r_ext, r_setix, r_for, r_retOwn, wE_nComp, wE_ok, wS_nx, wS_rt, wS_bk, wS_ct, wS_seq, wV_d, wV_l, wO_d, wO_l, wL_some, wL_ite, wL_map, cB_true, cB_false, cB_not, wZ_d, wZ_l, wTk_some, wT_some, wipeE, tk_nil, tk_v, tk_s, putA, mask, d1, d2, tyD, okS_d, okS_l, lOf, asI, Option.isSome_some, Option.getD_some, Option.map_some, List.getElem?_cons_zero, List.getElem?_cons_succ, List.set_cons_zero, List.set_cons_succ, List.replicate_succ, List.replicate_zero, List.cons_append, List.nil_append, List.not_mem_nil, List.mem_cons, or_false, not_false_eq_true, true_and, decide_true, if_true, if_false, Bool.false_eq_true, reduceIte, Nat.reduceEqDiff, Nat.reduceAdd, Nat.reduceSub, Nat.reduceLeDiff, Nat.reduceLT, Int.reduceLT, Int.reduceLE, Int.reduceAdd, Int.reduceSub, Int.reduceEq, Int.reduceNeg, Nat.reduceMul, decide_false, Bool.not_true, Bool.not_false, and_true, true_or, or_true, Int.reduceMul, Int.reduceToNat, Nat.reducePow, Int.reducePow, Nat.not_lt_zero, r_par2, r_par3, wP2_c, wP3_c, r_fld, r_fldP, r_fldA, r_meth, r_make, r_pop, wFl_d, wNo_none, wMk_ok, oFs_o, okS_o, List.map_cons, List.map_nil, false_or, l_addI, l_addS, l_addL, l_addT, l_sub, l_div, l_mod, l_mulI, l_mulS, l_mulL, l_eqI, l_eqS, l_neI, l_neS, l_ltI, l_leI, l_gtI, l_geI, l_ltS, l_leS, l_gtS, l_geS, l_truI, l_truB, l_truL, l_truT, l_truN, l_truS, l_lenS, l_lenL, l_lenT, l_intI, l_absI, l_tupL, l_tupT, l_itL, l_itT, l_itS, l_rg1, l_rg2, l_ixL, l_ixT, l_ixS, at_0, at_1, at_2, at_3, set_0, set_1, set_2, set_3, List.length_cons, List.length_nil, Int.cast_ofNat_Int, Int.natCast_one, tgD_n, tgD_t, tgA_nil, tgA_cons, Option.bind_some, l_isSS, l_isST, l_isSL, l_isSI, l_isTT, l_isTS, l_isTL, l_isTI, l_isII, l_isBI, l_isLL, l_ord]; try rfl
end K40

/-! law_k40_dates: the plain law: days of the week, months. -/
namespace K40
open PySem PySem.Spec PyProof.Rows L2 BV
theorem l_min2 {a b : Int} : dMinL (.list [.int a, .int b]) = some (.int (min a b)) := by
  simp [dMinL, asInts, lstMin]
  first | done | (split <;> omega) | trace_state
theorem leT3 {y m a b : Int} : leT [y, m, a] [y, m, b] = decide (a ≤ b) := by
  by_cases h : a = b
  · simp [leT, Ob.lexAt, h]
  · simp [leT, Ob.lexAt, h]
theorem l_leT {y m a b : Int} : dLeT (.tuple [.int y, .int m, .int a]) (.tuple [.int y, .int m, .int b]) = some (decide (a ≤ b)) := by
  rw [← leT3 (y := y) (m := m)]
  rfl
theorem l_min3 {a b : Int} : dMin2 (.int a) (.int b) = some (.int (min a b)) := by
  show some (PyData.int (if b < a then b else a)) = _
  refine congrArg (fun z => some (PyData.int z)) ?_
  split <;> omega
/-! ### days of the week -/
theorem wk_at {w : Int} (h0 : 0 ≤ w) (h1 : w < 7) : ∃ s : Str, s.length = 3 ∧
    atI [PyData.str (Str.ofString "Mon"), PyData.str (Str.ofString "Tue"), PyData.str (Str.ofString "Wed"), PyData.str (Str.ofString "Thu"), PyData.str (Str.ofString "Fri"), PyData.str (Str.ofString "Sat"), PyData.str (Str.ofString "Sun")] w = some (.str s) ∧
    dNinB (.str s) (.tuple [PyData.str (Str.ofString "Mon"), PyData.str (Str.ofString "Tue"), PyData.str (Str.ofString "Wed"), PyData.str (Str.ofString "Thu"), PyData.str (Str.ofString "Fri"), PyData.str (Str.ofString "Sat"), PyData.str (Str.ofString "Sun")]) = some false ∧
    dTIndex (.tuple [PyData.str (Str.ofString "Mon"), PyData.str (Str.ofString "Tue"), PyData.str (Str.ofString "Wed"), PyData.str (Str.ofString "Thu"), PyData.str (Str.ofString "Fri"), PyData.str (Str.ofString "Sat"), PyData.str (Str.ofString "Sun")]) [.str s] = some (.int w) := by
  have : w = 0 ∨ w = 1 ∨ w = 2 ∨ w = 3 ∨ w = 4 ∨ w = 5 ∨ w = 6 := by omega
  rcases this with rfl | rfl | rfl | rfl | rfl | rfl | rfl
  · exact ⟨Str.ofString "Mon", rfl, by first | exact at_0 | exact at_1 | exact at_2 | exact at_3 | kernel_rfl, by kernel_rfl, by kernel_rfl⟩
  · exact ⟨Str.ofString "Tue", rfl, by first | exact at_0 | exact at_1 | exact at_2 | exact at_3 | kernel_rfl, by kernel_rfl, by kernel_rfl⟩
  · exact ⟨Str.ofString "Wed", rfl, by first | exact at_0 | exact at_1 | exact at_2 | exact at_3 | kernel_rfl, by kernel_rfl, by kernel_rfl⟩
  · exact ⟨Str.ofString "Thu", rfl, by first | exact at_0 | exact at_1 | exact at_2 | exact at_3 | kernel_rfl, by kernel_rfl, by kernel_rfl⟩
  · exact ⟨Str.ofString "Fri", rfl, by first | exact at_0 | exact at_1 | exact at_2 | exact at_3 | kernel_rfl, by kernel_rfl, by kernel_rfl⟩
  · exact ⟨Str.ofString "Sat", rfl, by first | exact at_0 | exact at_1 | exact at_2 | exact at_3 | kernel_rfl, by kernel_rfl, by kernel_rfl⟩
  · exact ⟨Str.ofString "Sun", rfl, by first | exact at_0 | exact at_1 | exact at_2 | exact at_3 | kernel_rfl, by kernel_rfl, by kernel_rfl⟩
theorem nextwd {n w : Int} (h1 : -719162 ≤ n) (h2 : n < 2932897) (w0 : 0 ≤ w) (w1 : w < 7) (hf : n + (w - n - 3) % 7 < 2932897) {s : Str} (hs : atI [PyData.str (Str.ofString "Mon"), PyData.str (Str.ofString "Tue"), PyData.str (Str.ofString "Wed"), PyData.str (Str.ofString "Thu"), PyData.str (Str.ofString "Fri"), PyData.str (Str.ofString "Sat"), PyData.str (Str.ofString "Sun")] w = some (.str s)) :
    m_next_weekday [.d (.int n), .d (.str s)] = .ok (.d (.int (n + (w - n - 3) % 7))) [.un, .un] := by
  obtain ⟨s', e0, e1, e2, e3⟩ := wk_at w0 w1
  rw [hs] at e1
  cases e1
  refine eqF (wF_run rfl ?_)
  simp only [b_next_weekday, r_lft, r_var, r_own, r_c, r_bin, r_binO, r_cmp, r_tcmp, r_tcmpO, r_tru, r_tand, r_tor, r_tnot, r_eif, r_nif, r_and, r_or, r_not, r_neg, r_cb, r_ncb, r_bm, r_bm0, r_tup, r_lst, r_anil, r_acons, r_aone, r_vnil, r_vcons, r_vslot, r_sl, r_onone, r_osome, r_chain, r_tchain, r_isi, r_iany, r_rg1, r_rg2, r_yes, r_frz, r_call, r_F, r_sif, r_snil, r_pass, r_break, r_cont, r_no, r_ret, r_retN, r_retNone, r_drop, r_dropN, r_asg, r_asgN, r_aug, r_stup, r_app, r_ext, r_setix, r_for, r_retOwn, wE_nComp, wE_ok, wS_nx, wS_rt, wS_bk, wS_ct, wS_seq, wV_d, wV_l, wO_d, wO_l, wL_some, wL_ite, wL_map, cB_true, cB_false, cB_not, wZ_d, wZ_l, wTk_some, wT_some, wipeE, tk_nil, tk_v, tk_s, putA, mask, d1, d2, tyD, okS_d, okS_l, lOf, asI, Option.isSome_some, Option.getD_some, Option.map_some, List.getElem?_cons_zero, List.getElem?_cons_succ, List.set_cons_zero, List.set_cons_succ, List.replicate_succ, List.replicate_zero, List.cons_append, List.nil_append, List.not_mem_nil, List.mem_cons, or_false, not_false_eq_true, true_and, decide_true, if_true, if_false, Bool.false_eq_true, reduceIte, Nat.reduceEqDiff, Nat.reduceAdd, Nat.reduceSub, Nat.reduceLeDiff, Nat.reduceLT, Int.reduceLT, Int.reduceLE, Int.reduceAdd, Int.reduceSub, Int.reduceEq, Int.reduceNeg, Nat.reduceMul, decide_false, Bool.not_true, Bool.not_false, and_true, true_or, or_true, Int.reduceMul, Int.reduceToNat, Nat.reducePow, Int.reducePow, Nat.not_lt_zero, r_tix, r_gl, r_tixS, glOf, r_par2, r_par3, wP2_c, wP3_c, r_fld, r_fldP, r_fldA, r_meth, r_make, r_pop, wFl_d, wNo_none, wMk_ok, oFs_o, okS_o, List.map_cons, List.map_nil, false_or, l_addI, l_addS, l_addL, l_addT, l_sub, l_div, l_mod, l_mulI, l_mulS, l_mulL, l_eqI, l_eqS, l_neI, l_neS, l_ltI, l_leI, l_gtI, l_geI, l_ltS, l_leS, l_gtS, l_geS, l_truI, l_truB, l_truL, l_truT, l_truN, l_truS, l_lenS, l_lenL, l_lenT, l_intI, l_absI, l_tupL, l_tupT, l_itL, l_itT, l_itS, l_rg1, l_rg2, l_ixL, l_ixT, l_ixS, at_0, at_1, at_2, at_3, set_0, set_1, set_2, set_3, List.length_cons, List.length_nil, Int.cast_ofNat_Int, Int.natCast_one, tgD_n, tgD_t, tgA_nil, tgA_cons, Option.bind_some, l_isSS, l_isST, l_isSL, l_isSI, l_isTT, l_isTS, l_isTL, l_isTI, l_isII, l_isBI, l_isLL, l_ord, checkdays h1 h2, e2, e3]
  simp only [r_lft, r_var, r_own, r_c, r_bin, r_binO, r_cmp, r_tcmp, r_tcmpO, r_tru, r_tand, r_tor, r_tnot, r_eif, r_nif, r_and, r_or, r_not, r_neg, r_cb, r_ncb, r_bm, r_bm0, r_tup, r_lst, r_anil, r_acons, r_aone, r_vnil, r_vcons, r_vslot, r_sl, r_onone, r_osome, r_chain, r_tchain, r_isi, r_iany, r_rg1, r_rg2, r_yes, r_frz, r_call, r_F, r_sif, r_snil, r_pass, r_break, r_cont, r_no, r_ret, r_retN, r_retNone, r_drop, r_dropN, r_asg, r_asgN, r_aug, r_stup, r_app, r_ext, r_setix, r_for, r_retOwn, wE_nComp, wE_ok, wS_nx, wS_rt, wS_bk, wS_ct, wS_seq, wV_d, wV_l, wO_d, wO_l, wL_some, wL_ite, wL_map, cB_true, cB_false, cB_not, wZ_d, wZ_l, wTk_some, wT_some, wipeE, tk_nil, tk_v, tk_s, putA, mask, d1, d2, tyD, okS_d, okS_l, lOf, asI, Option.isSome_some, Option.getD_some, Option.map_some, List.getElem?_cons_zero, List.getElem?_cons_succ, List.set_cons_zero, List.set_cons_succ, List.replicate_succ, List.replicate_zero, List.cons_append, List.nil_append, List.not_mem_nil, List.mem_cons, or_false, not_false_eq_true, true_and, decide_true, if_true, if_false, Bool.false_eq_true, reduceIte, Nat.reduceEqDiff, Nat.reduceAdd, Nat.reduceSub, Nat.reduceLeDiff, Nat.reduceLT, Int.reduceLT, Int.reduceLE, Int.reduceAdd, Int.reduceSub, Int.reduceEq, Int.reduceNeg, Nat.reduceMul, decide_false, Bool.not_true, Bool.not_false, and_true, true_or, or_true, Int.reduceMul, Int.reduceToNat, Nat.reducePow, Int.reducePow, Nat.not_lt_zero, r_tix, r_gl, r_tixS, glOf, r_par2, r_par3, wP2_c, wP3_c, r_fld, r_fldP, r_fldA, r_meth, r_make, r_pop, wFl_d, wNo_none, wMk_ok, oFs_o, okS_o, List.map_cons, List.map_nil, false_or, l_addI, l_addS, l_addL, l_addT, l_sub, l_div, l_mod, l_mulI, l_mulS, l_mulL, l_eqI, l_eqS, l_neI, l_neS, l_ltI, l_leI, l_gtI, l_geI, l_ltS, l_leS, l_gtS, l_geS, l_truI, l_truB, l_truL, l_truT, l_truN, l_truS, l_lenS, l_lenL, l_lenT, l_intI, l_absI, l_tupL, l_tupT, l_itL, l_itT, l_itS, l_rg1, l_rg2, l_ixL, l_ixT, l_ixS, at_0, at_1, at_2, at_3, set_0, set_1, set_2, set_3, List.length_cons, List.length_nil, Int.cast_ofNat_Int, Int.natCast_one, tgD_n, tgD_t, tgA_nil, tgA_cons, Option.bind_some, l_isSS, l_isST, l_isSL, l_isSI, l_isTT, l_isTS, l_isTL, l_isTI, l_isII, l_isBI, l_isLL, l_ord, checkdays (show -719162 ≤ n + (w - n - 3) % 7 by omega) hf]
/-! ### months -/
def pl (y m k : Int) : Int := 12 * y + m - 1 + k
theorem lawmoved (y m d k : Int) : m__law_moved [.d (.tuple [.int y, .int m, .int d]), .d (.int k)] =
    .ok (.d (if 1 ≤ pl y m k / 12 ∧ pl y m k / 12 ≤ 9999 then .tuple [.int (pl y m k / 12), .int (pl y m k % 12 + 1), .int (min d (len (pl y m k / 12) (pl y m k % 12 + 1)))] else .none)) [.un, .un] := by
  refine eqF (wF_run rfl ?_)
  simp only [b__law_moved, r_lft, r_var, r_own, r_c, r_bin, r_binO, r_cmp, r_tcmp, r_tcmpO, r_tru, r_tand, r_tor, r_tnot, r_eif, r_nif, r_and, r_or, r_not, r_neg, r_cb, r_ncb, r_bm, r_bm0, r_tup, r_lst, r_anil, r_acons, r_aone, r_vnil, r_vcons, r_vslot, r_sl, r_onone, r_osome, r_chain, r_tchain, r_isi, r_iany, r_rg1, r_rg2, r_yes, r_frz, r_call, r_F, r_sif, r_snil, r_pass, r_break, r_cont, r_no, r_ret, r_retN, r_retNone, r_drop, r_dropN, r_asg, r_asgN, r_aug, r_stup, r_app, r_ext, r_setix, r_for, r_retOwn, wE_nComp, wE_ok, wS_nx, wS_rt, wS_bk, wS_ct, wS_seq, wV_d, wV_l, wO_d, wO_l, wL_some, wL_ite, wL_map, cB_true, cB_false, cB_not, wZ_d, wZ_l, wTk_some, wT_some, wipeE, tk_nil, tk_v, tk_s, putA, mask, d1, d2, tyD, okS_d, okS_l, lOf, asI, Option.isSome_some, Option.getD_some, Option.map_some, List.getElem?_cons_zero, List.getElem?_cons_succ, List.set_cons_zero, List.set_cons_succ, List.replicate_succ, List.replicate_zero, List.cons_append, List.nil_append, List.not_mem_nil, List.mem_cons, or_false, not_false_eq_true, true_and, decide_true, if_true, if_false, Bool.false_eq_true, reduceIte, Nat.reduceEqDiff, Nat.reduceAdd, Nat.reduceSub, Nat.reduceLeDiff, Nat.reduceLT, Int.reduceLT, Int.reduceLE, Int.reduceAdd, Int.reduceSub, Int.reduceEq, Int.reduceNeg, Nat.reduceMul, decide_false, Bool.not_true, Bool.not_false, and_true, true_or, or_true, Int.reduceMul, Int.reduceToNat, Nat.reducePow, Int.reducePow, Nat.not_lt_zero, r_tix, r_gl, r_tixS, glOf, r_par2, r_par3, wP2_c, wP3_c, r_fld, r_fldP, r_fldA, r_meth, r_make, r_pop, wFl_d, wNo_none, wMk_ok, oFs_o, okS_o, List.map_cons, List.map_nil, false_or, l_addI, l_addS, l_addL, l_addT, l_sub, l_div, l_mod, l_mulI, l_mulS, l_mulL, l_eqI, l_eqS, l_neI, l_neS, l_ltI, l_leI, l_gtI, l_geI, l_ltS, l_leS, l_gtS, l_geS, l_truI, l_truB, l_truL, l_truT, l_truN, l_truS, l_lenS, l_lenL, l_lenT, l_intI, l_absI, l_tupL, l_tupT, l_itL, l_itT, l_itS, l_rg1, l_rg2, l_ixL, l_ixT, l_ixS, at_0, at_1, at_2, at_3, set_0, set_1, set_2, set_3, List.length_cons, List.length_nil, Int.cast_ofNat_Int, Int.natCast_one, tgD_n, tgD_t, tgA_nil, tgA_cons, Option.bind_some, l_isSS, l_isST, l_isSL, l_isSI, l_isTT, l_isTS, l_isTL, l_isTI, l_isII, l_isBI, l_isLL, l_ord, lawlen, l_min2]
  have e0 : pl y m k = 12 * y + m - 1 + k := rfl
  refine cB_dec (fun a1 => ?_) fun a1 => ?_
  · refine cB_dec (fun a2 => ?_) fun a2 => ?_
    · simp only [r_lft, r_var, r_own, r_c, r_bin, r_binO, r_cmp, r_tcmp, r_tcmpO, r_tru, r_tand, r_tor, r_tnot, r_eif, r_nif, r_and, r_or, r_not, r_neg, r_cb, r_ncb, r_bm, r_bm0, r_tup, r_lst, r_anil, r_acons, r_aone, r_vnil, r_vcons, r_vslot, r_sl, r_onone, r_osome, r_chain, r_tchain, r_isi, r_iany, r_rg1, r_rg2, r_yes, r_frz, r_call, r_F, r_sif, r_snil, r_pass, r_break, r_cont, r_no, r_ret, r_retN, r_retNone, r_drop, r_dropN, r_asg, r_asgN, r_aug, r_stup, r_app, r_ext, r_setix, r_for, r_retOwn, wE_nComp, wE_ok, wS_nx, wS_rt, wS_bk, wS_ct, wS_seq, wV_d, wV_l, wO_d, wO_l, wL_some, wL_ite, wL_map, cB_true, cB_false, cB_not, wZ_d, wZ_l, wTk_some, wT_some, wipeE, tk_nil, tk_v, tk_s, putA, mask, d1, d2, tyD, okS_d, okS_l, lOf, asI, Option.isSome_some, Option.getD_some, Option.map_some, List.getElem?_cons_zero, List.getElem?_cons_succ, List.set_cons_zero, List.set_cons_succ, List.replicate_succ, List.replicate_zero, List.cons_append, List.nil_append, List.not_mem_nil, List.mem_cons, or_false, not_false_eq_true, true_and, decide_true, if_true, if_false, Bool.false_eq_true, reduceIte, Nat.reduceEqDiff, Nat.reduceAdd, Nat.reduceSub, Nat.reduceLeDiff, Nat.reduceLT, Int.reduceLT, Int.reduceLE, Int.reduceAdd, Int.reduceSub, Int.reduceEq, Int.reduceNeg, Nat.reduceMul, decide_false, Bool.not_true, Bool.not_false, and_true, true_or, or_true, Int.reduceMul, Int.reduceToNat, Nat.reducePow, Int.reducePow, Nat.not_lt_zero, r_tix, r_gl, r_tixS, glOf, r_par2, r_par3, wP2_c, wP3_c, r_fld, r_fldP, r_fldA, r_meth, r_make, r_pop, wFl_d, wNo_none, wMk_ok, oFs_o, okS_o, List.map_cons, List.map_nil, false_or, l_addI, l_addS, l_addL, l_addT, l_sub, l_div, l_mod, l_mulI, l_mulS, l_mulL, l_eqI, l_eqS, l_neI, l_neS, l_ltI, l_leI, l_gtI, l_geI, l_ltS, l_leS, l_gtS, l_geS, l_truI, l_truB, l_truL, l_truT, l_truN, l_truS, l_lenS, l_lenL, l_lenT, l_intI, l_absI, l_tupL, l_tupT, l_itL, l_itT, l_itS, l_rg1, l_rg2, l_ixL, l_ixT, l_ixS, at_0, at_1, at_2, at_3, set_0, set_1, set_2, set_3, List.length_cons, List.length_nil, Int.cast_ofNat_Int, Int.natCast_one, tgD_n, tgD_t, tgA_nil, tgA_cons, Option.bind_some, l_isSS, l_isST, l_isSL, l_isSI, l_isTT, l_isTS, l_isTL, l_isTI, l_isII, l_isBI, l_isLL, l_ord, lawlen, l_min2]
      rw [e0, if_pos ⟨a1, a2⟩]
    · simp only [r_lft, r_var, r_own, r_c, r_bin, r_binO, r_cmp, r_tcmp, r_tcmpO, r_tru, r_tand, r_tor, r_tnot, r_eif, r_nif, r_and, r_or, r_not, r_neg, r_cb, r_ncb, r_bm, r_bm0, r_tup, r_lst, r_anil, r_acons, r_aone, r_vnil, r_vcons, r_vslot, r_sl, r_onone, r_osome, r_chain, r_tchain, r_isi, r_iany, r_rg1, r_rg2, r_yes, r_frz, r_call, r_F, r_sif, r_snil, r_pass, r_break, r_cont, r_no, r_ret, r_retN, r_retNone, r_drop, r_dropN, r_asg, r_asgN, r_aug, r_stup, r_app, r_ext, r_setix, r_for, r_retOwn, wE_nComp, wE_ok, wS_nx, wS_rt, wS_bk, wS_ct, wS_seq, wV_d, wV_l, wO_d, wO_l, wL_some, wL_ite, wL_map, cB_true, cB_false, cB_not, wZ_d, wZ_l, wTk_some, wT_some, wipeE, tk_nil, tk_v, tk_s, putA, mask, d1, d2, tyD, okS_d, okS_l, lOf, asI, Option.isSome_some, Option.getD_some, Option.map_some, List.getElem?_cons_zero, List.getElem?_cons_succ, List.set_cons_zero, List.set_cons_succ, List.replicate_succ, List.replicate_zero, List.cons_append, List.nil_append, List.not_mem_nil, List.mem_cons, or_false, not_false_eq_true, true_and, decide_true, if_true, if_false, Bool.false_eq_true, reduceIte, Nat.reduceEqDiff, Nat.reduceAdd, Nat.reduceSub, Nat.reduceLeDiff, Nat.reduceLT, Int.reduceLT, Int.reduceLE, Int.reduceAdd, Int.reduceSub, Int.reduceEq, Int.reduceNeg, Nat.reduceMul, decide_false, Bool.not_true, Bool.not_false, and_true, true_or, or_true, Int.reduceMul, Int.reduceToNat, Nat.reducePow, Int.reducePow, Nat.not_lt_zero, r_tix, r_gl, r_tixS, glOf, r_par2, r_par3, wP2_c, wP3_c, r_fld, r_fldP, r_fldA, r_meth, r_make, r_pop, wFl_d, wNo_none, wMk_ok, oFs_o, okS_o, List.map_cons, List.map_nil, false_or, l_addI, l_addS, l_addL, l_addT, l_sub, l_div, l_mod, l_mulI, l_mulS, l_mulL, l_eqI, l_eqS, l_neI, l_neS, l_ltI, l_leI, l_gtI, l_geI, l_ltS, l_leS, l_gtS, l_geS, l_truI, l_truB, l_truL, l_truT, l_truN, l_truS, l_lenS, l_lenL, l_lenT, l_intI, l_absI, l_tupL, l_tupT, l_itL, l_itT, l_itS, l_rg1, l_rg2, l_ixL, l_ixT, l_ixS, at_0, at_1, at_2, at_3, set_0, set_1, set_2, set_3, List.length_cons, List.length_nil, Int.cast_ofNat_Int, Int.natCast_one, tgD_n, tgD_t, tgA_nil, tgA_cons, Option.bind_some, l_isSS, l_isST, l_isSL, l_isSI, l_isTT, l_isTS, l_isTL, l_isTI, l_isII, l_isBI, l_isLL, l_ord]
      rw [e0, if_neg fun z => a2 z.2]
  · simp only [r_lft, r_var, r_own, r_c, r_bin, r_binO, r_cmp, r_tcmp, r_tcmpO, r_tru, r_tand, r_tor, r_tnot, r_eif, r_nif, r_and, r_or, r_not, r_neg, r_cb, r_ncb, r_bm, r_bm0, r_tup, r_lst, r_anil, r_acons, r_aone, r_vnil, r_vcons, r_vslot, r_sl, r_onone, r_osome, r_chain, r_tchain, r_isi, r_iany, r_rg1, r_rg2, r_yes, r_frz, r_call, r_F, r_sif, r_snil, r_pass, r_break, r_cont, r_no, r_ret, r_retN, r_retNone, r_drop, r_dropN, r_asg, r_asgN, r_aug, r_stup, r_app, r_ext, r_setix, r_for, r_retOwn, wE_nComp, wE_ok, wS_nx, wS_rt, wS_bk, wS_ct, wS_seq, wV_d, wV_l, wO_d, wO_l, wL_some, wL_ite, wL_map, cB_true, cB_false, cB_not, wZ_d, wZ_l, wTk_some, wT_some, wipeE, tk_nil, tk_v, tk_s, putA, mask, d1, d2, tyD, okS_d, okS_l, lOf, asI, Option.isSome_some, Option.getD_some, Option.map_some, List.getElem?_cons_zero, List.getElem?_cons_succ, List.set_cons_zero, List.set_cons_succ, List.replicate_succ, List.replicate_zero, List.cons_append, List.nil_append, List.not_mem_nil, List.mem_cons, or_false, not_false_eq_true, true_and, decide_true, if_true, if_false, Bool.false_eq_true, reduceIte, Nat.reduceEqDiff, Nat.reduceAdd, Nat.reduceSub, Nat.reduceLeDiff, Nat.reduceLT, Int.reduceLT, Int.reduceLE, Int.reduceAdd, Int.reduceSub, Int.reduceEq, Int.reduceNeg, Nat.reduceMul, decide_false, Bool.not_true, Bool.not_false, and_true, true_or, or_true, Int.reduceMul, Int.reduceToNat, Nat.reducePow, Int.reducePow, Nat.not_lt_zero, r_tix, r_gl, r_tixS, glOf, r_par2, r_par3, wP2_c, wP3_c, r_fld, r_fldP, r_fldA, r_meth, r_make, r_pop, wFl_d, wNo_none, wMk_ok, oFs_o, okS_o, List.map_cons, List.map_nil, false_or, l_addI, l_addS, l_addL, l_addT, l_sub, l_div, l_mod, l_mulI, l_mulS, l_mulL, l_eqI, l_eqS, l_neI, l_neS, l_ltI, l_leI, l_gtI, l_geI, l_ltS, l_leS, l_gtS, l_geS, l_truI, l_truB, l_truL, l_truT, l_truN, l_truS, l_lenS, l_lenL, l_lenT, l_intI, l_absI, l_tupL, l_tupT, l_itL, l_itT, l_itS, l_rg1, l_rg2, l_ixL, l_ixT, l_ixS, at_0, at_1, at_2, at_3, set_0, set_1, set_2, set_3, List.length_cons, List.length_nil, Int.cast_ofNat_Int, Int.natCast_one, tgD_n, tgD_t, tgA_nil, tgA_cons, Option.bind_some, l_isSS, l_isST, l_isSL, l_isSI, l_isTT, l_isTS, l_isTL, l_isTI, l_isII, l_isBI, l_isLL, l_ord]
    rw [e0, if_neg fun z => a1 z.1]
theorem addmonths {y m d k : Int} (h : Ok y m d) (k1 : -119988 ≤ k) (k2 : k ≤ 119988) (p1 : 12 ≤ pl y m k) (p2 : pl y m k < 120000) :
    m_add_months [.d (.int (num y m d)), .d (.int k)] = .ok (.d (.int (num (pl y m k / 12) (pl y m k % 12 + 1) (min d (len (pl y m k / 12) (pl y m k % 12 + 1)))))) [.un, .un] := by
  have e0 : pl y m k = 12 * y + m - 1 + k := rfl
  have a0 : decide ((119988 : Int) < if k < 0 then -k else k) = false := decide_eq_false (by split <;> omega)
  have a1 : decide ((12 : Int) ≤ 12 * y + m - 1 + k) = true := decide_eq_true (by omega)
  have a2 : decide (12 * y + m - 1 + k < (120000 : Int)) = true := decide_eq_true (by omega)
  refine eqF (wF_run rfl ?_)
  simp only [b_add_months, r_lft, r_var, r_own, r_c, r_bin, r_binO, r_cmp, r_tcmp, r_tcmpO, r_tru, r_tand, r_tor, r_tnot, r_eif, r_nif, r_and, r_or, r_not, r_neg, r_cb, r_ncb, r_bm, r_bm0, r_tup, r_lst, r_anil, r_acons, r_aone, r_vnil, r_vcons, r_vslot, r_sl, r_onone, r_osome, r_chain, r_tchain, r_isi, r_iany, r_rg1, r_rg2, r_yes, r_frz, r_call, r_F, r_sif, r_snil, r_pass, r_break, r_cont, r_no, r_ret, r_retN, r_retNone, r_drop, r_dropN, r_asg, r_asgN, r_aug, r_stup, r_app, r_ext, r_setix, r_for, r_retOwn, wE_nComp, wE_ok, wS_nx, wS_rt, wS_bk, wS_ct, wS_seq, wV_d, wV_l, wO_d, wO_l, wL_some, wL_ite, wL_map, cB_true, cB_false, cB_not, wZ_d, wZ_l, wTk_some, wT_some, wipeE, tk_nil, tk_v, tk_s, putA, mask, d1, d2, tyD, okS_d, okS_l, lOf, asI, Option.isSome_some, Option.getD_some, Option.map_some, List.getElem?_cons_zero, List.getElem?_cons_succ, List.set_cons_zero, List.set_cons_succ, List.replicate_succ, List.replicate_zero, List.cons_append, List.nil_append, List.not_mem_nil, List.mem_cons, or_false, not_false_eq_true, true_and, decide_true, if_true, if_false, Bool.false_eq_true, reduceIte, Nat.reduceEqDiff, Nat.reduceAdd, Nat.reduceSub, Nat.reduceLeDiff, Nat.reduceLT, Int.reduceLT, Int.reduceLE, Int.reduceAdd, Int.reduceSub, Int.reduceEq, Int.reduceNeg, Nat.reduceMul, decide_false, Bool.not_true, Bool.not_false, and_true, true_or, or_true, Int.reduceMul, Int.reduceToNat, Nat.reducePow, Int.reducePow, Nat.not_lt_zero, r_tix, r_gl, r_tixS, glOf, r_par2, r_par3, wP2_c, wP3_c, r_fld, r_fldP, r_fldA, r_meth, r_make, r_pop, wFl_d, wNo_none, wMk_ok, oFs_o, okS_o, List.map_cons, List.map_nil, false_or, l_addI, l_addS, l_addL, l_addT, l_sub, l_div, l_mod, l_mulI, l_mulS, l_mulL, l_eqI, l_eqS, l_neI, l_neS, l_ltI, l_leI, l_gtI, l_geI, l_ltS, l_leS, l_gtS, l_geS, l_truI, l_truB, l_truL, l_truT, l_truN, l_truS, l_lenS, l_lenL, l_lenT, l_intI, l_absI, l_tupL, l_tupT, l_itL, l_itT, l_itS, l_rg1, l_rg2, l_ixL, l_ixT, l_ixS, at_0, at_1, at_2, at_3, set_0, set_1, set_2, set_3, List.length_cons, List.length_nil, Int.cast_ofNat_Int, Int.natCast_one, tgD_n, tgD_t, tgA_nil, tgA_cons, Option.bind_some, l_isSS, l_isST, l_isSL, l_isSI, l_isTT, l_isTS, l_isTL, l_isTI, l_isII, l_isBI, l_isLL, l_ord, checkdays (num_lo h) (num_hi h), isint, datein h, a0]
  simp only [r_lft, r_var, r_own, r_c, r_bin, r_binO, r_cmp, r_tcmp, r_tcmpO, r_tru, r_tand, r_tor, r_tnot, r_eif, r_nif, r_and, r_or, r_not, r_neg, r_cb, r_ncb, r_bm, r_bm0, r_tup, r_lst, r_anil, r_acons, r_aone, r_vnil, r_vcons, r_vslot, r_sl, r_onone, r_osome, r_chain, r_tchain, r_isi, r_iany, r_rg1, r_rg2, r_yes, r_frz, r_call, r_F, r_sif, r_snil, r_pass, r_break, r_cont, r_no, r_ret, r_retN, r_retNone, r_drop, r_dropN, r_asg, r_asgN, r_aug, r_stup, r_app, r_ext, r_setix, r_for, r_retOwn, wE_nComp, wE_ok, wS_nx, wS_rt, wS_bk, wS_ct, wS_seq, wV_d, wV_l, wO_d, wO_l, wL_some, wL_ite, wL_map, cB_true, cB_false, cB_not, wZ_d, wZ_l, wTk_some, wT_some, wipeE, tk_nil, tk_v, tk_s, putA, mask, d1, d2, tyD, okS_d, okS_l, lOf, asI, Option.isSome_some, Option.getD_some, Option.map_some, List.getElem?_cons_zero, List.getElem?_cons_succ, List.set_cons_zero, List.set_cons_succ, List.replicate_succ, List.replicate_zero, List.cons_append, List.nil_append, List.not_mem_nil, List.mem_cons, or_false, not_false_eq_true, true_and, decide_true, if_true, if_false, Bool.false_eq_true, reduceIte, Nat.reduceEqDiff, Nat.reduceAdd, Nat.reduceSub, Nat.reduceLeDiff, Nat.reduceLT, Int.reduceLT, Int.reduceLE, Int.reduceAdd, Int.reduceSub, Int.reduceEq, Int.reduceNeg, Nat.reduceMul, decide_false, Bool.not_true, Bool.not_false, and_true, true_or, or_true, Int.reduceMul, Int.reduceToNat, Nat.reducePow, Int.reducePow, Nat.not_lt_zero, r_tix, r_gl, r_tixS, glOf, r_par2, r_par3, wP2_c, wP3_c, r_fld, r_fldP, r_fldA, r_meth, r_make, r_pop, wFl_d, wNo_none, wMk_ok, oFs_o, okS_o, List.map_cons, List.map_nil, false_or, l_addI, l_addS, l_addL, l_addT, l_sub, l_div, l_mod, l_mulI, l_mulS, l_mulL, l_eqI, l_eqS, l_neI, l_neS, l_ltI, l_leI, l_gtI, l_geI, l_ltS, l_leS, l_gtS, l_geS, l_truI, l_truB, l_truL, l_truT, l_truN, l_truS, l_lenS, l_lenL, l_lenT, l_intI, l_absI, l_tupL, l_tupT, l_itL, l_itT, l_itS, l_rg1, l_rg2, l_ixL, l_ixT, l_ixS, at_0, at_1, at_2, at_3, set_0, set_1, set_2, set_3, List.length_cons, List.length_nil, Int.cast_ofNat_Int, Int.natCast_one, tgD_n, tgD_t, tgA_nil, tgA_cons, Option.bind_some, l_isSS, l_isST, l_isSL, l_isSI, l_isTT, l_isTS, l_isTL, l_isTI, l_isII, l_isBI, l_isLL, l_ord, checkdays (num_lo h) (num_hi h), isint, datein h, a0, a1, a2]
  have hl := lengthof (y := (12 * y + m - 1 + k) / 12) (m := (12 * y + m - 1 + k) % 12 + 1) (by omega) (by omega)
  have hc := counts (y := (12 * y + m - 1 + k) / 12) (m := (12 * y + m - 1 + k) % 12 + 1) (d := min d (len ((12 * y + m - 1 + k) / 12) ((12 * y + m - 1 + k) % 12 + 1))) (by omega) (by omega)
  simp only [r_lft, r_var, r_own, r_c, r_bin, r_binO, r_cmp, r_tcmp, r_tcmpO, r_tru, r_tand, r_tor, r_tnot, r_eif, r_nif, r_and, r_or, r_not, r_neg, r_cb, r_ncb, r_bm, r_bm0, r_tup, r_lst, r_anil, r_acons, r_aone, r_vnil, r_vcons, r_vslot, r_sl, r_onone, r_osome, r_chain, r_tchain, r_isi, r_iany, r_rg1, r_rg2, r_yes, r_frz, r_call, r_F, r_sif, r_snil, r_pass, r_break, r_cont, r_no, r_ret, r_retN, r_retNone, r_drop, r_dropN, r_asg, r_asgN, r_aug, r_stup, r_app, r_ext, r_setix, r_for, r_retOwn, wE_nComp, wE_ok, wS_nx, wS_rt, wS_bk, wS_ct, wS_seq, wV_d, wV_l, wO_d, wO_l, wL_some, wL_ite, wL_map, cB_true, cB_false, cB_not, wZ_d, wZ_l, wTk_some, wT_some, wipeE, tk_nil, tk_v, tk_s, putA, mask, d1, d2, tyD, okS_d, okS_l, lOf, asI, Option.isSome_some, Option.getD_some, Option.map_some, List.getElem?_cons_zero, List.getElem?_cons_succ, List.set_cons_zero, List.set_cons_succ, List.replicate_succ, List.replicate_zero, List.cons_append, List.nil_append, List.not_mem_nil, List.mem_cons, or_false, not_false_eq_true, true_and, decide_true, if_true, if_false, Bool.false_eq_true, reduceIte, Nat.reduceEqDiff, Nat.reduceAdd, Nat.reduceSub, Nat.reduceLeDiff, Nat.reduceLT, Int.reduceLT, Int.reduceLE, Int.reduceAdd, Int.reduceSub, Int.reduceEq, Int.reduceNeg, Nat.reduceMul, decide_false, Bool.not_true, Bool.not_false, and_true, true_or, or_true, Int.reduceMul, Int.reduceToNat, Nat.reducePow, Int.reducePow, Nat.not_lt_zero, r_tix, r_gl, r_tixS, glOf, r_par2, r_par3, wP2_c, wP3_c, r_fld, r_fldP, r_fldA, r_meth, r_make, r_pop, wFl_d, wNo_none, wMk_ok, oFs_o, okS_o, List.map_cons, List.map_nil, false_or, l_addI, l_addS, l_addL, l_addT, l_sub, l_div, l_mod, l_mulI, l_mulS, l_mulL, l_eqI, l_eqS, l_neI, l_neS, l_ltI, l_leI, l_gtI, l_geI, l_ltS, l_leS, l_gtS, l_geS, l_truI, l_truB, l_truL, l_truT, l_truN, l_truS, l_lenS, l_lenL, l_lenT, l_intI, l_absI, l_tupL, l_tupT, l_itL, l_itT, l_itS, l_rg1, l_rg2, l_ixL, l_ixT, l_ixS, at_0, at_1, at_2, at_3, set_0, set_1, set_2, set_3, List.length_cons, List.length_nil, Int.cast_ofNat_Int, Int.natCast_one, tgD_n, tgD_t, tgA_nil, tgA_cons, Option.bind_some, l_isSS, l_isST, l_isSL, l_isSI, l_isTT, l_isTS, l_isTL, l_isTI, l_isII, l_isBI, l_isLL, l_ord, hl, hc, l_min3, e0]
theorem between {y m d y2 m2 dd : Int} (h : Ok y m d) (h2 : Ok y2 m2 dd) : m_months_between [.d (.int (num y m d)), .d (.int (num y2 m2 dd))] =
    .ok (.d (.int (12 * (y2 - y) + m2 - m - if dd < min d (len y2 m2) then 1 else 0))) [.un, .un] := by
  refine eqF (wF_run rfl ?_)
  simp only [b_months_between, r_lft, r_var, r_own, r_c, r_bin, r_binO, r_cmp, r_tcmp, r_tcmpO, r_tru, r_tand, r_tor, r_tnot, r_eif, r_nif, r_and, r_or, r_not, r_neg, r_cb, r_ncb, r_bm, r_bm0, r_tup, r_lst, r_anil, r_acons, r_aone, r_vnil, r_vcons, r_vslot, r_sl, r_onone, r_osome, r_chain, r_tchain, r_isi, r_iany, r_rg1, r_rg2, r_yes, r_frz, r_call, r_F, r_sif, r_snil, r_pass, r_break, r_cont, r_no, r_ret, r_retN, r_retNone, r_drop, r_dropN, r_asg, r_asgN, r_aug, r_stup, r_app, r_ext, r_setix, r_for, r_retOwn, wE_nComp, wE_ok, wS_nx, wS_rt, wS_bk, wS_ct, wS_seq, wV_d, wV_l, wO_d, wO_l, wL_some, wL_ite, wL_map, cB_true, cB_false, cB_not, wZ_d, wZ_l, wTk_some, wT_some, wipeE, tk_nil, tk_v, tk_s, putA, mask, d1, d2, tyD, okS_d, okS_l, lOf, asI, Option.isSome_some, Option.getD_some, Option.map_some, List.getElem?_cons_zero, List.getElem?_cons_succ, List.set_cons_zero, List.set_cons_succ, List.replicate_succ, List.replicate_zero, List.cons_append, List.nil_append, List.not_mem_nil, List.mem_cons, or_false, not_false_eq_true, true_and, decide_true, if_true, if_false, Bool.false_eq_true, reduceIte, Nat.reduceEqDiff, Nat.reduceAdd, Nat.reduceSub, Nat.reduceLeDiff, Nat.reduceLT, Int.reduceLT, Int.reduceLE, Int.reduceAdd, Int.reduceSub, Int.reduceEq, Int.reduceNeg, Nat.reduceMul, decide_false, Bool.not_true, Bool.not_false, and_true, true_or, or_true, Int.reduceMul, Int.reduceToNat, Nat.reducePow, Int.reducePow, Nat.not_lt_zero, r_tix, r_gl, r_tixS, glOf, r_par2, r_par3, wP2_c, wP3_c, r_fld, r_fldP, r_fldA, r_meth, r_make, r_pop, wFl_d, wNo_none, wMk_ok, oFs_o, okS_o, List.map_cons, List.map_nil, false_or, l_addI, l_addS, l_addL, l_addT, l_sub, l_div, l_mod, l_mulI, l_mulS, l_mulL, l_eqI, l_eqS, l_neI, l_neS, l_ltI, l_leI, l_gtI, l_geI, l_ltS, l_leS, l_gtS, l_geS, l_truI, l_truB, l_truL, l_truT, l_truN, l_truS, l_lenS, l_lenL, l_lenT, l_intI, l_absI, l_tupL, l_tupT, l_itL, l_itT, l_itS, l_rg1, l_rg2, l_ixL, l_ixT, l_ixS, at_0, at_1, at_2, at_3, set_0, set_1, set_2, set_3, List.length_cons, List.length_nil, Int.cast_ofNat_Int, Int.natCast_one, tgD_n, tgD_t, tgA_nil, tgA_cons, Option.bind_some, l_isSS, l_isST, l_isSL, l_isSI, l_isTT, l_isTS, l_isTL, l_isTI, l_isII, l_isBI, l_isLL, l_ord, checkdays (num_lo h) (num_hi h), checkdays (num_lo h2) (num_hi h2), datein h, datein h2, lengthof h2.2.2.1 h2.2.2.2.1, l_min3]
  refine cB_dec (fun a => ?_) fun a => ?_
  · simp only [r_lft, r_var, r_own, r_c, r_bin, r_binO, r_cmp, r_tcmp, r_tcmpO, r_tru, r_tand, r_tor, r_tnot, r_eif, r_nif, r_and, r_or, r_not, r_neg, r_cb, r_ncb, r_bm, r_bm0, r_tup, r_lst, r_anil, r_acons, r_aone, r_vnil, r_vcons, r_vslot, r_sl, r_onone, r_osome, r_chain, r_tchain, r_isi, r_iany, r_rg1, r_rg2, r_yes, r_frz, r_call, r_F, r_sif, r_snil, r_pass, r_break, r_cont, r_no, r_ret, r_retN, r_retNone, r_drop, r_dropN, r_asg, r_asgN, r_aug, r_stup, r_app, r_ext, r_setix, r_for, r_retOwn, wE_nComp, wE_ok, wS_nx, wS_rt, wS_bk, wS_ct, wS_seq, wV_d, wV_l, wO_d, wO_l, wL_some, wL_ite, wL_map, cB_true, cB_false, cB_not, wZ_d, wZ_l, wTk_some, wT_some, wipeE, tk_nil, tk_v, tk_s, putA, mask, d1, d2, tyD, okS_d, okS_l, lOf, asI, Option.isSome_some, Option.getD_some, Option.map_some, List.getElem?_cons_zero, List.getElem?_cons_succ, List.set_cons_zero, List.set_cons_succ, List.replicate_succ, List.replicate_zero, List.cons_append, List.nil_append, List.not_mem_nil, List.mem_cons, or_false, not_false_eq_true, true_and, decide_true, if_true, if_false, Bool.false_eq_true, reduceIte, Nat.reduceEqDiff, Nat.reduceAdd, Nat.reduceSub, Nat.reduceLeDiff, Nat.reduceLT, Int.reduceLT, Int.reduceLE, Int.reduceAdd, Int.reduceSub, Int.reduceEq, Int.reduceNeg, Nat.reduceMul, decide_false, Bool.not_true, Bool.not_false, and_true, true_or, or_true, Int.reduceMul, Int.reduceToNat, Nat.reducePow, Int.reducePow, Nat.not_lt_zero, r_tix, r_gl, r_tixS, glOf, r_par2, r_par3, wP2_c, wP3_c, r_fld, r_fldP, r_fldA, r_meth, r_make, r_pop, wFl_d, wNo_none, wMk_ok, oFs_o, okS_o, List.map_cons, List.map_nil, false_or, l_addI, l_addS, l_addL, l_addT, l_sub, l_div, l_mod, l_mulI, l_mulS, l_mulL, l_eqI, l_eqS, l_neI, l_neS, l_ltI, l_leI, l_gtI, l_geI, l_ltS, l_leS, l_gtS, l_geS, l_truI, l_truB, l_truL, l_truT, l_truN, l_truS, l_lenS, l_lenL, l_lenT, l_intI, l_absI, l_tupL, l_tupT, l_itL, l_itT, l_itS, l_rg1, l_rg2, l_ixL, l_ixT, l_ixS, at_0, at_1, at_2, at_3, set_0, set_1, set_2, set_3, List.length_cons, List.length_nil, Int.cast_ofNat_Int, Int.natCast_one, tgD_n, tgD_t, tgA_nil, tgA_cons, Option.bind_some, l_isSS, l_isST, l_isSL, l_isSI, l_isTT, l_isTS, l_isTL, l_isTI, l_isII, l_isBI, l_isLL, l_ord]
    rw [if_pos a]
  · simp only [r_lft, r_var, r_own, r_c, r_bin, r_binO, r_cmp, r_tcmp, r_tcmpO, r_tru, r_tand, r_tor, r_tnot, r_eif, r_nif, r_and, r_or, r_not, r_neg, r_cb, r_ncb, r_bm, r_bm0, r_tup, r_lst, r_anil, r_acons, r_aone, r_vnil, r_vcons, r_vslot, r_sl, r_onone, r_osome, r_chain, r_tchain, r_isi, r_iany, r_rg1, r_rg2, r_yes, r_frz, r_call, r_F, r_sif, r_snil, r_pass, r_break, r_cont, r_no, r_ret, r_retN, r_retNone, r_drop, r_dropN, r_asg, r_asgN, r_aug, r_stup, r_app, r_ext, r_setix, r_for, r_retOwn, wE_nComp, wE_ok, wS_nx, wS_rt, wS_bk, wS_ct, wS_seq, wV_d, wV_l, wO_d, wO_l, wL_some, wL_ite, wL_map, cB_true, cB_false, cB_not, wZ_d, wZ_l, wTk_some, wT_some, wipeE, tk_nil, tk_v, tk_s, putA, mask, d1, d2, tyD, okS_d, okS_l, lOf, asI, Option.isSome_some, Option.getD_some, Option.map_some, List.getElem?_cons_zero, List.getElem?_cons_succ, List.set_cons_zero, List.set_cons_succ, List.replicate_succ, List.replicate_zero, List.cons_append, List.nil_append, List.not_mem_nil, List.mem_cons, or_false, not_false_eq_true, true_and, decide_true, if_true, if_false, Bool.false_eq_true, reduceIte, Nat.reduceEqDiff, Nat.reduceAdd, Nat.reduceSub, Nat.reduceLeDiff, Nat.reduceLT, Int.reduceLT, Int.reduceLE, Int.reduceAdd, Int.reduceSub, Int.reduceEq, Int.reduceNeg, Nat.reduceMul, decide_false, Bool.not_true, Bool.not_false, and_true, true_or, or_true, Int.reduceMul, Int.reduceToNat, Nat.reducePow, Int.reducePow, Nat.not_lt_zero, r_tix, r_gl, r_tixS, glOf, r_par2, r_par3, wP2_c, wP3_c, r_fld, r_fldP, r_fldA, r_meth, r_make, r_pop, wFl_d, wNo_none, wMk_ok, oFs_o, okS_o, List.map_cons, List.map_nil, false_or, l_addI, l_addS, l_addL, l_addT, l_sub, l_div, l_mod, l_mulI, l_mulS, l_mulL, l_eqI, l_eqS, l_neI, l_neS, l_ltI, l_leI, l_gtI, l_geI, l_ltS, l_leS, l_gtS, l_geS, l_truI, l_truB, l_truL, l_truT, l_truN, l_truS, l_lenS, l_lenL, l_lenT, l_intI, l_absI, l_tupL, l_tupT, l_itL, l_itT, l_itS, l_rg1, l_rg2, l_ixL, l_ixT, l_ixS, at_0, at_1, at_2, at_3, set_0, set_1, set_2, set_3, List.length_cons, List.length_nil, Int.cast_ofNat_Int, Int.natCast_one, tgD_n, tgD_t, tgA_nil, tgA_cons, Option.bind_some, l_isSS, l_isST, l_isSL, l_isSI, l_isTT, l_isTS, l_isTL, l_isTI, l_isII, l_isBI, l_isLL, l_ord]
    rw [if_neg a]
theorem lawbetween {y m d y2 m2 dd : Int} (h : Ok y m d) (h2 : Ok y2 m2 dd) : m__law_between [.d (.tuple [.int y, .int m, .int d]), .d (.tuple [.int y2, .int m2, .int dd])] =
    .ok (.d (.int (12 * (y2 - y) + m2 - m - if dd < min d (len y2 m2) then 1 else 0))) [.un, .un] := by
  have e1 : pl y m (12 * (y2 - y) + m2 - m) / 12 = y2 := by unfold pl; have := h2.2.2.1; have := h2.2.2.2.1; omega
  have e2 : pl y m (12 * (y2 - y) + m2 - m) % 12 + 1 = m2 := by unfold pl; have := h2.2.2.1; have := h2.2.2.2.1; omega
  have hm := lawmoved y m d (12 * (y2 - y) + m2 - m)
  rw [e1, e2, if_pos ⟨h2.1, h2.2.1⟩] at hm
  refine eqF (wF_run rfl ?_)
  simp only [b__law_between, r_lft, r_var, r_own, r_c, r_bin, r_binO, r_cmp, r_tcmp, r_tcmpO, r_tru, r_tand, r_tor, r_tnot, r_eif, r_nif, r_and, r_or, r_not, r_neg, r_cb, r_ncb, r_bm, r_bm0, r_tup, r_lst, r_anil, r_acons, r_aone, r_vnil, r_vcons, r_vslot, r_sl, r_onone, r_osome, r_chain, r_tchain, r_isi, r_iany, r_rg1, r_rg2, r_yes, r_frz, r_call, r_F, r_sif, r_snil, r_pass, r_break, r_cont, r_no, r_ret, r_retN, r_retNone, r_drop, r_dropN, r_asg, r_asgN, r_aug, r_stup, r_app, r_ext, r_setix, r_for, r_retOwn, wE_nComp, wE_ok, wS_nx, wS_rt, wS_bk, wS_ct, wS_seq, wV_d, wV_l, wO_d, wO_l, wL_some, wL_ite, wL_map, cB_true, cB_false, cB_not, wZ_d, wZ_l, wTk_some, wT_some, wipeE, tk_nil, tk_v, tk_s, putA, mask, d1, d2, tyD, okS_d, okS_l, lOf, asI, Option.isSome_some, Option.getD_some, Option.map_some, List.getElem?_cons_zero, List.getElem?_cons_succ, List.set_cons_zero, List.set_cons_succ, List.replicate_succ, List.replicate_zero, List.cons_append, List.nil_append, List.not_mem_nil, List.mem_cons, or_false, not_false_eq_true, true_and, decide_true, if_true, if_false, Bool.false_eq_true, reduceIte, Nat.reduceEqDiff, Nat.reduceAdd, Nat.reduceSub, Nat.reduceLeDiff, Nat.reduceLT, Int.reduceLT, Int.reduceLE, Int.reduceAdd, Int.reduceSub, Int.reduceEq, Int.reduceNeg, Nat.reduceMul, decide_false, Bool.not_true, Bool.not_false, and_true, true_or, or_true, Int.reduceMul, Int.reduceToNat, Nat.reducePow, Int.reducePow, Nat.not_lt_zero, r_tix, r_gl, r_tixS, glOf, r_par2, r_par3, wP2_c, wP3_c, r_fld, r_fldP, r_fldA, r_meth, r_make, r_pop, wFl_d, wNo_none, wMk_ok, oFs_o, okS_o, List.map_cons, List.map_nil, false_or, l_addI, l_addS, l_addL, l_addT, l_sub, l_div, l_mod, l_mulI, l_mulS, l_mulL, l_eqI, l_eqS, l_neI, l_neS, l_ltI, l_leI, l_gtI, l_geI, l_ltS, l_leS, l_gtS, l_geS, l_truI, l_truB, l_truL, l_truT, l_truN, l_truS, l_lenS, l_lenL, l_lenT, l_intI, l_absI, l_tupL, l_tupT, l_itL, l_itT, l_itS, l_rg1, l_rg2, l_ixL, l_ixT, l_ixS, at_0, at_1, at_2, at_3, set_0, set_1, set_2, set_3, List.length_cons, List.length_nil, Int.cast_ofNat_Int, Int.natCast_one, tgD_n, tgD_t, tgA_nil, tgA_cons, Option.bind_some, l_isSS, l_isST, l_isSL, l_isSI, l_isTT, l_isTS, l_isTL, l_isTI, l_isII, l_isBI, l_isLL, l_ord, hm, l_leT]
  refine cB_dec (fun a => ?_) fun a => ?_
  · simp only [r_lft, r_var, r_own, r_c, r_bin, r_binO, r_cmp, r_tcmp, r_tcmpO, r_tru, r_tand, r_tor, r_tnot, r_eif, r_nif, r_and, r_or, r_not, r_neg, r_cb, r_ncb, r_bm, r_bm0, r_tup, r_lst, r_anil, r_acons, r_aone, r_vnil, r_vcons, r_vslot, r_sl, r_onone, r_osome, r_chain, r_tchain, r_isi, r_iany, r_rg1, r_rg2, r_yes, r_frz, r_call, r_F, r_sif, r_snil, r_pass, r_break, r_cont, r_no, r_ret, r_retN, r_retNone, r_drop, r_dropN, r_asg, r_asgN, r_aug, r_stup, r_app, r_ext, r_setix, r_for, r_retOwn, wE_nComp, wE_ok, wS_nx, wS_rt, wS_bk, wS_ct, wS_seq, wV_d, wV_l, wO_d, wO_l, wL_some, wL_ite, wL_map, cB_true, cB_false, cB_not, wZ_d, wZ_l, wTk_some, wT_some, wipeE, tk_nil, tk_v, tk_s, putA, mask, d1, d2, tyD, okS_d, okS_l, lOf, asI, Option.isSome_some, Option.getD_some, Option.map_some, List.getElem?_cons_zero, List.getElem?_cons_succ, List.set_cons_zero, List.set_cons_succ, List.replicate_succ, List.replicate_zero, List.cons_append, List.nil_append, List.not_mem_nil, List.mem_cons, or_false, not_false_eq_true, true_and, decide_true, if_true, if_false, Bool.false_eq_true, reduceIte, Nat.reduceEqDiff, Nat.reduceAdd, Nat.reduceSub, Nat.reduceLeDiff, Nat.reduceLT, Int.reduceLT, Int.reduceLE, Int.reduceAdd, Int.reduceSub, Int.reduceEq, Int.reduceNeg, Nat.reduceMul, decide_false, Bool.not_true, Bool.not_false, and_true, true_or, or_true, Int.reduceMul, Int.reduceToNat, Nat.reducePow, Int.reducePow, Nat.not_lt_zero, r_tix, r_gl, r_tixS, glOf, r_par2, r_par3, wP2_c, wP3_c, r_fld, r_fldP, r_fldA, r_meth, r_make, r_pop, wFl_d, wNo_none, wMk_ok, oFs_o, okS_o, List.map_cons, List.map_nil, false_or, l_addI, l_addS, l_addL, l_addT, l_sub, l_div, l_mod, l_mulI, l_mulS, l_mulL, l_eqI, l_eqS, l_neI, l_neS, l_ltI, l_leI, l_gtI, l_geI, l_ltS, l_leS, l_gtS, l_geS, l_truI, l_truB, l_truL, l_truT, l_truN, l_truS, l_lenS, l_lenL, l_lenT, l_intI, l_absI, l_tupL, l_tupT, l_itL, l_itT, l_itS, l_rg1, l_rg2, l_ixL, l_ixT, l_ixS, at_0, at_1, at_2, at_3, set_0, set_1, set_2, set_3, List.length_cons, List.length_nil, Int.cast_ofNat_Int, Int.natCast_one, tgD_n, tgD_t, tgA_nil, tgA_cons, Option.bind_some, l_isSS, l_isST, l_isSL, l_isSI, l_isTT, l_isTS, l_isTL, l_isTI, l_isII, l_isBI, l_isLL, l_ord]
    rw [if_neg (by omega)]
    simp
  · simp only [r_lft, r_var, r_own, r_c, r_bin, r_binO, r_cmp, r_tcmp, r_tcmpO, r_tru, r_tand, r_tor, r_tnot, r_eif, r_nif, r_and, r_or, r_not, r_neg, r_cb, r_ncb, r_bm, r_bm0, r_tup, r_lst, r_anil, r_acons, r_aone, r_vnil, r_vcons, r_vslot, r_sl, r_onone, r_osome, r_chain, r_tchain, r_isi, r_iany, r_rg1, r_rg2, r_yes, r_frz, r_call, r_F, r_sif, r_snil, r_pass, r_break, r_cont, r_no, r_ret, r_retN, r_retNone, r_drop, r_dropN, r_asg, r_asgN, r_aug, r_stup, r_app, r_ext, r_setix, r_for, r_retOwn, wE_nComp, wE_ok, wS_nx, wS_rt, wS_bk, wS_ct, wS_seq, wV_d, wV_l, wO_d, wO_l, wL_some, wL_ite, wL_map, cB_true, cB_false, cB_not, wZ_d, wZ_l, wTk_some, wT_some, wipeE, tk_nil, tk_v, tk_s, putA, mask, d1, d2, tyD, okS_d, okS_l, lOf, asI, Option.isSome_some, Option.getD_some, Option.map_some, List.getElem?_cons_zero, List.getElem?_cons_succ, List.set_cons_zero, List.set_cons_succ, List.replicate_succ, List.replicate_zero, List.cons_append, List.nil_append, List.not_mem_nil, List.mem_cons, or_false, not_false_eq_true, true_and, decide_true, if_true, if_false, Bool.false_eq_true, reduceIte, Nat.reduceEqDiff, Nat.reduceAdd, Nat.reduceSub, Nat.reduceLeDiff, Nat.reduceLT, Int.reduceLT, Int.reduceLE, Int.reduceAdd, Int.reduceSub, Int.reduceEq, Int.reduceNeg, Nat.reduceMul, decide_false, Bool.not_true, Bool.not_false, and_true, true_or, or_true, Int.reduceMul, Int.reduceToNat, Nat.reducePow, Int.reducePow, Nat.not_lt_zero, r_tix, r_gl, r_tixS, glOf, r_par2, r_par3, wP2_c, wP3_c, r_fld, r_fldP, r_fldA, r_meth, r_make, r_pop, wFl_d, wNo_none, wMk_ok, oFs_o, okS_o, List.map_cons, List.map_nil, false_or, l_addI, l_addS, l_addL, l_addT, l_sub, l_div, l_mod, l_mulI, l_mulS, l_mulL, l_eqI, l_eqS, l_neI, l_neS, l_ltI, l_leI, l_gtI, l_geI, l_ltS, l_leS, l_gtS, l_geS, l_truI, l_truB, l_truL, l_truT, l_truN, l_truS, l_lenS, l_lenL, l_lenT, l_intI, l_absI, l_tupL, l_tupT, l_itL, l_itT, l_itS, l_rg1, l_rg2, l_ixL, l_ixT, l_ixS, at_0, at_1, at_2, at_3, set_0, set_1, set_2, set_3, List.length_cons, List.length_nil, Int.cast_ofNat_Int, Int.natCast_one, tgD_n, tgD_t, tgA_nil, tgA_cons, Option.bind_some, l_isSS, l_isST, l_isSL, l_isSI, l_isTT, l_isTS, l_isTL, l_isTI, l_isII, l_isBI, l_isLL, l_ord]
    rw [if_pos (by omega)]
end K40

/-! law_k40_dates: the plain law: what is drawn; days. -/
namespace K40
open PySem PySem.Spec PyProof.Rows L2 BV
theorem draw_eq : m__law_draw = mDraw := rfl
theorem pick_eq : m__law_pick = mPick := rfl
theorem same_eq : m__law_same = mSame := rfl
theorem drawn_ok {s : Sl} (hs : Stt s) {Q : Sl → List Sl → Prop} (k : ∀ y m d s', Ok y m d → Stt s' → Q (.d (.tuple [.int y, .int m, .int d])) [s']) : wF (m__law_drawn [s]) Q := by
  refine wF_run rfl ?_
  simp only [b__law_drawn, r_lft, r_var, r_own, r_c, r_bin, r_binO, r_cmp, r_tcmp, r_tcmpO, r_tru, r_tand, r_tor, r_tnot, r_eif, r_nif, r_and, r_or, r_not, r_neg, r_cb, r_ncb, r_bm, r_bm0, r_tup, r_lst, r_anil, r_acons, r_aone, r_vnil, r_vcons, r_vslot, r_sl, r_onone, r_osome, r_chain, r_tchain, r_isi, r_iany, r_rg1, r_rg2, r_yes, r_frz, r_call, r_F, r_sif, r_snil, r_pass, r_break, r_cont, r_no, r_ret, r_retN, r_retNone, r_drop, r_dropN, r_asg, r_asgN, r_aug, r_stup, r_app, r_ext, r_setix, r_for, r_retOwn, wE_nComp, wE_ok, wS_nx, wS_rt, wS_bk, wS_ct, wS_seq, wV_d, wV_l, wO_d, wO_l, wL_some, wL_ite, wL_map, cB_true, cB_false, cB_not, wZ_d, wZ_l, wTk_some, wT_some, wipeE, tk_nil, tk_v, tk_s, putA, mask, d1, d2, tyD, okS_d, okS_l, lOf, asI, Option.isSome_some, Option.getD_some, Option.map_some, List.getElem?_cons_zero, List.getElem?_cons_succ, List.set_cons_zero, List.set_cons_succ, List.replicate_succ, List.replicate_zero, List.cons_append, List.nil_append, List.not_mem_nil, List.mem_cons, or_false, not_false_eq_true, true_and, decide_true, if_true, if_false, Bool.false_eq_true, reduceIte, Nat.reduceEqDiff, Nat.reduceAdd, Nat.reduceSub, Nat.reduceLeDiff, Nat.reduceLT, Int.reduceLT, Int.reduceLE, Int.reduceAdd, Int.reduceSub, Int.reduceEq, Int.reduceNeg, Nat.reduceMul, decide_false, Bool.not_true, Bool.not_false, and_true, true_or, or_true, Int.reduceMul, Int.reduceToNat, Nat.reducePow, Int.reducePow, Nat.not_lt_zero, r_tix, r_gl, r_tixS, glOf, r_par2, r_par3, wP2_c, wP3_c, r_fld, r_fldP, r_fldA, r_meth, r_make, r_pop, wFl_d, wNo_none, wMk_ok, oFs_o, okS_o, List.map_cons, List.map_nil, false_or, l_addI, l_addS, l_addL, l_addT, l_sub, l_div, l_mod, l_mulI, l_mulS, l_mulL, l_eqI, l_eqS, l_neI, l_neS, l_ltI, l_leI, l_gtI, l_geI, l_ltS, l_leS, l_gtS, l_geS, l_truI, l_truB, l_truL, l_truT, l_truN, l_truS, l_lenS, l_lenL, l_lenT, l_intI, l_absI, l_tupL, l_tupT, l_itL, l_itT, l_itS, l_rg1, l_rg2, l_ixL, l_ixT, l_ixS, at_0, at_1, at_2, at_3, set_0, set_1, set_2, set_3, List.length_cons, List.length_nil, Int.cast_ofNat_Int, Int.natCast_one, tgD_n, tgD_t, tgA_nil, tgA_cons, Option.bind_some, l_isSS, l_isST, l_isSL, l_isSI, l_isTT, l_isTS, l_isTL, l_isTI, l_isII, l_isBI, l_isLL, l_ord, pick_eq, draw_eq, okS_stt hs]
  refine draw_ok hs (by decide) (by decide) fun v s1 v0 v1 hs1 => ?_
  simp only [r_lft, r_var, r_own, r_c, r_bin, r_binO, r_cmp, r_tcmp, r_tcmpO, r_tru, r_tand, r_tor, r_tnot, r_eif, r_nif, r_and, r_or, r_not, r_neg, r_cb, r_ncb, r_bm, r_bm0, r_tup, r_lst, r_anil, r_acons, r_aone, r_vnil, r_vcons, r_vslot, r_sl, r_onone, r_osome, r_chain, r_tchain, r_isi, r_iany, r_rg1, r_rg2, r_yes, r_frz, r_call, r_F, r_sif, r_snil, r_pass, r_break, r_cont, r_no, r_ret, r_retN, r_retNone, r_drop, r_dropN, r_asg, r_asgN, r_aug, r_stup, r_app, r_ext, r_setix, r_for, r_retOwn, wE_nComp, wE_ok, wS_nx, wS_rt, wS_bk, wS_ct, wS_seq, wV_d, wV_l, wO_d, wO_l, wL_some, wL_ite, wL_map, cB_true, cB_false, cB_not, wZ_d, wZ_l, wTk_some, wT_some, wipeE, tk_nil, tk_v, tk_s, putA, mask, d1, d2, tyD, okS_d, okS_l, lOf, asI, Option.isSome_some, Option.getD_some, Option.map_some, List.getElem?_cons_zero, List.getElem?_cons_succ, List.set_cons_zero, List.set_cons_succ, List.replicate_succ, List.replicate_zero, List.cons_append, List.nil_append, List.not_mem_nil, List.mem_cons, or_false, not_false_eq_true, true_and, decide_true, if_true, if_false, Bool.false_eq_true, reduceIte, Nat.reduceEqDiff, Nat.reduceAdd, Nat.reduceSub, Nat.reduceLeDiff, Nat.reduceLT, Int.reduceLT, Int.reduceLE, Int.reduceAdd, Int.reduceSub, Int.reduceEq, Int.reduceNeg, Nat.reduceMul, decide_false, Bool.not_true, Bool.not_false, and_true, true_or, or_true, Int.reduceMul, Int.reduceToNat, Nat.reducePow, Int.reducePow, Nat.not_lt_zero, r_tix, r_gl, r_tixS, glOf, r_par2, r_par3, wP2_c, wP3_c, r_fld, r_fldP, r_fldA, r_meth, r_make, r_pop, wFl_d, wNo_none, wMk_ok, oFs_o, okS_o, List.map_cons, List.map_nil, false_or, l_addI, l_addS, l_addL, l_addT, l_sub, l_div, l_mod, l_mulI, l_mulS, l_mulL, l_eqI, l_eqS, l_neI, l_neS, l_ltI, l_leI, l_gtI, l_geI, l_ltS, l_leS, l_gtS, l_geS, l_truI, l_truB, l_truL, l_truT, l_truN, l_truS, l_lenS, l_lenL, l_lenT, l_intI, l_absI, l_tupL, l_tupT, l_itL, l_itT, l_itS, l_rg1, l_rg2, l_ixL, l_ixT, l_ixS, at_0, at_1, at_2, at_3, set_0, set_1, set_2, set_3, List.length_cons, List.length_nil, Int.cast_ofNat_Int, Int.natCast_one, tgD_n, tgD_t, tgA_nil, tgA_cons, Option.bind_some, l_isSS, l_isST, l_isSL, l_isSI, l_isTT, l_isTS, l_isTL, l_isTI, l_isII, l_isBI, l_isLL, l_ord, pick_eq, draw_eq, okS_stt hs1]
  refine pick_ok hs1 (by simp) (by simp) fun x s2 hx hs2 => ?_
  obtain ⟨y, rfl, y0, y1⟩ : ∃ y : Int, x = .int y ∧ 1 ≤ y ∧ y ≤ 9999 := by
    simp only [List.mem_cons, List.not_mem_nil, or_false] at hx
    rcases hx with rfl | rfl | rfl | rfl | rfl | rfl | rfl | rfl | rfl | rfl | rfl | rfl | rfl <;> exact ⟨_, rfl, by omega, by omega⟩
  simp only [r_lft, r_var, r_own, r_c, r_bin, r_binO, r_cmp, r_tcmp, r_tcmpO, r_tru, r_tand, r_tor, r_tnot, r_eif, r_nif, r_and, r_or, r_not, r_neg, r_cb, r_ncb, r_bm, r_bm0, r_tup, r_lst, r_anil, r_acons, r_aone, r_vnil, r_vcons, r_vslot, r_sl, r_onone, r_osome, r_chain, r_tchain, r_isi, r_iany, r_rg1, r_rg2, r_yes, r_frz, r_call, r_F, r_sif, r_snil, r_pass, r_break, r_cont, r_no, r_ret, r_retN, r_retNone, r_drop, r_dropN, r_asg, r_asgN, r_aug, r_stup, r_app, r_ext, r_setix, r_for, r_retOwn, wE_nComp, wE_ok, wS_nx, wS_rt, wS_bk, wS_ct, wS_seq, wV_d, wV_l, wO_d, wO_l, wL_some, wL_ite, wL_map, cB_true, cB_false, cB_not, wZ_d, wZ_l, wTk_some, wT_some, wipeE, tk_nil, tk_v, tk_s, putA, mask, d1, d2, tyD, okS_d, okS_l, lOf, asI, Option.isSome_some, Option.getD_some, Option.map_some, List.getElem?_cons_zero, List.getElem?_cons_succ, List.set_cons_zero, List.set_cons_succ, List.replicate_succ, List.replicate_zero, List.cons_append, List.nil_append, List.not_mem_nil, List.mem_cons, or_false, not_false_eq_true, true_and, decide_true, if_true, if_false, Bool.false_eq_true, reduceIte, Nat.reduceEqDiff, Nat.reduceAdd, Nat.reduceSub, Nat.reduceLeDiff, Nat.reduceLT, Int.reduceLT, Int.reduceLE, Int.reduceAdd, Int.reduceSub, Int.reduceEq, Int.reduceNeg, Nat.reduceMul, decide_false, Bool.not_true, Bool.not_false, and_true, true_or, or_true, Int.reduceMul, Int.reduceToNat, Nat.reducePow, Int.reducePow, Nat.not_lt_zero, r_tix, r_gl, r_tixS, glOf, r_par2, r_par3, wP2_c, wP3_c, r_fld, r_fldP, r_fldA, r_meth, r_make, r_pop, wFl_d, wNo_none, wMk_ok, oFs_o, okS_o, List.map_cons, List.map_nil, false_or, l_addI, l_addS, l_addL, l_addT, l_sub, l_div, l_mod, l_mulI, l_mulS, l_mulL, l_eqI, l_eqS, l_neI, l_neS, l_ltI, l_leI, l_gtI, l_geI, l_ltS, l_leS, l_gtS, l_geS, l_truI, l_truB, l_truL, l_truT, l_truN, l_truS, l_lenS, l_lenL, l_lenT, l_intI, l_absI, l_tupL, l_tupT, l_itL, l_itT, l_itS, l_rg1, l_rg2, l_ixL, l_ixT, l_ixS, at_0, at_1, at_2, at_3, set_0, set_1, set_2, set_3, List.length_cons, List.length_nil, Int.cast_ofNat_Int, Int.natCast_one, tgD_n, tgD_t, tgA_nil, tgA_cons, Option.bind_some, l_isSS, l_isST, l_isSL, l_isSI, l_isTT, l_isTS, l_isTL, l_isTI, l_isII, l_isBI, l_isLL, l_ord, pick_eq, draw_eq, okS_stt hs2]
  refine draw_ok hs2 (by decide) (by decide) fun v s3 v0 v1 hs3 => ?_
  simp only [r_lft, r_var, r_own, r_c, r_bin, r_binO, r_cmp, r_tcmp, r_tcmpO, r_tru, r_tand, r_tor, r_tnot, r_eif, r_nif, r_and, r_or, r_not, r_neg, r_cb, r_ncb, r_bm, r_bm0, r_tup, r_lst, r_anil, r_acons, r_aone, r_vnil, r_vcons, r_vslot, r_sl, r_onone, r_osome, r_chain, r_tchain, r_isi, r_iany, r_rg1, r_rg2, r_yes, r_frz, r_call, r_F, r_sif, r_snil, r_pass, r_break, r_cont, r_no, r_ret, r_retN, r_retNone, r_drop, r_dropN, r_asg, r_asgN, r_aug, r_stup, r_app, r_ext, r_setix, r_for, r_retOwn, wE_nComp, wE_ok, wS_nx, wS_rt, wS_bk, wS_ct, wS_seq, wV_d, wV_l, wO_d, wO_l, wL_some, wL_ite, wL_map, cB_true, cB_false, cB_not, wZ_d, wZ_l, wTk_some, wT_some, wipeE, tk_nil, tk_v, tk_s, putA, mask, d1, d2, tyD, okS_d, okS_l, lOf, asI, Option.isSome_some, Option.getD_some, Option.map_some, List.getElem?_cons_zero, List.getElem?_cons_succ, List.set_cons_zero, List.set_cons_succ, List.replicate_succ, List.replicate_zero, List.cons_append, List.nil_append, List.not_mem_nil, List.mem_cons, or_false, not_false_eq_true, true_and, decide_true, if_true, if_false, Bool.false_eq_true, reduceIte, Nat.reduceEqDiff, Nat.reduceAdd, Nat.reduceSub, Nat.reduceLeDiff, Nat.reduceLT, Int.reduceLT, Int.reduceLE, Int.reduceAdd, Int.reduceSub, Int.reduceEq, Int.reduceNeg, Nat.reduceMul, decide_false, Bool.not_true, Bool.not_false, and_true, true_or, or_true, Int.reduceMul, Int.reduceToNat, Nat.reducePow, Int.reducePow, Nat.not_lt_zero, r_tix, r_gl, r_tixS, glOf, r_par2, r_par3, wP2_c, wP3_c, r_fld, r_fldP, r_fldA, r_meth, r_make, r_pop, wFl_d, wNo_none, wMk_ok, oFs_o, okS_o, List.map_cons, List.map_nil, false_or, l_addI, l_addS, l_addL, l_addT, l_sub, l_div, l_mod, l_mulI, l_mulS, l_mulL, l_eqI, l_eqS, l_neI, l_neS, l_ltI, l_leI, l_gtI, l_geI, l_ltS, l_leS, l_gtS, l_geS, l_truI, l_truB, l_truL, l_truT, l_truN, l_truS, l_lenS, l_lenL, l_lenT, l_intI, l_absI, l_tupL, l_tupT, l_itL, l_itT, l_itS, l_rg1, l_rg2, l_ixL, l_ixT, l_ixS, at_0, at_1, at_2, at_3, set_0, set_1, set_2, set_3, List.length_cons, List.length_nil, Int.cast_ofNat_Int, Int.natCast_one, tgD_n, tgD_t, tgA_nil, tgA_cons, Option.bind_some, l_isSS, l_isST, l_isSL, l_isSI, l_isTT, l_isTS, l_isTL, l_isTI, l_isII, l_isBI, l_isLL, l_ord, pick_eq, draw_eq, okS_stt hs3]
  refine pick_ok hs3 (by simp) (by simp) fun x s4 hx hs4 => ?_
  obtain ⟨m, rfl, m0, m1⟩ : ∃ y : Int, x = .int y ∧ 1 ≤ y ∧ y ≤ 12 := by
    simp only [List.mem_cons, List.not_mem_nil, or_false] at hx
    rcases hx with rfl | rfl | rfl | rfl | rfl <;> exact ⟨_, rfl, by omega, by omega⟩
  have l0 := len_lo y m
  have l1 := len_hi y m
  simp only [r_lft, r_var, r_own, r_c, r_bin, r_binO, r_cmp, r_tcmp, r_tcmpO, r_tru, r_tand, r_tor, r_tnot, r_eif, r_nif, r_and, r_or, r_not, r_neg, r_cb, r_ncb, r_bm, r_bm0, r_tup, r_lst, r_anil, r_acons, r_aone, r_vnil, r_vcons, r_vslot, r_sl, r_onone, r_osome, r_chain, r_tchain, r_isi, r_iany, r_rg1, r_rg2, r_yes, r_frz, r_call, r_F, r_sif, r_snil, r_pass, r_break, r_cont, r_no, r_ret, r_retN, r_retNone, r_drop, r_dropN, r_asg, r_asgN, r_aug, r_stup, r_app, r_ext, r_setix, r_for, r_retOwn, wE_nComp, wE_ok, wS_nx, wS_rt, wS_bk, wS_ct, wS_seq, wV_d, wV_l, wO_d, wO_l, wL_some, wL_ite, wL_map, cB_true, cB_false, cB_not, wZ_d, wZ_l, wTk_some, wT_some, wipeE, tk_nil, tk_v, tk_s, putA, mask, d1, d2, tyD, okS_d, okS_l, lOf, asI, Option.isSome_some, Option.getD_some, Option.map_some, List.getElem?_cons_zero, List.getElem?_cons_succ, List.set_cons_zero, List.set_cons_succ, List.replicate_succ, List.replicate_zero, List.cons_append, List.nil_append, List.not_mem_nil, List.mem_cons, or_false, not_false_eq_true, true_and, decide_true, if_true, if_false, Bool.false_eq_true, reduceIte, Nat.reduceEqDiff, Nat.reduceAdd, Nat.reduceSub, Nat.reduceLeDiff, Nat.reduceLT, Int.reduceLT, Int.reduceLE, Int.reduceAdd, Int.reduceSub, Int.reduceEq, Int.reduceNeg, Nat.reduceMul, decide_false, Bool.not_true, Bool.not_false, and_true, true_or, or_true, Int.reduceMul, Int.reduceToNat, Nat.reducePow, Int.reducePow, Nat.not_lt_zero, r_tix, r_gl, r_tixS, glOf, r_par2, r_par3, wP2_c, wP3_c, r_fld, r_fldP, r_fldA, r_meth, r_make, r_pop, wFl_d, wNo_none, wMk_ok, oFs_o, okS_o, List.map_cons, List.map_nil, false_or, l_addI, l_addS, l_addL, l_addT, l_sub, l_div, l_mod, l_mulI, l_mulS, l_mulL, l_eqI, l_eqS, l_neI, l_neS, l_ltI, l_leI, l_gtI, l_geI, l_ltS, l_leS, l_gtS, l_geS, l_truI, l_truB, l_truL, l_truT, l_truN, l_truS, l_lenS, l_lenL, l_lenT, l_intI, l_absI, l_tupL, l_tupT, l_itL, l_itT, l_itS, l_rg1, l_rg2, l_ixL, l_ixT, l_ixS, at_0, at_1, at_2, at_3, set_0, set_1, set_2, set_3, List.length_cons, List.length_nil, Int.cast_ofNat_Int, Int.natCast_one, tgD_n, tgD_t, tgA_nil, tgA_cons, Option.bind_some, l_isSS, l_isST, l_isSL, l_isSI, l_isTT, l_isTS, l_isTL, l_isTI, l_isII, l_isBI, l_isLL, l_ord, pick_eq, draw_eq, lawlen, okS_stt hs4]
  refine draw_ok hs4 (by omega) (by omega) fun v s5 v0 v1 hs5 => ?_
  simp only [r_lft, r_var, r_own, r_c, r_bin, r_binO, r_cmp, r_tcmp, r_tcmpO, r_tru, r_tand, r_tor, r_tnot, r_eif, r_nif, r_and, r_or, r_not, r_neg, r_cb, r_ncb, r_bm, r_bm0, r_tup, r_lst, r_anil, r_acons, r_aone, r_vnil, r_vcons, r_vslot, r_sl, r_onone, r_osome, r_chain, r_tchain, r_isi, r_iany, r_rg1, r_rg2, r_yes, r_frz, r_call, r_F, r_sif, r_snil, r_pass, r_break, r_cont, r_no, r_ret, r_retN, r_retNone, r_drop, r_dropN, r_asg, r_asgN, r_aug, r_stup, r_app, r_ext, r_setix, r_for, r_retOwn, wE_nComp, wE_ok, wS_nx, wS_rt, wS_bk, wS_ct, wS_seq, wV_d, wV_l, wO_d, wO_l, wL_some, wL_ite, wL_map, cB_true, cB_false, cB_not, wZ_d, wZ_l, wTk_some, wT_some, wipeE, tk_nil, tk_v, tk_s, putA, mask, d1, d2, tyD, okS_d, okS_l, lOf, asI, Option.isSome_some, Option.getD_some, Option.map_some, List.getElem?_cons_zero, List.getElem?_cons_succ, List.set_cons_zero, List.set_cons_succ, List.replicate_succ, List.replicate_zero, List.cons_append, List.nil_append, List.not_mem_nil, List.mem_cons, or_false, not_false_eq_true, true_and, decide_true, if_true, if_false, Bool.false_eq_true, reduceIte, Nat.reduceEqDiff, Nat.reduceAdd, Nat.reduceSub, Nat.reduceLeDiff, Nat.reduceLT, Int.reduceLT, Int.reduceLE, Int.reduceAdd, Int.reduceSub, Int.reduceEq, Int.reduceNeg, Nat.reduceMul, decide_false, Bool.not_true, Bool.not_false, and_true, true_or, or_true, Int.reduceMul, Int.reduceToNat, Nat.reducePow, Int.reducePow, Nat.not_lt_zero, r_tix, r_gl, r_tixS, glOf, r_par2, r_par3, wP2_c, wP3_c, r_fld, r_fldP, r_fldA, r_meth, r_make, r_pop, wFl_d, wNo_none, wMk_ok, oFs_o, okS_o, List.map_cons, List.map_nil, false_or, l_addI, l_addS, l_addL, l_addT, l_sub, l_div, l_mod, l_mulI, l_mulS, l_mulL, l_eqI, l_eqS, l_neI, l_neS, l_ltI, l_leI, l_gtI, l_geI, l_ltS, l_leS, l_gtS, l_geS, l_truI, l_truB, l_truL, l_truT, l_truN, l_truS, l_lenS, l_lenL, l_lenT, l_intI, l_absI, l_tupL, l_tupT, l_itL, l_itT, l_itS, l_rg1, l_rg2, l_ixL, l_ixT, l_ixS, at_0, at_1, at_2, at_3, set_0, set_1, set_2, set_3, List.length_cons, List.length_nil, Int.cast_ofNat_Int, Int.natCast_one, tgD_n, tgD_t, tgA_nil, tgA_cons, Option.bind_some, l_isSS, l_isST, l_isSL, l_isSI, l_isTT, l_isTS, l_isTL, l_isTI, l_isII, l_isBI, l_isLL, l_ord, pick_eq, draw_eq, okS_stt hs5]
  refine pick_ok hs5 (by simp) (by simp) fun x s6 hx hs6 => ?_
  obtain ⟨d, rfl, e0, e1⟩ : ∃ d : Int, x = .int d ∧ 1 ≤ d ∧ d ≤ len y m := by
    simp only [List.mem_cons, List.not_mem_nil, or_false] at hx
    rcases hx with rfl | rfl | rfl | rfl | rfl <;> exact ⟨_, rfl, by omega, by omega⟩
  simp only [r_lft, r_var, r_own, r_c, r_bin, r_binO, r_cmp, r_tcmp, r_tcmpO, r_tru, r_tand, r_tor, r_tnot, r_eif, r_nif, r_and, r_or, r_not, r_neg, r_cb, r_ncb, r_bm, r_bm0, r_tup, r_lst, r_anil, r_acons, r_aone, r_vnil, r_vcons, r_vslot, r_sl, r_onone, r_osome, r_chain, r_tchain, r_isi, r_iany, r_rg1, r_rg2, r_yes, r_frz, r_call, r_F, r_sif, r_snil, r_pass, r_break, r_cont, r_no, r_ret, r_retN, r_retNone, r_drop, r_dropN, r_asg, r_asgN, r_aug, r_stup, r_app, r_ext, r_setix, r_for, r_retOwn, wE_nComp, wE_ok, wS_nx, wS_rt, wS_bk, wS_ct, wS_seq, wV_d, wV_l, wO_d, wO_l, wL_some, wL_ite, wL_map, cB_true, cB_false, cB_not, wZ_d, wZ_l, wTk_some, wT_some, wipeE, tk_nil, tk_v, tk_s, putA, mask, d1, d2, tyD, okS_d, okS_l, lOf, asI, Option.isSome_some, Option.getD_some, Option.map_some, List.getElem?_cons_zero, List.getElem?_cons_succ, List.set_cons_zero, List.set_cons_succ, List.replicate_succ, List.replicate_zero, List.cons_append, List.nil_append, List.not_mem_nil, List.mem_cons, or_false, not_false_eq_true, true_and, decide_true, if_true, if_false, Bool.false_eq_true, reduceIte, Nat.reduceEqDiff, Nat.reduceAdd, Nat.reduceSub, Nat.reduceLeDiff, Nat.reduceLT, Int.reduceLT, Int.reduceLE, Int.reduceAdd, Int.reduceSub, Int.reduceEq, Int.reduceNeg, Nat.reduceMul, decide_false, Bool.not_true, Bool.not_false, and_true, true_or, or_true, Int.reduceMul, Int.reduceToNat, Nat.reducePow, Int.reducePow, Nat.not_lt_zero, r_tix, r_gl, r_tixS, glOf, r_par2, r_par3, wP2_c, wP3_c, r_fld, r_fldP, r_fldA, r_meth, r_make, r_pop, wFl_d, wNo_none, wMk_ok, oFs_o, okS_o, List.map_cons, List.map_nil, false_or, l_addI, l_addS, l_addL, l_addT, l_sub, l_div, l_mod, l_mulI, l_mulS, l_mulL, l_eqI, l_eqS, l_neI, l_neS, l_ltI, l_leI, l_gtI, l_geI, l_ltS, l_leS, l_gtS, l_geS, l_truI, l_truB, l_truL, l_truT, l_truN, l_truS, l_lenS, l_lenL, l_lenT, l_intI, l_absI, l_tupL, l_tupT, l_itL, l_itT, l_itS, l_rg1, l_rg2, l_ixL, l_ixT, l_ixS, at_0, at_1, at_2, at_3, set_0, set_1, set_2, set_3, List.length_cons, List.length_nil, Int.cast_ofNat_Int, Int.natCast_one, tgD_n, tgD_t, tgA_nil, tgA_cons, Option.bind_some, l_isSS, l_isST, l_isSL, l_isSI, l_isTT, l_isTS, l_isTL, l_isTI, l_isII, l_isBI, l_isLL, l_ord]
  exact k y m d s6 ⟨y0, y1, m0, m1, e0, e1⟩ hs6
/-- same of ints, of lists of small things -/
theorem fxi {i : Int} (h : -(2 ^ 63) ≤ i) (h2 : i < 2 ^ 63) : Fx 67 0 (.int i) := by
  have hb : i.natAbs.log2 < 65 := by
    by_cases z : i.natAbs = 0
    · rw [z]; decide
    · exact (Nat.log2_lt z).mpr (by omega)
  refine ⟨by rw [PyData.canLay0], ?_, by rw [PyData.depth]; exact Nat.le_refl _, by rw [wt]; omega⟩
  rw [PyData.showable]
  exact decide_eq_true (by omega)
theorem fxd (y m d : Int) (h : Ok y m d) : Fx 1000 1 (.tuple [.int y, .int m, .int d]) := by
  obtain ⟨h1, h2, h3, h4, h5, h6⟩ := h
  have := len_hi y m
  exact (Fx.tup (k := 3) (Fx.three (fxi (by omega) (by omega)) (fxi (by omega) (by omega)) (fxi (by omega) (by omega))) (Nat.le_refl _)).mono (by decide) (by decide)
theorem l_ne3 {y m d : Int} : dNeB (.tuple [.int y, .int m, .int d]) (.tuple [.int 9999, .int 12, .int 31]) = some (!decide (y = 9999 ∧ m = 12 ∧ d = 31)) := by
  have s1 : ∀ a b c : Int, SeqAt.shaped (.tuple [.int a, .int b, .int c]) = true := fun a b c => by
    unfold SeqAt.shaped
    simp [PyData.canLay0, PyData.canLayAll0, PyData.depth, PyData.depthAll]
  show ((if SeqAt.shaped (.tuple [.int y, .int m, .int d]) && SeqAt.shaped (.tuple [.int 9999, .int 12, .int 31]) then some (PyData.eqv (.tuple [.int y, .int m, .int d]) (.tuple [.int 9999, .int 12, .int 31])) else none : Option Bool)).map not = _
  rw [s1, s1]
  have b : ∀ a c : Int, (a == c) = decide (a = c) := fun a c => by by_cases h : a = c <;> simp [h]
  simp [PyData.eqv, PyData.eqvAll, b]
theorem l_pow30 : dPow (.int 10) (.int 30) = some (.int 1000000000000000000000000000000) := by kernel_rfl
/-- the law of days behind its first two questions -/
def dRest : BV.Env → RS := (sSeq (sAsgN [0] 3 (nLst (aCons (eBin dAdd (eBin dIx (eVar 1) (eC (.int 0))) (fun env => frz ((eCall false m__law_pick (vSlot 0 (vCons (fun env => frz ((nLst (aCons (eC (.int 0)) (aCons (eC (.int 0)) (aCons (eNeg (eC (.int 1))) (aCons (eC (.int 9999)) aNil))))) env)) vNil))) env))) (aCons (eBin dAdd (eBin dIx (eVar 1) (eC (.int 1))) (fun env => frz ((eCall false m__law_pick (vSlot 0 (vCons (fun env => frz ((nLst (aCons (eC (.int 0)) (aCons (eC (.int 0)) (aCons (eC (.int 12)) (aCons (eNeg (eC (.int 1))) aNil))))) env)) vNil))) env))) (aCons (eBin dAdd (eBin dIx (eVar 1) (eC (.int 2))) (fun env => frz ((eCall false m__law_pick (vSlot 0 (vCons (fun env => frz ((nLst (aCons (eC (.int 0)) (aCons (eC (.int 1)) (aCons (eNeg (eC (.int 1))) (aCons (eC (.int 3)) aNil))))) env)) vNil))) env))) aNil)))))
 (sSeq (sSetIx 3 (fun env => frz ((eCall false m__law_draw (vSlot 0 (vCons (eC (.int 3)) vNil))) env)) (fun env => frz ((eCall false m__law_pick (vSlot 0 (vCons (eBinO dAdd 3 (fun env => frz ((nLst (aCons (eC .none) (aCons (eC (.bool true)) (aCons (eC (.int 0)) (aCons (eC (.str "1")) (aCons (eC (.int 29)) (aCons (eBin dPow (eC (.int 10)) (eC (.int 30))) aNil))))))) env))) vNil))) env)))
 (sSeq (sIf (tNotD (tTru (fun env => frz ((eCall false m__law_same (vCons (fun env => frz ((eCall false m_is_date (vCons (eBinO dIx 3 (eC (.int 0))) (vCons (eBinO dIx 3 (eC (.int 1))) (vCons (eBinO dIx 3 (eC (.int 2))) vNil)))) env)) (vCons (fun env => frz ((eCall false m__law_is_date (vCons (eBinO dIx 3 (eC (.int 0))) (vCons (eBinO dIx 3 (eC (.int 1))) (vCons (eBinO dIx 3 (eC (.int 2))) vNil)))) env)) vNil))) env)))) (sRet (eC (.bool false))) sNil)
 (sSeq (sAsg [0] 4 (fun env => frz ((eCall false m__law_draw (vSlot 0 (vCons (eC (.int 7)) vNil))) env)))
 (sSeq (sAsg [0] 5 (eBin dAdd (eVar 2) (eBin dMod (eCB (d1 dIntOf) (aOne (eBin dSub (eBin dSub (eVar 4) (eOwn 2)) (eC (.int 3))))) (eC (.int 7)))))
 (sSeq (sIf (tAndD (tCmpD dLeB (eVar 5) (eC (.int 2932896))) (tNotD (tTru (fun env => frz ((eCall false m__law_same (vCons (fun env => frz ((eCall false m_next_weekday (vCons (eVar 2) (vCons (eBin dIx (fun env => frz ((eCall false m__law_names vNil) env)) (eOwn 4)) vNil))) env)) (vCons (eVar 5) vNil))) env))))) (sRet (eC (.bool false))) sNil)
 (sSeq (sAsg [0] 6 (fun env => frz ((eCall false m__law_pick (vSlot 0 (vCons (fun env => frz ((nLst (aCons (eC (.int 0)) (aCons (eC (.int 1)) (aCons (eNeg (eC (.int 1))) (aCons (eC (.int 12)) (aCons (eNeg (eC (.int 12))) (aCons (eC (.int 48)) (aCons (eBin dSub (fun env => frz ((eCall false m__law_draw (vSlot 0 (vCons (eC (.int 2000)) vNil))) env)) (eC (.int 1000))) (aCons (eC (.int 100000)) aNil))))))))) env)) vNil))) env)))
 (sSeq (sAsg [0] 7 (fun env => frz ((eCall false m__law_moved (vCons (eVar 1) (vCons (eVar 6) vNil))) env)))
 (sSeq (sIf (tAndD (tCmpD dIsNB (eVar 7) (eC .none)) (tNotD (tTru (fun env => frz ((eCall false m__law_same (vCons (fun env => frz ((eCall false m_add_months (vCons (eVar 2) (vCons (eVar 6) vNil))) env)) (vCons (fun env => frz ((eCall false m__law_number (vCons (eBin dIx (eVar 7) (eC (.int 0))) (vCons (eBin dIx (eVar 7) (eC (.int 1))) (vCons (eBin dIx (eVar 7) (eC (.int 2))) vNil)))) env)) vNil))) env))))) (sRet (eC (.bool false))) sNil)
 (sSeq (sAsg [0] 8 (fun env => frz ((eCall false m__law_pick (vSlot 0 (vCons (fun env => frz ((nLst (aCons (fun env => frz ((eCall false m__law_drawn (vSlot 0 vNil)) env)) (aCons (eTup (aCons (eBin dIx (eVar 1) (eC (.int 0))) (aCons (eBin dIx (eVar 1) (eC (.int 1))) (aCons (eC (.int 1)) aNil)))) (aCons (eTup (aCons (eBin dIx (eVar 1) (eC (.int 0))) (aCons (fun env => frz ((eCall false m__law_pick (vSlot 0 (vCons (fun env => frz ((nLst (aCons (eC (.int 2)) (aCons (eC (.int 3)) (aCons (eC (.int 12)) aNil)))) env)) vNil))) env)) (aCons (eC (.int 28)) aNil)))) aNil)))) env)) vNil))) env)))
 (sSeq (sAsg [0] 9 (fun env => frz ((nLst (aCons (fun env => frz ((eCall false m_months_between (vCons (eVar 2) (vCons (fun env => frz ((eCall false m__law_number (vCons (eBin dIx (eVar 8) (eC (.int 0))) (vCons (eBin dIx (eVar 8) (eC (.int 1))) (vCons (eBin dIx (eVar 8) (eC (.int 2))) vNil)))) env)) vNil))) env)) (aCons (fun env => frz ((eCall false m_months_between (vCons (fun env => frz ((eCall false m__law_number (vCons (eBin dIx (eVar 8) (eC (.int 0))) (vCons (eBin dIx (eVar 8) (eC (.int 1))) (vCons (eBin dIx (eVar 8) (eC (.int 2))) vNil)))) env)) (vCons (eVar 2) vNil))) env)) aNil))) env)))
 (sRetN (eCall false m__law_same (vCons (eVar 9) (vCons (fun env => frz ((nLst (aCons (fun env => frz ((eCall false m__law_between (vCons (eVar 1) (vCons (eVar 8) vNil))) env)) (aCons (fun env => frz ((eCall false m__law_between (vCons (eVar 8) (vCons (eVar 1) vNil))) env)) aNil))) env)) vNil)))))))))))))))
def dRest2 : BV.Env → RS := (sSeq (sAsg [0] 4 (fun env => frz ((eCall false m__law_draw (vSlot 0 (vCons (eC (.int 7)) vNil))) env)))
 (sSeq (sAsg [0] 5 (eBin dAdd (eVar 2) (eBin dMod (eCB (d1 dIntOf) (aOne (eBin dSub (eBin dSub (eVar 4) (eOwn 2)) (eC (.int 3))))) (eC (.int 7)))))
 (sSeq (sIf (tAndD (tCmpD dLeB (eVar 5) (eC (.int 2932896))) (tNotD (tTru (fun env => frz ((eCall false m__law_same (vCons (fun env => frz ((eCall false m_next_weekday (vCons (eVar 2) (vCons (eBin dIx (fun env => frz ((eCall false m__law_names vNil) env)) (eOwn 4)) vNil))) env)) (vCons (eVar 5) vNil))) env))))) (sRet (eC (.bool false))) sNil)
 (sSeq (sAsg [0] 6 (fun env => frz ((eCall false m__law_pick (vSlot 0 (vCons (fun env => frz ((nLst (aCons (eC (.int 0)) (aCons (eC (.int 1)) (aCons (eNeg (eC (.int 1))) (aCons (eC (.int 12)) (aCons (eNeg (eC (.int 12))) (aCons (eC (.int 48)) (aCons (eBin dSub (fun env => frz ((eCall false m__law_draw (vSlot 0 (vCons (eC (.int 2000)) vNil))) env)) (eC (.int 1000))) (aCons (eC (.int 100000)) aNil))))))))) env)) vNil))) env)))
 (sSeq (sAsg [0] 7 (fun env => frz ((eCall false m__law_moved (vCons (eVar 1) (vCons (eVar 6) vNil))) env)))
 (sSeq (sIf (tAndD (tCmpD dIsNB (eVar 7) (eC .none)) (tNotD (tTru (fun env => frz ((eCall false m__law_same (vCons (fun env => frz ((eCall false m_add_months (vCons (eVar 2) (vCons (eVar 6) vNil))) env)) (vCons (fun env => frz ((eCall false m__law_number (vCons (eBin dIx (eVar 7) (eC (.int 0))) (vCons (eBin dIx (eVar 7) (eC (.int 1))) (vCons (eBin dIx (eVar 7) (eC (.int 2))) vNil)))) env)) vNil))) env))))) (sRet (eC (.bool false))) sNil)
 (sSeq (sAsg [0] 8 (fun env => frz ((eCall false m__law_pick (vSlot 0 (vCons (fun env => frz ((nLst (aCons (fun env => frz ((eCall false m__law_drawn (vSlot 0 vNil)) env)) (aCons (eTup (aCons (eBin dIx (eVar 1) (eC (.int 0))) (aCons (eBin dIx (eVar 1) (eC (.int 1))) (aCons (eC (.int 1)) aNil)))) (aCons (eTup (aCons (eBin dIx (eVar 1) (eC (.int 0))) (aCons (fun env => frz ((eCall false m__law_pick (vSlot 0 (vCons (fun env => frz ((nLst (aCons (eC (.int 2)) (aCons (eC (.int 3)) (aCons (eC (.int 12)) aNil)))) env)) vNil))) env)) (aCons (eC (.int 28)) aNil)))) aNil)))) env)) vNil))) env)))
 (sSeq (sAsg [0] 9 (fun env => frz ((nLst (aCons (fun env => frz ((eCall false m_months_between (vCons (eVar 2) (vCons (fun env => frz ((eCall false m__law_number (vCons (eBin dIx (eVar 8) (eC (.int 0))) (vCons (eBin dIx (eVar 8) (eC (.int 1))) (vCons (eBin dIx (eVar 8) (eC (.int 2))) vNil)))) env)) vNil))) env)) (aCons (fun env => frz ((eCall false m_months_between (vCons (fun env => frz ((eCall false m__law_number (vCons (eBin dIx (eVar 8) (eC (.int 0))) (vCons (eBin dIx (eVar 8) (eC (.int 1))) (vCons (eBin dIx (eVar 8) (eC (.int 2))) vNil)))) env)) (vCons (eVar 2) vNil))) env)) aNil))) env)))
 (sRetN (eCall false m__law_same (vCons (eVar 9) (vCons (fun env => frz ((nLst (aCons (fun env => frz ((eCall false m__law_between (vCons (eVar 1) (vCons (eVar 8) vNil))) env)) (aCons (fun env => frz ((eCall false m__law_between (vCons (eVar 8) (vCons (eVar 1) vNil))) env)) aNil))) env)) vNil))))))))))))
def dRest3 : BV.Env → RS := (sSeq (sAsg [0] 6 (fun env => frz ((eCall false m__law_pick (vSlot 0 (vCons (fun env => frz ((nLst (aCons (eC (.int 0)) (aCons (eC (.int 1)) (aCons (eNeg (eC (.int 1))) (aCons (eC (.int 12)) (aCons (eNeg (eC (.int 12))) (aCons (eC (.int 48)) (aCons (eBin dSub (fun env => frz ((eCall false m__law_draw (vSlot 0 (vCons (eC (.int 2000)) vNil))) env)) (eC (.int 1000))) (aCons (eC (.int 100000)) aNil))))))))) env)) vNil))) env)))
 (sSeq (sAsg [0] 7 (fun env => frz ((eCall false m__law_moved (vCons (eVar 1) (vCons (eVar 6) vNil))) env)))
 (sSeq (sIf (tAndD (tCmpD dIsNB (eVar 7) (eC .none)) (tNotD (tTru (fun env => frz ((eCall false m__law_same (vCons (fun env => frz ((eCall false m_add_months (vCons (eVar 2) (vCons (eVar 6) vNil))) env)) (vCons (fun env => frz ((eCall false m__law_number (vCons (eBin dIx (eVar 7) (eC (.int 0))) (vCons (eBin dIx (eVar 7) (eC (.int 1))) (vCons (eBin dIx (eVar 7) (eC (.int 2))) vNil)))) env)) vNil))) env))))) (sRet (eC (.bool false))) sNil)
 (sSeq (sAsg [0] 8 (fun env => frz ((eCall false m__law_pick (vSlot 0 (vCons (fun env => frz ((nLst (aCons (fun env => frz ((eCall false m__law_drawn (vSlot 0 vNil)) env)) (aCons (eTup (aCons (eBin dIx (eVar 1) (eC (.int 0))) (aCons (eBin dIx (eVar 1) (eC (.int 1))) (aCons (eC (.int 1)) aNil)))) (aCons (eTup (aCons (eBin dIx (eVar 1) (eC (.int 0))) (aCons (fun env => frz ((eCall false m__law_pick (vSlot 0 (vCons (fun env => frz ((nLst (aCons (eC (.int 2)) (aCons (eC (.int 3)) (aCons (eC (.int 12)) aNil)))) env)) vNil))) env)) (aCons (eC (.int 28)) aNil)))) aNil)))) env)) vNil))) env)))
 (sSeq (sAsg [0] 9 (fun env => frz ((nLst (aCons (fun env => frz ((eCall false m_months_between (vCons (eVar 2) (vCons (fun env => frz ((eCall false m__law_number (vCons (eBin dIx (eVar 8) (eC (.int 0))) (vCons (eBin dIx (eVar 8) (eC (.int 1))) (vCons (eBin dIx (eVar 8) (eC (.int 2))) vNil)))) env)) vNil))) env)) (aCons (fun env => frz ((eCall false m_months_between (vCons (fun env => frz ((eCall false m__law_number (vCons (eBin dIx (eVar 8) (eC (.int 0))) (vCons (eBin dIx (eVar 8) (eC (.int 1))) (vCons (eBin dIx (eVar 8) (eC (.int 2))) vNil)))) env)) (vCons (eVar 2) vNil))) env)) aNil))) env)))
 (sRetN (eCall false m__law_same (vCons (eVar 9) (vCons (fun env => frz ((nLst (aCons (fun env => frz ((eCall false m__law_between (vCons (eVar 1) (vCons (eVar 8) vNil))) env)) (aCons (fun env => frz ((eCall false m__law_between (vCons (eVar 8) (vCons (eVar 1) vNil))) env)) aNil))) env)) vNil)))))))))
def dRest4 : BV.Env → RS := (sSeq (sAsg [0] 8 (fun env => frz ((eCall false m__law_pick (vSlot 0 (vCons (fun env => frz ((nLst (aCons (fun env => frz ((eCall false m__law_drawn (vSlot 0 vNil)) env)) (aCons (eTup (aCons (eBin dIx (eVar 1) (eC (.int 0))) (aCons (eBin dIx (eVar 1) (eC (.int 1))) (aCons (eC (.int 1)) aNil)))) (aCons (eTup (aCons (eBin dIx (eVar 1) (eC (.int 0))) (aCons (fun env => frz ((eCall false m__law_pick (vSlot 0 (vCons (fun env => frz ((nLst (aCons (eC (.int 2)) (aCons (eC (.int 3)) (aCons (eC (.int 12)) aNil)))) env)) vNil))) env)) (aCons (eC (.int 28)) aNil)))) aNil)))) env)) vNil))) env)))
 (sSeq (sAsg [0] 9 (fun env => frz ((nLst (aCons (fun env => frz ((eCall false m_months_between (vCons (eVar 2) (vCons (fun env => frz ((eCall false m__law_number (vCons (eBin dIx (eVar 8) (eC (.int 0))) (vCons (eBin dIx (eVar 8) (eC (.int 1))) (vCons (eBin dIx (eVar 8) (eC (.int 2))) vNil)))) env)) vNil))) env)) (aCons (fun env => frz ((eCall false m_months_between (vCons (fun env => frz ((eCall false m__law_number (vCons (eBin dIx (eVar 8) (eC (.int 0))) (vCons (eBin dIx (eVar 8) (eC (.int 1))) (vCons (eBin dIx (eVar 8) (eC (.int 2))) vNil)))) env)) (vCons (eVar 2) vNil))) env)) aNil))) env)))
 (sRetN (eCall false m__law_same (vCons (eVar 9) (vCons (fun env => frz ((nLst (aCons (fun env => frz ((eCall false m__law_between (vCons (eVar 1) (vCons (eVar 8) vNil))) env)) (aCons (fun env => frz ((eCall false m__law_between (vCons (eVar 8) (vCons (eVar 1) vNil))) env)) aNil))) env)) vNil))))))
theorem days_eq : b__law_days_hold = (sSeq (sAsg [0] 1 (fun env => frz ((eCall false m__law_drawn (vSlot 0 vNil)) env)))
 (sSeq (sAsg [0] 2 (fun env => frz ((eCall false m__law_number (vCons (eBin dIx (eVar 1) (eC (.int 0))) (vCons (eBin dIx (eVar 1) (eC (.int 1))) (vCons (eBin dIx (eVar 1) (eC (.int 2))) vNil)))) env)))
 (sSeq (sIf (tNotD (tTru (fun env => frz ((eCall false m__law_same (vCons (fun env => frz ((nLst (aCons (fun env => frz ((eCall false m_days_of (vCons (eBin dIx (eVar 1) (eC (.int 0))) (vCons (eBin dIx (eVar 1) (eC (.int 1))) (vCons (eBin dIx (eVar 1) (eC (.int 2))) vNil)))) env)) (aCons (fun env => frz ((eCall false m_date_of (vCons (eVar 2) vNil)) env)) (aCons (fun env => frz ((eCall false m_weekday (vCons (eVar 2) vNil)) env)) aNil)))) env)) (vCons (fun env => frz ((nLst (aCons (eVar 2) (aCons (eVar 1) (aCons (eBin dMod (eCB (d1 dIntOf) (aOne (eBin dAdd (eVar 2) (eC (.int 3))))) (eC (.int 7))) aNil)))) env)) vNil))) env)))) (sRet (eC (.bool false))) sNil)
 (sSeq (sIf (tAndD (tCmpD dNeB (eVar 1) (eTup (aCons (eC (.int 9999)) (aCons (eC (.int 12)) (aCons (eC (.int 31)) aNil))))) (tNotD (tTru (fun env => frz ((eCall false m__law_same (vCons (fun env => frz ((eCall false m_date_of (vCons (eBin dAdd (eVar 2) (eC (.int 1))) vNil)) env)) (vCons (fun env => frz ((eCall false m__law_next_day (vCons (eVar 1) vNil)) env)) vNil))) env))))) (sRet (eC (.bool false))) sNil)
 dRest)))) := rfl
theorem rest_eq : dRest = (sSeq (sAsgN [0] 3 (nLst (aCons (eBin dAdd (eBin dIx (eVar 1) (eC (.int 0))) (fun env => frz ((eCall false m__law_pick (vSlot 0 (vCons (fun env => frz ((nLst (aCons (eC (.int 0)) (aCons (eC (.int 0)) (aCons (eNeg (eC (.int 1))) (aCons (eC (.int 9999)) aNil))))) env)) vNil))) env))) (aCons (eBin dAdd (eBin dIx (eVar 1) (eC (.int 1))) (fun env => frz ((eCall false m__law_pick (vSlot 0 (vCons (fun env => frz ((nLst (aCons (eC (.int 0)) (aCons (eC (.int 0)) (aCons (eC (.int 12)) (aCons (eNeg (eC (.int 1))) aNil))))) env)) vNil))) env))) (aCons (eBin dAdd (eBin dIx (eVar 1) (eC (.int 2))) (fun env => frz ((eCall false m__law_pick (vSlot 0 (vCons (fun env => frz ((nLst (aCons (eC (.int 0)) (aCons (eC (.int 1)) (aCons (eNeg (eC (.int 1))) (aCons (eC (.int 3)) aNil))))) env)) vNil))) env))) aNil)))))
 (sSeq (sSetIx 3 (fun env => frz ((eCall false m__law_draw (vSlot 0 (vCons (eC (.int 3)) vNil))) env)) (fun env => frz ((eCall false m__law_pick (vSlot 0 (vCons (eBinO dAdd 3 (fun env => frz ((nLst (aCons (eC .none) (aCons (eC (.bool true)) (aCons (eC (.int 0)) (aCons (eC (.str "1")) (aCons (eC (.int 29)) (aCons (eBin dPow (eC (.int 10)) (eC (.int 30))) aNil))))))) env))) vNil))) env)))
 (sSeq (sIf (tNotD (tTru (fun env => frz ((eCall false m__law_same (vCons (fun env => frz ((eCall false m_is_date (vCons (eBinO dIx 3 (eC (.int 0))) (vCons (eBinO dIx 3 (eC (.int 1))) (vCons (eBinO dIx 3 (eC (.int 2))) vNil)))) env)) (vCons (fun env => frz ((eCall false m__law_is_date (vCons (eBinO dIx 3 (eC (.int 0))) (vCons (eBinO dIx 3 (eC (.int 1))) (vCons (eBinO dIx 3 (eC (.int 2))) vNil)))) env)) vNil))) env)))) (sRet (eC (.bool false))) sNil)
 dRest2))) := rfl
theorem rest2_eq : dRest2 = (sSeq (sAsg [0] 4 (fun env => frz ((eCall false m__law_draw (vSlot 0 (vCons (eC (.int 7)) vNil))) env)))
 (sSeq (sAsg [0] 5 (eBin dAdd (eVar 2) (eBin dMod (eCB (d1 dIntOf) (aOne (eBin dSub (eBin dSub (eVar 4) (eOwn 2)) (eC (.int 3))))) (eC (.int 7)))))
 (sSeq (sIf (tAndD (tCmpD dLeB (eVar 5) (eC (.int 2932896))) (tNotD (tTru (fun env => frz ((eCall false m__law_same (vCons (fun env => frz ((eCall false m_next_weekday (vCons (eVar 2) (vCons (eBin dIx (fun env => frz ((eCall false m__law_names vNil) env)) (eOwn 4)) vNil))) env)) (vCons (eVar 5) vNil))) env))))) (sRet (eC (.bool false))) sNil)
 dRest3))) := rfl
theorem rest3_eq : dRest3 = (sSeq (sAsg [0] 6 (fun env => frz ((eCall false m__law_pick (vSlot 0 (vCons (fun env => frz ((nLst (aCons (eC (.int 0)) (aCons (eC (.int 1)) (aCons (eNeg (eC (.int 1))) (aCons (eC (.int 12)) (aCons (eNeg (eC (.int 12))) (aCons (eC (.int 48)) (aCons (eBin dSub (fun env => frz ((eCall false m__law_draw (vSlot 0 (vCons (eC (.int 2000)) vNil))) env)) (eC (.int 1000))) (aCons (eC (.int 100000)) aNil))))))))) env)) vNil))) env)))
 (sSeq (sAsg [0] 7 (fun env => frz ((eCall false m__law_moved (vCons (eVar 1) (vCons (eVar 6) vNil))) env)))
 (sSeq (sIf (tAndD (tCmpD dIsNB (eVar 7) (eC .none)) (tNotD (tTru (fun env => frz ((eCall false m__law_same (vCons (fun env => frz ((eCall false m_add_months (vCons (eVar 2) (vCons (eVar 6) vNil))) env)) (vCons (fun env => frz ((eCall false m__law_number (vCons (eBin dIx (eVar 7) (eC (.int 0))) (vCons (eBin dIx (eVar 7) (eC (.int 1))) (vCons (eBin dIx (eVar 7) (eC (.int 2))) vNil)))) env)) vNil))) env))))) (sRet (eC (.bool false))) sNil)
 dRest4))) := rfl
theorem sameB (b : Bool) : mSame [.d (.bool b), .d (.bool b)] = .ok (.d (.bool true)) [.un, .un] := Fx.bool.same (by decide) (by decide)
theorem sameI {i : Int} (h : -(2 ^ 63) ≤ i) (h2 : i < 2 ^ 63) : mSame [.d (.int i), .d (.int i)] = .ok (.d (.bool true)) [.un, .un] := (fxi h h2).same (by decide) (by decide)
section
variable {N B C : BV.Env → Prop} {R : Sl → BV.Env → Prop} {y m d : Int} {s : Sl}
theorem rest_ok (hs : Stt s) (k : ∀ s' q3, Stt s' → wS (dRest2 [s', .d (.tuple [.int y, .int m, .int d]), .d (.int (num y m d)), q3, .un, .un, .un, .un, .un, .un]) N R B C) :
    wS (dRest [s, .d (.tuple [.int y, .int m, .int d]), .d (.int (num y m d)), .un, .un, .un, .un, .un, .un, .un]) N R B C := by
  rw [rest_eq]
  simp only [r_lft, r_var, r_own, r_c, r_bin, r_binO, r_cmp, r_tcmp, r_tcmpO, r_tru, r_tand, r_tor, r_tnot, r_eif, r_nif, r_and, r_or, r_not, r_neg, r_cb, r_ncb, r_bm, r_bm0, r_tup, r_lst, r_anil, r_acons, r_aone, r_vnil, r_vcons, r_vslot, r_sl, r_onone, r_osome, r_chain, r_tchain, r_isi, r_iany, r_rg1, r_rg2, r_yes, r_frz, r_call, r_F, r_sif, r_snil, r_pass, r_break, r_cont, r_no, r_ret, r_retN, r_retNone, r_drop, r_dropN, r_asg, r_asgN, r_aug, r_stup, r_app, r_ext, r_setix, r_for, r_retOwn, wE_nComp, wE_ok, wS_nx, wS_rt, wS_bk, wS_ct, wS_seq, wV_d, wV_l, wO_d, wO_l, wL_some, wL_ite, wL_map, cB_true, cB_false, cB_not, wZ_d, wZ_l, wTk_some, wT_some, wipeE, tk_nil, tk_v, tk_s, putA, mask, d1, d2, tyD, okS_d, okS_l, lOf, asI, Option.isSome_some, Option.getD_some, Option.map_some, List.getElem?_cons_zero, List.getElem?_cons_succ, List.set_cons_zero, List.set_cons_succ, List.replicate_succ, List.replicate_zero, List.cons_append, List.nil_append, List.not_mem_nil, List.mem_cons, or_false, not_false_eq_true, true_and, decide_true, if_true, if_false, Bool.false_eq_true, reduceIte, Nat.reduceEqDiff, Nat.reduceAdd, Nat.reduceSub, Nat.reduceLeDiff, Nat.reduceLT, Int.reduceLT, Int.reduceLE, Int.reduceAdd, Int.reduceSub, Int.reduceEq, Int.reduceNeg, Nat.reduceMul, decide_false, Bool.not_true, Bool.not_false, and_true, true_or, or_true, Int.reduceMul, Int.reduceToNat, Nat.reducePow, Int.reducePow, Nat.not_lt_zero, r_tix, r_gl, r_tixS, glOf, r_par2, r_par3, wP2_c, wP3_c, r_fld, r_fldP, r_fldA, r_meth, r_make, r_pop, wFl_d, wNo_none, wMk_ok, oFs_o, okS_o, List.map_cons, List.map_nil, false_or, l_addI, l_addS, l_addL, l_addT, l_sub, l_div, l_mod, l_mulI, l_mulS, l_mulL, l_eqI, l_eqS, l_neI, l_neS, l_ltI, l_leI, l_gtI, l_geI, l_ltS, l_leS, l_gtS, l_geS, l_truI, l_truB, l_truL, l_truT, l_truN, l_truS, l_lenS, l_lenL, l_lenT, l_intI, l_absI, l_tupL, l_tupT, l_itL, l_itT, l_itS, l_rg1, l_rg2, l_ixL, l_ixT, l_ixS, at_0, at_1, at_2, at_3, set_0, set_1, set_2, set_3, List.length_cons, List.length_nil, Int.cast_ofNat_Int, Int.natCast_one, tgD_n, tgD_t, tgA_nil, tgA_cons, Option.bind_some, l_isSS, l_isST, l_isSL, l_isSI, l_isTT, l_isTS, l_isTL, l_isTI, l_isII, l_isBI, l_isLL, l_ord, okS_stt hs, pick_eq]
  refine pick_ok hs (by simp) (by simp) fun x1 s1 hx1 hs1 => ?_
  obtain ⟨i1, rfl⟩ : ∃ i : Int, x1 = .int i := by
    simp only [List.mem_cons, List.not_mem_nil, or_false] at hx1
    rcases hx1 with rfl | rfl | rfl | rfl <;> exact ⟨_, rfl⟩
  simp only [r_lft, r_var, r_own, r_c, r_bin, r_binO, r_cmp, r_tcmp, r_tcmpO, r_tru, r_tand, r_tor, r_tnot, r_eif, r_nif, r_and, r_or, r_not, r_neg, r_cb, r_ncb, r_bm, r_bm0, r_tup, r_lst, r_anil, r_acons, r_aone, r_vnil, r_vcons, r_vslot, r_sl, r_onone, r_osome, r_chain, r_tchain, r_isi, r_iany, r_rg1, r_rg2, r_yes, r_frz, r_call, r_F, r_sif, r_snil, r_pass, r_break, r_cont, r_no, r_ret, r_retN, r_retNone, r_drop, r_dropN, r_asg, r_asgN, r_aug, r_stup, r_app, r_ext, r_setix, r_for, r_retOwn, wE_nComp, wE_ok, wS_nx, wS_rt, wS_bk, wS_ct, wS_seq, wV_d, wV_l, wO_d, wO_l, wL_some, wL_ite, wL_map, cB_true, cB_false, cB_not, wZ_d, wZ_l, wTk_some, wT_some, wipeE, tk_nil, tk_v, tk_s, putA, mask, d1, d2, tyD, okS_d, okS_l, lOf, asI, Option.isSome_some, Option.getD_some, Option.map_some, List.getElem?_cons_zero, List.getElem?_cons_succ, List.set_cons_zero, List.set_cons_succ, List.replicate_succ, List.replicate_zero, List.cons_append, List.nil_append, List.not_mem_nil, List.mem_cons, or_false, not_false_eq_true, true_and, decide_true, if_true, if_false, Bool.false_eq_true, reduceIte, Nat.reduceEqDiff, Nat.reduceAdd, Nat.reduceSub, Nat.reduceLeDiff, Nat.reduceLT, Int.reduceLT, Int.reduceLE, Int.reduceAdd, Int.reduceSub, Int.reduceEq, Int.reduceNeg, Nat.reduceMul, decide_false, Bool.not_true, Bool.not_false, and_true, true_or, or_true, Int.reduceMul, Int.reduceToNat, Nat.reducePow, Int.reducePow, Nat.not_lt_zero, r_tix, r_gl, r_tixS, glOf, r_par2, r_par3, wP2_c, wP3_c, r_fld, r_fldP, r_fldA, r_meth, r_make, r_pop, wFl_d, wNo_none, wMk_ok, oFs_o, okS_o, List.map_cons, List.map_nil, false_or, l_addI, l_addS, l_addL, l_addT, l_sub, l_div, l_mod, l_mulI, l_mulS, l_mulL, l_eqI, l_eqS, l_neI, l_neS, l_ltI, l_leI, l_gtI, l_geI, l_ltS, l_leS, l_gtS, l_geS, l_truI, l_truB, l_truL, l_truT, l_truN, l_truS, l_lenS, l_lenL, l_lenT, l_intI, l_absI, l_tupL, l_tupT, l_itL, l_itT, l_itS, l_rg1, l_rg2, l_ixL, l_ixT, l_ixS, at_0, at_1, at_2, at_3, set_0, set_1, set_2, set_3, List.length_cons, List.length_nil, Int.cast_ofNat_Int, Int.natCast_one, tgD_n, tgD_t, tgA_nil, tgA_cons, Option.bind_some, l_isSS, l_isST, l_isSL, l_isSI, l_isTT, l_isTS, l_isTL, l_isTI, l_isII, l_isBI, l_isLL, l_ord, okS_stt hs1, pick_eq]
  refine pick_ok hs1 (by simp) (by simp) fun x2 s2 hx2 hs2 => ?_
  obtain ⟨i2, rfl⟩ : ∃ i : Int, x2 = .int i := by
    simp only [List.mem_cons, List.not_mem_nil, or_false] at hx2
    rcases hx2 with rfl | rfl | rfl | rfl <;> exact ⟨_, rfl⟩
  simp only [r_lft, r_var, r_own, r_c, r_bin, r_binO, r_cmp, r_tcmp, r_tcmpO, r_tru, r_tand, r_tor, r_tnot, r_eif, r_nif, r_and, r_or, r_not, r_neg, r_cb, r_ncb, r_bm, r_bm0, r_tup, r_lst, r_anil, r_acons, r_aone, r_vnil, r_vcons, r_vslot, r_sl, r_onone, r_osome, r_chain, r_tchain, r_isi, r_iany, r_rg1, r_rg2, r_yes, r_frz, r_call, r_F, r_sif, r_snil, r_pass, r_break, r_cont, r_no, r_ret, r_retN, r_retNone, r_drop, r_dropN, r_asg, r_asgN, r_aug, r_stup, r_app, r_ext, r_setix, r_for, r_retOwn, wE_nComp, wE_ok, wS_nx, wS_rt, wS_bk, wS_ct, wS_seq, wV_d, wV_l, wO_d, wO_l, wL_some, wL_ite, wL_map, cB_true, cB_false, cB_not, wZ_d, wZ_l, wTk_some, wT_some, wipeE, tk_nil, tk_v, tk_s, putA, mask, d1, d2, tyD, okS_d, okS_l, lOf, asI, Option.isSome_some, Option.getD_some, Option.map_some, List.getElem?_cons_zero, List.getElem?_cons_succ, List.set_cons_zero, List.set_cons_succ, List.replicate_succ, List.replicate_zero, List.cons_append, List.nil_append, List.not_mem_nil, List.mem_cons, or_false, not_false_eq_true, true_and, decide_true, if_true, if_false, Bool.false_eq_true, reduceIte, Nat.reduceEqDiff, Nat.reduceAdd, Nat.reduceSub, Nat.reduceLeDiff, Nat.reduceLT, Int.reduceLT, Int.reduceLE, Int.reduceAdd, Int.reduceSub, Int.reduceEq, Int.reduceNeg, Nat.reduceMul, decide_false, Bool.not_true, Bool.not_false, and_true, true_or, or_true, Int.reduceMul, Int.reduceToNat, Nat.reducePow, Int.reducePow, Nat.not_lt_zero, r_tix, r_gl, r_tixS, glOf, r_par2, r_par3, wP2_c, wP3_c, r_fld, r_fldP, r_fldA, r_meth, r_make, r_pop, wFl_d, wNo_none, wMk_ok, oFs_o, okS_o, List.map_cons, List.map_nil, false_or, l_addI, l_addS, l_addL, l_addT, l_sub, l_div, l_mod, l_mulI, l_mulS, l_mulL, l_eqI, l_eqS, l_neI, l_neS, l_ltI, l_leI, l_gtI, l_geI, l_ltS, l_leS, l_gtS, l_geS, l_truI, l_truB, l_truL, l_truT, l_truN, l_truS, l_lenS, l_lenL, l_lenT, l_intI, l_absI, l_tupL, l_tupT, l_itL, l_itT, l_itS, l_rg1, l_rg2, l_ixL, l_ixT, l_ixS, at_0, at_1, at_2, at_3, set_0, set_1, set_2, set_3, List.length_cons, List.length_nil, Int.cast_ofNat_Int, Int.natCast_one, tgD_n, tgD_t, tgA_nil, tgA_cons, Option.bind_some, l_isSS, l_isST, l_isSL, l_isSI, l_isTT, l_isTS, l_isTL, l_isTI, l_isII, l_isBI, l_isLL, l_ord, okS_stt hs2, pick_eq]
  refine pick_ok hs2 (by simp) (by simp) fun x3 s3 hx3 hs3 => ?_
  obtain ⟨i3, rfl⟩ : ∃ i : Int, x3 = .int i := by
    simp only [List.mem_cons, List.not_mem_nil, or_false] at hx3
    rcases hx3 with rfl | rfl | rfl | rfl <;> exact ⟨_, rfl⟩
  simp only [r_lft, r_var, r_own, r_c, r_bin, r_binO, r_cmp, r_tcmp, r_tcmpO, r_tru, r_tand, r_tor, r_tnot, r_eif, r_nif, r_and, r_or, r_not, r_neg, r_cb, r_ncb, r_bm, r_bm0, r_tup, r_lst, r_anil, r_acons, r_aone, r_vnil, r_vcons, r_vslot, r_sl, r_onone, r_osome, r_chain, r_tchain, r_isi, r_iany, r_rg1, r_rg2, r_yes, r_frz, r_call, r_F, r_sif, r_snil, r_pass, r_break, r_cont, r_no, r_ret, r_retN, r_retNone, r_drop, r_dropN, r_asg, r_asgN, r_aug, r_stup, r_app, r_ext, r_setix, r_for, r_retOwn, wE_nComp, wE_ok, wS_nx, wS_rt, wS_bk, wS_ct, wS_seq, wV_d, wV_l, wO_d, wO_l, wL_some, wL_ite, wL_map, cB_true, cB_false, cB_not, wZ_d, wZ_l, wTk_some, wT_some, wipeE, tk_nil, tk_v, tk_s, putA, mask, d1, d2, tyD, okS_d, okS_l, lOf, asI, Option.isSome_some, Option.getD_some, Option.map_some, List.getElem?_cons_zero, List.getElem?_cons_succ, List.set_cons_zero, List.set_cons_succ, List.replicate_succ, List.replicate_zero, List.cons_append, List.nil_append, List.not_mem_nil, List.mem_cons, or_false, not_false_eq_true, true_and, decide_true, if_true, if_false, Bool.false_eq_true, reduceIte, Nat.reduceEqDiff, Nat.reduceAdd, Nat.reduceSub, Nat.reduceLeDiff, Nat.reduceLT, Int.reduceLT, Int.reduceLE, Int.reduceAdd, Int.reduceSub, Int.reduceEq, Int.reduceNeg, Nat.reduceMul, decide_false, Bool.not_true, Bool.not_false, and_true, true_or, or_true, Int.reduceMul, Int.reduceToNat, Nat.reducePow, Int.reducePow, Nat.not_lt_zero, r_tix, r_gl, r_tixS, glOf, r_par2, r_par3, wP2_c, wP3_c, r_fld, r_fldP, r_fldA, r_meth, r_make, r_pop, wFl_d, wNo_none, wMk_ok, oFs_o, okS_o, List.map_cons, List.map_nil, false_or, l_addI, l_addS, l_addL, l_addT, l_sub, l_div, l_mod, l_mulI, l_mulS, l_mulL, l_eqI, l_eqS, l_neI, l_neS, l_ltI, l_leI, l_gtI, l_geI, l_ltS, l_leS, l_gtS, l_geS, l_truI, l_truB, l_truL, l_truT, l_truN, l_truS, l_lenS, l_lenL, l_lenT, l_intI, l_absI, l_tupL, l_tupT, l_itL, l_itT, l_itS, l_rg1, l_rg2, l_ixL, l_ixT, l_ixS, at_0, at_1, at_2, at_3, set_0, set_1, set_2, set_3, List.length_cons, List.length_nil, Int.cast_ofNat_Int, Int.natCast_one, tgD_n, tgD_t, tgA_nil, tgA_cons, Option.bind_some, l_isSS, l_isST, l_isSL, l_isSI, l_isTT, l_isTS, l_isTL, l_isTI, l_isII, l_isBI, l_isLL, l_ord, okS_stt hs3, pick_eq, l_pow30]
  refine pick_ok hs3 (by simp) (by simp) fun x4 s4 hx4 hs4 => ?_
  have hat : At x4 := by
    simp only [List.mem_cons, List.not_mem_nil, or_false] at hx4
    rcases hx4 with rfl | rfl | rfl | rfl | rfl | rfl | rfl | rfl | rfl
    · exact .int _
    · exact .int _
    · exact .int _
    · exact .non
    · exact .bl
    · exact .int _
    · exact .str
    · exact .int _
    · exact .int _
  simp only [r_lft, r_var, r_own, r_c, r_bin, r_binO, r_cmp, r_tcmp, r_tcmpO, r_tru, r_tand, r_tor, r_tnot, r_eif, r_nif, r_and, r_or, r_not, r_neg, r_cb, r_ncb, r_bm, r_bm0, r_tup, r_lst, r_anil, r_acons, r_aone, r_vnil, r_vcons, r_vslot, r_sl, r_onone, r_osome, r_chain, r_tchain, r_isi, r_iany, r_rg1, r_rg2, r_yes, r_frz, r_call, r_F, r_sif, r_snil, r_pass, r_break, r_cont, r_no, r_ret, r_retN, r_retNone, r_drop, r_dropN, r_asg, r_asgN, r_aug, r_stup, r_app, r_ext, r_setix, r_for, r_retOwn, wE_nComp, wE_ok, wS_nx, wS_rt, wS_bk, wS_ct, wS_seq, wV_d, wV_l, wO_d, wO_l, wL_some, wL_ite, wL_map, cB_true, cB_false, cB_not, wZ_d, wZ_l, wTk_some, wT_some, wipeE, tk_nil, tk_v, tk_s, putA, mask, d1, d2, tyD, okS_d, okS_l, lOf, asI, Option.isSome_some, Option.getD_some, Option.map_some, List.getElem?_cons_zero, List.getElem?_cons_succ, List.set_cons_zero, List.set_cons_succ, List.replicate_succ, List.replicate_zero, List.cons_append, List.nil_append, List.not_mem_nil, List.mem_cons, or_false, not_false_eq_true, true_and, decide_true, if_true, if_false, Bool.false_eq_true, reduceIte, Nat.reduceEqDiff, Nat.reduceAdd, Nat.reduceSub, Nat.reduceLeDiff, Nat.reduceLT, Int.reduceLT, Int.reduceLE, Int.reduceAdd, Int.reduceSub, Int.reduceEq, Int.reduceNeg, Nat.reduceMul, decide_false, Bool.not_true, Bool.not_false, and_true, true_or, or_true, Int.reduceMul, Int.reduceToNat, Nat.reducePow, Int.reducePow, Nat.not_lt_zero, r_tix, r_gl, r_tixS, glOf, r_par2, r_par3, wP2_c, wP3_c, r_fld, r_fldP, r_fldA, r_meth, r_make, r_pop, wFl_d, wNo_none, wMk_ok, oFs_o, okS_o, List.map_cons, List.map_nil, false_or, l_addI, l_addS, l_addL, l_addT, l_sub, l_div, l_mod, l_mulI, l_mulS, l_mulL, l_eqI, l_eqS, l_neI, l_neS, l_ltI, l_leI, l_gtI, l_geI, l_ltS, l_leS, l_gtS, l_geS, l_truI, l_truB, l_truL, l_truT, l_truN, l_truS, l_lenS, l_lenL, l_lenT, l_intI, l_absI, l_tupL, l_tupT, l_itL, l_itT, l_itS, l_rg1, l_rg2, l_ixL, l_ixT, l_ixS, at_0, at_1, at_2, at_3, set_0, set_1, set_2, set_3, List.length_cons, List.length_nil, Int.cast_ofNat_Int, Int.natCast_one, tgD_n, tgD_t, tgA_nil, tgA_cons, Option.bind_some, l_isSS, l_isST, l_isSL, l_isSI, l_isTT, l_isTS, l_isTL, l_isTI, l_isII, l_isBI, l_isLL, l_ord, okS_stt hs4, draw_eq]
  refine draw_ok hs4 (by decide) (by decide) fun v s5 v0 v1 hs5 => ?_
  have hv : v = 0 ∨ v = 1 ∨ v = 2 := by omega
  rcases hv with rfl | rfl | rfl
  · simp only [r_lft, r_var, r_own, r_c, r_bin, r_binO, r_cmp, r_tcmp, r_tcmpO, r_tru, r_tand, r_tor, r_tnot, r_eif, r_nif, r_and, r_or, r_not, r_neg, r_cb, r_ncb, r_bm, r_bm0, r_tup, r_lst, r_anil, r_acons, r_aone, r_vnil, r_vcons, r_vslot, r_sl, r_onone, r_osome, r_chain, r_tchain, r_isi, r_iany, r_rg1, r_rg2, r_yes, r_frz, r_call, r_F, r_sif, r_snil, r_pass, r_break, r_cont, r_no, r_ret, r_retN, r_retNone, r_drop, r_dropN, r_asg, r_asgN, r_aug, r_stup, r_app, r_ext, r_setix, r_for, r_retOwn, wE_nComp, wE_ok, wS_nx, wS_rt, wS_bk, wS_ct, wS_seq, wV_d, wV_l, wO_d, wO_l, wL_some, wL_ite, wL_map, cB_true, cB_false, cB_not, wZ_d, wZ_l, wTk_some, wT_some, wipeE, tk_nil, tk_v, tk_s, putA, mask, d1, d2, tyD, okS_d, okS_l, lOf, asI, Option.isSome_some, Option.getD_some, Option.map_some, List.getElem?_cons_zero, List.getElem?_cons_succ, List.set_cons_zero, List.set_cons_succ, List.replicate_succ, List.replicate_zero, List.cons_append, List.nil_append, List.not_mem_nil, List.mem_cons, or_false, not_false_eq_true, true_and, decide_true, if_true, if_false, Bool.false_eq_true, reduceIte, Nat.reduceEqDiff, Nat.reduceAdd, Nat.reduceSub, Nat.reduceLeDiff, Nat.reduceLT, Int.reduceLT, Int.reduceLE, Int.reduceAdd, Int.reduceSub, Int.reduceEq, Int.reduceNeg, Nat.reduceMul, decide_false, Bool.not_true, Bool.not_false, and_true, true_or, or_true, Int.reduceMul, Int.reduceToNat, Nat.reducePow, Int.reducePow, Nat.not_lt_zero, r_tix, r_gl, r_tixS, glOf, r_par2, r_par3, wP2_c, wP3_c, r_fld, r_fldP, r_fldA, r_meth, r_make, r_pop, wFl_d, wNo_none, wMk_ok, oFs_o, okS_o, List.map_cons, List.map_nil, false_or, l_addI, l_addS, l_addL, l_addT, l_sub, l_div, l_mod, l_mulI, l_mulS, l_mulL, l_eqI, l_eqS, l_neI, l_neS, l_ltI, l_leI, l_gtI, l_geI, l_ltS, l_leS, l_gtS, l_geS, l_truI, l_truB, l_truL, l_truT, l_truN, l_truS, l_lenS, l_lenL, l_lenT, l_intI, l_absI, l_tupL, l_tupT, l_itL, l_itT, l_itS, l_rg1, l_rg2, l_ixL, l_ixT, l_ixS, at_0, at_1, at_2, at_3, set_0, set_1, set_2, set_3, List.length_cons, List.length_nil, Int.cast_ofNat_Int, Int.natCast_one, tgD_n, tgD_t, tgA_nil, tgA_cons, Option.bind_some, l_isSS, l_isST, l_isSL, l_isSI, l_isTT, l_isTS, l_isTL, l_isTI, l_isII, l_isBI, l_isLL, l_ord, isdate' hat (.int _) (.int _), lawisdate hat (.int _) (.int _), same_eq, sameB]
    exact k s5 _ hs5
  · simp only [r_lft, r_var, r_own, r_c, r_bin, r_binO, r_cmp, r_tcmp, r_tcmpO, r_tru, r_tand, r_tor, r_tnot, r_eif, r_nif, r_and, r_or, r_not, r_neg, r_cb, r_ncb, r_bm, r_bm0, r_tup, r_lst, r_anil, r_acons, r_aone, r_vnil, r_vcons, r_vslot, r_sl, r_onone, r_osome, r_chain, r_tchain, r_isi, r_iany, r_rg1, r_rg2, r_yes, r_frz, r_call, r_F, r_sif, r_snil, r_pass, r_break, r_cont, r_no, r_ret, r_retN, r_retNone, r_drop, r_dropN, r_asg, r_asgN, r_aug, r_stup, r_app, r_ext, r_setix, r_for, r_retOwn, wE_nComp, wE_ok, wS_nx, wS_rt, wS_bk, wS_ct, wS_seq, wV_d, wV_l, wO_d, wO_l, wL_some, wL_ite, wL_map, cB_true, cB_false, cB_not, wZ_d, wZ_l, wTk_some, wT_some, wipeE, tk_nil, tk_v, tk_s, putA, mask, d1, d2, tyD, okS_d, okS_l, lOf, asI, Option.isSome_some, Option.getD_some, Option.map_some, List.getElem?_cons_zero, List.getElem?_cons_succ, List.set_cons_zero, List.set_cons_succ, List.replicate_succ, List.replicate_zero, List.cons_append, List.nil_append, List.not_mem_nil, List.mem_cons, or_false, not_false_eq_true, true_and, decide_true, if_true, if_false, Bool.false_eq_true, reduceIte, Nat.reduceEqDiff, Nat.reduceAdd, Nat.reduceSub, Nat.reduceLeDiff, Nat.reduceLT, Int.reduceLT, Int.reduceLE, Int.reduceAdd, Int.reduceSub, Int.reduceEq, Int.reduceNeg, Nat.reduceMul, decide_false, Bool.not_true, Bool.not_false, and_true, true_or, or_true, Int.reduceMul, Int.reduceToNat, Nat.reducePow, Int.reducePow, Nat.not_lt_zero, r_tix, r_gl, r_tixS, glOf, r_par2, r_par3, wP2_c, wP3_c, r_fld, r_fldP, r_fldA, r_meth, r_make, r_pop, wFl_d, wNo_none, wMk_ok, oFs_o, okS_o, List.map_cons, List.map_nil, false_or, l_addI, l_addS, l_addL, l_addT, l_sub, l_div, l_mod, l_mulI, l_mulS, l_mulL, l_eqI, l_eqS, l_neI, l_neS, l_ltI, l_leI, l_gtI, l_geI, l_ltS, l_leS, l_gtS, l_geS, l_truI, l_truB, l_truL, l_truT, l_truN, l_truS, l_lenS, l_lenL, l_lenT, l_intI, l_absI, l_tupL, l_tupT, l_itL, l_itT, l_itS, l_rg1, l_rg2, l_ixL, l_ixT, l_ixS, at_0, at_1, at_2, at_3, set_0, set_1, set_2, set_3, List.length_cons, List.length_nil, Int.cast_ofNat_Int, Int.natCast_one, tgD_n, tgD_t, tgA_nil, tgA_cons, Option.bind_some, l_isSS, l_isST, l_isSL, l_isSI, l_isTT, l_isTS, l_isTL, l_isTI, l_isII, l_isBI, l_isLL, l_ord, isdate' (.int _) hat (.int _), lawisdate (.int _) hat (.int _), same_eq, sameB]
    exact k s5 _ hs5
  · simp only [r_lft, r_var, r_own, r_c, r_bin, r_binO, r_cmp, r_tcmp, r_tcmpO, r_tru, r_tand, r_tor, r_tnot, r_eif, r_nif, r_and, r_or, r_not, r_neg, r_cb, r_ncb, r_bm, r_bm0, r_tup, r_lst, r_anil, r_acons, r_aone, r_vnil, r_vcons, r_vslot, r_sl, r_onone, r_osome, r_chain, r_tchain, r_isi, r_iany, r_rg1, r_rg2, r_yes, r_frz, r_call, r_F, r_sif, r_snil, r_pass, r_break, r_cont, r_no, r_ret, r_retN, r_retNone, r_drop, r_dropN, r_asg, r_asgN, r_aug, r_stup, r_app, r_ext, r_setix, r_for, r_retOwn, wE_nComp, wE_ok, wS_nx, wS_rt, wS_bk, wS_ct, wS_seq, wV_d, wV_l, wO_d, wO_l, wL_some, wL_ite, wL_map, cB_true, cB_false, cB_not, wZ_d, wZ_l, wTk_some, wT_some, wipeE, tk_nil, tk_v, tk_s, putA, mask, d1, d2, tyD, okS_d, okS_l, lOf, asI, Option.isSome_some, Option.getD_some, Option.map_some, List.getElem?_cons_zero, List.getElem?_cons_succ, List.set_cons_zero, List.set_cons_succ, List.replicate_succ, List.replicate_zero, List.cons_append, List.nil_append, List.not_mem_nil, List.mem_cons, or_false, not_false_eq_true, true_and, decide_true, if_true, if_false, Bool.false_eq_true, reduceIte, Nat.reduceEqDiff, Nat.reduceAdd, Nat.reduceSub, Nat.reduceLeDiff, Nat.reduceLT, Int.reduceLT, Int.reduceLE, Int.reduceAdd, Int.reduceSub, Int.reduceEq, Int.reduceNeg, Nat.reduceMul, decide_false, Bool.not_true, Bool.not_false, and_true, true_or, or_true, Int.reduceMul, Int.reduceToNat, Nat.reducePow, Int.reducePow, Nat.not_lt_zero, r_tix, r_gl, r_tixS, glOf, r_par2, r_par3, wP2_c, wP3_c, r_fld, r_fldP, r_fldA, r_meth, r_make, r_pop, wFl_d, wNo_none, wMk_ok, oFs_o, okS_o, List.map_cons, List.map_nil, false_or, l_addI, l_addS, l_addL, l_addT, l_sub, l_div, l_mod, l_mulI, l_mulS, l_mulL, l_eqI, l_eqS, l_neI, l_neS, l_ltI, l_leI, l_gtI, l_geI, l_ltS, l_leS, l_gtS, l_geS, l_truI, l_truB, l_truL, l_truT, l_truN, l_truS, l_lenS, l_lenL, l_lenT, l_intI, l_absI, l_tupL, l_tupT, l_itL, l_itT, l_itS, l_rg1, l_rg2, l_ixL, l_ixT, l_ixS, at_0, at_1, at_2, at_3, set_0, set_1, set_2, set_3, List.length_cons, List.length_nil, Int.cast_ofNat_Int, Int.natCast_one, tgD_n, tgD_t, tgA_nil, tgA_cons, Option.bind_some, l_isSS, l_isST, l_isSL, l_isSI, l_isTT, l_isTS, l_isTL, l_isTI, l_isII, l_isBI, l_isLL, l_ord, isdate' (.int _) (.int _) hat, lawisdate (.int _) (.int _) hat, same_eq, sameB]
    exact k s5 _ hs5
theorem lawnames : m__law_names [] = .ok (.l [PyData.str (Str.ofString "Mon"), PyData.str (Str.ofString "Tue"), PyData.str (Str.ofString "Wed"), PyData.str (Str.ofString "Thu"), PyData.str (Str.ofString "Fri"), PyData.str (Str.ofString "Sat"), PyData.str (Str.ofString "Sun")]) [] := by rfl
theorem rest2_ok (hs : Stt s) (h : Ok y m d) {q3 : Sl} (k : ∀ s' q4 q5, Stt s' → wS (dRest3 [s', .d (.tuple [.int y, .int m, .int d]), .d (.int (num y m d)), q3, q4, q5, .un, .un, .un, .un]) N R B C) :
    wS (dRest2 [s, .d (.tuple [.int y, .int m, .int d]), .d (.int (num y m d)), q3, .un, .un, .un, .un, .un, .un]) N R B C := by
  have n0 := num_lo h
  have n1 := num_hi h
  rw [rest2_eq]
  simp only [r_lft, r_var, r_own, r_c, r_bin, r_binO, r_cmp, r_tcmp, r_tcmpO, r_tru, r_tand, r_tor, r_tnot, r_eif, r_nif, r_and, r_or, r_not, r_neg, r_cb, r_ncb, r_bm, r_bm0, r_tup, r_lst, r_anil, r_acons, r_aone, r_vnil, r_vcons, r_vslot, r_sl, r_onone, r_osome, r_chain, r_tchain, r_isi, r_iany, r_rg1, r_rg2, r_yes, r_frz, r_call, r_F, r_sif, r_snil, r_pass, r_break, r_cont, r_no, r_ret, r_retN, r_retNone, r_drop, r_dropN, r_asg, r_asgN, r_aug, r_stup, r_app, r_ext, r_setix, r_for, r_retOwn, wE_nComp, wE_ok, wS_nx, wS_rt, wS_bk, wS_ct, wS_seq, wV_d, wV_l, wO_d, wO_l, wL_some, wL_ite, wL_map, cB_true, cB_false, cB_not, wZ_d, wZ_l, wTk_some, wT_some, wipeE, tk_nil, tk_v, tk_s, putA, mask, d1, d2, tyD, okS_d, okS_l, lOf, asI, Option.isSome_some, Option.getD_some, Option.map_some, List.getElem?_cons_zero, List.getElem?_cons_succ, List.set_cons_zero, List.set_cons_succ, List.replicate_succ, List.replicate_zero, List.cons_append, List.nil_append, List.not_mem_nil, List.mem_cons, or_false, not_false_eq_true, true_and, decide_true, if_true, if_false, Bool.false_eq_true, reduceIte, Nat.reduceEqDiff, Nat.reduceAdd, Nat.reduceSub, Nat.reduceLeDiff, Nat.reduceLT, Int.reduceLT, Int.reduceLE, Int.reduceAdd, Int.reduceSub, Int.reduceEq, Int.reduceNeg, Nat.reduceMul, decide_false, Bool.not_true, Bool.not_false, and_true, true_or, or_true, Int.reduceMul, Int.reduceToNat, Nat.reducePow, Int.reducePow, Nat.not_lt_zero, r_tix, r_gl, r_tixS, glOf, r_par2, r_par3, wP2_c, wP3_c, r_fld, r_fldP, r_fldA, r_meth, r_make, r_pop, wFl_d, wNo_none, wMk_ok, oFs_o, okS_o, List.map_cons, List.map_nil, false_or, l_addI, l_addS, l_addL, l_addT, l_sub, l_div, l_mod, l_mulI, l_mulS, l_mulL, l_eqI, l_eqS, l_neI, l_neS, l_ltI, l_leI, l_gtI, l_geI, l_ltS, l_leS, l_gtS, l_geS, l_truI, l_truB, l_truL, l_truT, l_truN, l_truS, l_lenS, l_lenL, l_lenT, l_intI, l_absI, l_tupL, l_tupT, l_itL, l_itT, l_itS, l_rg1, l_rg2, l_ixL, l_ixT, l_ixS, at_0, at_1, at_2, at_3, set_0, set_1, set_2, set_3, List.length_cons, List.length_nil, Int.cast_ofNat_Int, Int.natCast_one, tgD_n, tgD_t, tgA_nil, tgA_cons, Option.bind_some, l_isSS, l_isST, l_isSL, l_isSI, l_isTT, l_isTS, l_isTL, l_isTI, l_isII, l_isBI, l_isLL, l_ord, okS_stt hs, draw_eq]
  refine draw_ok hs (by decide) (by decide) fun w s1 w0 w1 hs1 => ?_
  simp only [r_lft, r_var, r_own, r_c, r_bin, r_binO, r_cmp, r_tcmp, r_tcmpO, r_tru, r_tand, r_tor, r_tnot, r_eif, r_nif, r_and, r_or, r_not, r_neg, r_cb, r_ncb, r_bm, r_bm0, r_tup, r_lst, r_anil, r_acons, r_aone, r_vnil, r_vcons, r_vslot, r_sl, r_onone, r_osome, r_chain, r_tchain, r_isi, r_iany, r_rg1, r_rg2, r_yes, r_frz, r_call, r_F, r_sif, r_snil, r_pass, r_break, r_cont, r_no, r_ret, r_retN, r_retNone, r_drop, r_dropN, r_asg, r_asgN, r_aug, r_stup, r_app, r_ext, r_setix, r_for, r_retOwn, wE_nComp, wE_ok, wS_nx, wS_rt, wS_bk, wS_ct, wS_seq, wV_d, wV_l, wO_d, wO_l, wL_some, wL_ite, wL_map, cB_true, cB_false, cB_not, wZ_d, wZ_l, wTk_some, wT_some, wipeE, tk_nil, tk_v, tk_s, putA, mask, d1, d2, tyD, okS_d, okS_l, lOf, asI, Option.isSome_some, Option.getD_some, Option.map_some, List.getElem?_cons_zero, List.getElem?_cons_succ, List.set_cons_zero, List.set_cons_succ, List.replicate_succ, List.replicate_zero, List.cons_append, List.nil_append, List.not_mem_nil, List.mem_cons, or_false, not_false_eq_true, true_and, decide_true, if_true, if_false, Bool.false_eq_true, reduceIte, Nat.reduceEqDiff, Nat.reduceAdd, Nat.reduceSub, Nat.reduceLeDiff, Nat.reduceLT, Int.reduceLT, Int.reduceLE, Int.reduceAdd, Int.reduceSub, Int.reduceEq, Int.reduceNeg, Nat.reduceMul, decide_false, Bool.not_true, Bool.not_false, and_true, true_or, or_true, Int.reduceMul, Int.reduceToNat, Nat.reducePow, Int.reducePow, Nat.not_lt_zero, r_tix, r_gl, r_tixS, glOf, r_par2, r_par3, wP2_c, wP3_c, r_fld, r_fldP, r_fldA, r_meth, r_make, r_pop, wFl_d, wNo_none, wMk_ok, oFs_o, okS_o, List.map_cons, List.map_nil, false_or, l_addI, l_addS, l_addL, l_addT, l_sub, l_div, l_mod, l_mulI, l_mulS, l_mulL, l_eqI, l_eqS, l_neI, l_neS, l_ltI, l_leI, l_gtI, l_geI, l_ltS, l_leS, l_gtS, l_geS, l_truI, l_truB, l_truL, l_truT, l_truN, l_truS, l_lenS, l_lenL, l_lenT, l_intI, l_absI, l_tupL, l_tupT, l_itL, l_itT, l_itS, l_rg1, l_rg2, l_ixL, l_ixT, l_ixS, at_0, at_1, at_2, at_3, set_0, set_1, set_2, set_3, List.length_cons, List.length_nil, Int.cast_ofNat_Int, Int.natCast_one, tgD_n, tgD_t, tgA_nil, tgA_cons, Option.bind_some, l_isSS, l_isST, l_isSL, l_isSI, l_isTT, l_isTS, l_isTL, l_isTI, l_isII, l_isBI, l_isLL, l_ord, okS_stt hs1]
  refine cB_dec (fun hle => ?_) fun hle => ?_
  · obtain ⟨nm, _, a1, _⟩ := wk_at w0 w1
    have q1 := sameI (i := num y m d + (w - num y m d - 3) % 7) (by omega) (by omega)
    simp only [r_lft, r_var, r_own, r_c, r_bin, r_binO, r_cmp, r_tcmp, r_tcmpO, r_tru, r_tand, r_tor, r_tnot, r_eif, r_nif, r_and, r_or, r_not, r_neg, r_cb, r_ncb, r_bm, r_bm0, r_tup, r_lst, r_anil, r_acons, r_aone, r_vnil, r_vcons, r_vslot, r_sl, r_onone, r_osome, r_chain, r_tchain, r_isi, r_iany, r_rg1, r_rg2, r_yes, r_frz, r_call, r_F, r_sif, r_snil, r_pass, r_break, r_cont, r_no, r_ret, r_retN, r_retNone, r_drop, r_dropN, r_asg, r_asgN, r_aug, r_stup, r_app, r_ext, r_setix, r_for, r_retOwn, wE_nComp, wE_ok, wS_nx, wS_rt, wS_bk, wS_ct, wS_seq, wV_d, wV_l, wO_d, wO_l, wL_some, wL_ite, wL_map, cB_true, cB_false, cB_not, wZ_d, wZ_l, wTk_some, wT_some, wipeE, tk_nil, tk_v, tk_s, putA, mask, d1, d2, tyD, okS_d, okS_l, lOf, asI, Option.isSome_some, Option.getD_some, Option.map_some, List.getElem?_cons_zero, List.getElem?_cons_succ, List.set_cons_zero, List.set_cons_succ, List.replicate_succ, List.replicate_zero, List.cons_append, List.nil_append, List.not_mem_nil, List.mem_cons, or_false, not_false_eq_true, true_and, decide_true, if_true, if_false, Bool.false_eq_true, reduceIte, Nat.reduceEqDiff, Nat.reduceAdd, Nat.reduceSub, Nat.reduceLeDiff, Nat.reduceLT, Int.reduceLT, Int.reduceLE, Int.reduceAdd, Int.reduceSub, Int.reduceEq, Int.reduceNeg, Nat.reduceMul, decide_false, Bool.not_true, Bool.not_false, and_true, true_or, or_true, Int.reduceMul, Int.reduceToNat, Nat.reducePow, Int.reducePow, Nat.not_lt_zero, r_tix, r_gl, r_tixS, glOf, r_par2, r_par3, wP2_c, wP3_c, r_fld, r_fldP, r_fldA, r_meth, r_make, r_pop, wFl_d, wNo_none, wMk_ok, oFs_o, okS_o, List.map_cons, List.map_nil, false_or, l_addI, l_addS, l_addL, l_addT, l_sub, l_div, l_mod, l_mulI, l_mulS, l_mulL, l_eqI, l_eqS, l_neI, l_neS, l_ltI, l_leI, l_gtI, l_geI, l_ltS, l_leS, l_gtS, l_geS, l_truI, l_truB, l_truL, l_truT, l_truN, l_truS, l_lenS, l_lenL, l_lenT, l_intI, l_absI, l_tupL, l_tupT, l_itL, l_itT, l_itS, l_rg1, l_rg2, l_ixL, l_ixT, l_ixS, at_0, at_1, at_2, at_3, set_0, set_1, set_2, set_3, List.length_cons, List.length_nil, Int.cast_ofNat_Int, Int.natCast_one, tgD_n, tgD_t, tgA_nil, tgA_cons, Option.bind_some, l_isSS, l_isST, l_isSL, l_isSI, l_isTT, l_isTS, l_isTL, l_isTI, l_isII, l_isBI, l_isLL, l_ord, lawnames, a1, nextwd n0 n1 w0 w1 (by omega) a1, same_eq, q1]
    exact k s1 _ _ hs1
  · (try simp only [r_lft, r_var, r_own, r_c, r_bin, r_binO, r_cmp, r_tcmp, r_tcmpO, r_tru, r_tand, r_tor, r_tnot, r_eif, r_nif, r_and, r_or, r_not, r_neg, r_cb, r_ncb, r_bm, r_bm0, r_tup, r_lst, r_anil, r_acons, r_aone, r_vnil, r_vcons, r_vslot, r_sl, r_onone, r_osome, r_chain, r_tchain, r_isi, r_iany, r_rg1, r_rg2, r_yes, r_frz, r_call, r_F, r_sif, r_snil, r_pass, r_break, r_cont, r_no, r_ret, r_retN, r_retNone, r_drop, r_dropN, r_asg, r_asgN, r_aug, r_stup, r_app, r_ext, r_setix, r_for, r_retOwn, wE_nComp, wE_ok, wS_nx, wS_rt, wS_bk, wS_ct, wS_seq, wV_d, wV_l, wO_d, wO_l, wL_some, wL_ite, wL_map, cB_true, cB_false, cB_not, wZ_d, wZ_l, wTk_some, wT_some, wipeE, tk_nil, tk_v, tk_s, putA, mask, d1, d2, tyD, okS_d, okS_l, lOf, asI, Option.isSome_some, Option.getD_some, Option.map_some, List.getElem?_cons_zero, List.getElem?_cons_succ, List.set_cons_zero, List.set_cons_succ, List.replicate_succ, List.replicate_zero, List.cons_append, List.nil_append, List.not_mem_nil, List.mem_cons, or_false, not_false_eq_true, true_and, decide_true, if_true, if_false, Bool.false_eq_true, reduceIte, Nat.reduceEqDiff, Nat.reduceAdd, Nat.reduceSub, Nat.reduceLeDiff, Nat.reduceLT, Int.reduceLT, Int.reduceLE, Int.reduceAdd, Int.reduceSub, Int.reduceEq, Int.reduceNeg, Nat.reduceMul, decide_false, Bool.not_true, Bool.not_false, and_true, true_or, or_true, Int.reduceMul, Int.reduceToNat, Nat.reducePow, Int.reducePow, Nat.not_lt_zero, r_tix, r_gl, r_tixS, glOf, r_par2, r_par3, wP2_c, wP3_c, r_fld, r_fldP, r_fldA, r_meth, r_make, r_pop, wFl_d, wNo_none, wMk_ok, oFs_o, okS_o, List.map_cons, List.map_nil, false_or, l_addI, l_addS, l_addL, l_addT, l_sub, l_div, l_mod, l_mulI, l_mulS, l_mulL, l_eqI, l_eqS, l_neI, l_neS, l_ltI, l_leI, l_gtI, l_geI, l_ltS, l_leS, l_gtS, l_geS, l_truI, l_truB, l_truL, l_truT, l_truN, l_truS, l_lenS, l_lenL, l_lenT, l_intI, l_absI, l_tupL, l_tupT, l_itL, l_itT, l_itS, l_rg1, l_rg2, l_ixL, l_ixT, l_ixS, at_0, at_1, at_2, at_3, set_0, set_1, set_2, set_3, List.length_cons, List.length_nil, Int.cast_ofNat_Int, Int.natCast_one, tgD_n, tgD_t, tgA_nil, tgA_cons, Option.bind_some, l_isSS, l_isST, l_isSL, l_isSI, l_isTT, l_isTS, l_isTL, l_isTI, l_isII, l_isBI, l_isLL, l_ord])
    exact k s1 _ _ hs1
theorem l_isn {x : D} : dIsNB x .none = some (!isN x) := rfl
theorem rest3_ok (hs : Stt s) (h : Ok y m d) {q3 q4 q5 : Sl} (k : ∀ s' q6 q7, Stt s' → wS (dRest4 [s', .d (.tuple [.int y, .int m, .int d]), .d (.int (num y m d)), q3, q4, q5, q6, q7, .un, .un]) N R B C) :
    wS (dRest3 [s, .d (.tuple [.int y, .int m, .int d]), .d (.int (num y m d)), q3, q4, q5, .un, .un, .un, .un]) N R B C := by
  rw [rest3_eq]
  simp only [r_lft, r_var, r_own, r_c, r_bin, r_binO, r_cmp, r_tcmp, r_tcmpO, r_tru, r_tand, r_tor, r_tnot, r_eif, r_nif, r_and, r_or, r_not, r_neg, r_cb, r_ncb, r_bm, r_bm0, r_tup, r_lst, r_anil, r_acons, r_aone, r_vnil, r_vcons, r_vslot, r_sl, r_onone, r_osome, r_chain, r_tchain, r_isi, r_iany, r_rg1, r_rg2, r_yes, r_frz, r_call, r_F, r_sif, r_snil, r_pass, r_break, r_cont, r_no, r_ret, r_retN, r_retNone, r_drop, r_dropN, r_asg, r_asgN, r_aug, r_stup, r_app, r_ext, r_setix, r_for, r_retOwn, wE_nComp, wE_ok, wS_nx, wS_rt, wS_bk, wS_ct, wS_seq, wV_d, wV_l, wO_d, wO_l, wL_some, wL_ite, wL_map, cB_true, cB_false, cB_not, wZ_d, wZ_l, wTk_some, wT_some, wipeE, tk_nil, tk_v, tk_s, putA, mask, d1, d2, tyD, okS_d, okS_l, lOf, asI, Option.isSome_some, Option.getD_some, Option.map_some, List.getElem?_cons_zero, List.getElem?_cons_succ, List.set_cons_zero, List.set_cons_succ, List.replicate_succ, List.replicate_zero, List.cons_append, List.nil_append, List.not_mem_nil, List.mem_cons, or_false, not_false_eq_true, true_and, decide_true, if_true, if_false, Bool.false_eq_true, reduceIte, Nat.reduceEqDiff, Nat.reduceAdd, Nat.reduceSub, Nat.reduceLeDiff, Nat.reduceLT, Int.reduceLT, Int.reduceLE, Int.reduceAdd, Int.reduceSub, Int.reduceEq, Int.reduceNeg, Nat.reduceMul, decide_false, Bool.not_true, Bool.not_false, and_true, true_or, or_true, Int.reduceMul, Int.reduceToNat, Nat.reducePow, Int.reducePow, Nat.not_lt_zero, r_tix, r_gl, r_tixS, glOf, r_par2, r_par3, wP2_c, wP3_c, r_fld, r_fldP, r_fldA, r_meth, r_make, r_pop, wFl_d, wNo_none, wMk_ok, oFs_o, okS_o, List.map_cons, List.map_nil, false_or, l_addI, l_addS, l_addL, l_addT, l_sub, l_div, l_mod, l_mulI, l_mulS, l_mulL, l_eqI, l_eqS, l_neI, l_neS, l_ltI, l_leI, l_gtI, l_geI, l_ltS, l_leS, l_gtS, l_geS, l_truI, l_truB, l_truL, l_truT, l_truN, l_truS, l_lenS, l_lenL, l_lenT, l_intI, l_absI, l_tupL, l_tupT, l_itL, l_itT, l_itS, l_rg1, l_rg2, l_ixL, l_ixT, l_ixS, at_0, at_1, at_2, at_3, set_0, set_1, set_2, set_3, List.length_cons, List.length_nil, Int.cast_ofNat_Int, Int.natCast_one, tgD_n, tgD_t, tgA_nil, tgA_cons, Option.bind_some, l_isSS, l_isST, l_isSL, l_isSI, l_isTT, l_isTS, l_isTL, l_isTI, l_isII, l_isBI, l_isLL, l_ord, okS_stt hs, draw_eq]
  refine draw_ok hs (by decide) (by decide) fun w s1 w0 w1 hs1 => ?_
  simp only [r_lft, r_var, r_own, r_c, r_bin, r_binO, r_cmp, r_tcmp, r_tcmpO, r_tru, r_tand, r_tor, r_tnot, r_eif, r_nif, r_and, r_or, r_not, r_neg, r_cb, r_ncb, r_bm, r_bm0, r_tup, r_lst, r_anil, r_acons, r_aone, r_vnil, r_vcons, r_vslot, r_sl, r_onone, r_osome, r_chain, r_tchain, r_isi, r_iany, r_rg1, r_rg2, r_yes, r_frz, r_call, r_F, r_sif, r_snil, r_pass, r_break, r_cont, r_no, r_ret, r_retN, r_retNone, r_drop, r_dropN, r_asg, r_asgN, r_aug, r_stup, r_app, r_ext, r_setix, r_for, r_retOwn, wE_nComp, wE_ok, wS_nx, wS_rt, wS_bk, wS_ct, wS_seq, wV_d, wV_l, wO_d, wO_l, wL_some, wL_ite, wL_map, cB_true, cB_false, cB_not, wZ_d, wZ_l, wTk_some, wT_some, wipeE, tk_nil, tk_v, tk_s, putA, mask, d1, d2, tyD, okS_d, okS_l, lOf, asI, Option.isSome_some, Option.getD_some, Option.map_some, List.getElem?_cons_zero, List.getElem?_cons_succ, List.set_cons_zero, List.set_cons_succ, List.replicate_succ, List.replicate_zero, List.cons_append, List.nil_append, List.not_mem_nil, List.mem_cons, or_false, not_false_eq_true, true_and, decide_true, if_true, if_false, Bool.false_eq_true, reduceIte, Nat.reduceEqDiff, Nat.reduceAdd, Nat.reduceSub, Nat.reduceLeDiff, Nat.reduceLT, Int.reduceLT, Int.reduceLE, Int.reduceAdd, Int.reduceSub, Int.reduceEq, Int.reduceNeg, Nat.reduceMul, decide_false, Bool.not_true, Bool.not_false, and_true, true_or, or_true, Int.reduceMul, Int.reduceToNat, Nat.reducePow, Int.reducePow, Nat.not_lt_zero, r_tix, r_gl, r_tixS, glOf, r_par2, r_par3, wP2_c, wP3_c, r_fld, r_fldP, r_fldA, r_meth, r_make, r_pop, wFl_d, wNo_none, wMk_ok, oFs_o, okS_o, List.map_cons, List.map_nil, false_or, l_addI, l_addS, l_addL, l_addT, l_sub, l_div, l_mod, l_mulI, l_mulS, l_mulL, l_eqI, l_eqS, l_neI, l_neS, l_ltI, l_leI, l_gtI, l_geI, l_ltS, l_leS, l_gtS, l_geS, l_truI, l_truB, l_truL, l_truT, l_truN, l_truS, l_lenS, l_lenL, l_lenT, l_intI, l_absI, l_tupL, l_tupT, l_itL, l_itT, l_itS, l_rg1, l_rg2, l_ixL, l_ixT, l_ixS, at_0, at_1, at_2, at_3, set_0, set_1, set_2, set_3, List.length_cons, List.length_nil, Int.cast_ofNat_Int, Int.natCast_one, tgD_n, tgD_t, tgA_nil, tgA_cons, Option.bind_some, l_isSS, l_isST, l_isSL, l_isSI, l_isTT, l_isTS, l_isTL, l_isTI, l_isII, l_isBI, l_isLL, l_ord, okS_stt hs1, pick_eq]
  refine pick_ok hs1 (by simp) (by simp) fun x s2 hx hs2 => ?_
  obtain ⟨i, rfl, i0, i1⟩ : ∃ i : Int, x = .int i ∧ -119988 ≤ i ∧ i ≤ 119988 := by
    simp only [List.mem_cons, List.not_mem_nil, or_false] at hx
    rcases hx with rfl | rfl | rfl | rfl | rfl | rfl | rfl | rfl <;> exact ⟨_, rfl, by omega, by omega⟩
  simp only [r_lft, r_var, r_own, r_c, r_bin, r_binO, r_cmp, r_tcmp, r_tcmpO, r_tru, r_tand, r_tor, r_tnot, r_eif, r_nif, r_and, r_or, r_not, r_neg, r_cb, r_ncb, r_bm, r_bm0, r_tup, r_lst, r_anil, r_acons, r_aone, r_vnil, r_vcons, r_vslot, r_sl, r_onone, r_osome, r_chain, r_tchain, r_isi, r_iany, r_rg1, r_rg2, r_yes, r_frz, r_call, r_F, r_sif, r_snil, r_pass, r_break, r_cont, r_no, r_ret, r_retN, r_retNone, r_drop, r_dropN, r_asg, r_asgN, r_aug, r_stup, r_app, r_ext, r_setix, r_for, r_retOwn, wE_nComp, wE_ok, wS_nx, wS_rt, wS_bk, wS_ct, wS_seq, wV_d, wV_l, wO_d, wO_l, wL_some, wL_ite, wL_map, cB_true, cB_false, cB_not, wZ_d, wZ_l, wTk_some, wT_some, wipeE, tk_nil, tk_v, tk_s, putA, mask, d1, d2, tyD, okS_d, okS_l, lOf, asI, Option.isSome_some, Option.getD_some, Option.map_some, List.getElem?_cons_zero, List.getElem?_cons_succ, List.set_cons_zero, List.set_cons_succ, List.replicate_succ, List.replicate_zero, List.cons_append, List.nil_append, List.not_mem_nil, List.mem_cons, or_false, not_false_eq_true, true_and, decide_true, if_true, if_false, Bool.false_eq_true, reduceIte, Nat.reduceEqDiff, Nat.reduceAdd, Nat.reduceSub, Nat.reduceLeDiff, Nat.reduceLT, Int.reduceLT, Int.reduceLE, Int.reduceAdd, Int.reduceSub, Int.reduceEq, Int.reduceNeg, Nat.reduceMul, decide_false, Bool.not_true, Bool.not_false, and_true, true_or, or_true, Int.reduceMul, Int.reduceToNat, Nat.reducePow, Int.reducePow, Nat.not_lt_zero, r_tix, r_gl, r_tixS, glOf, r_par2, r_par3, wP2_c, wP3_c, r_fld, r_fldP, r_fldA, r_meth, r_make, r_pop, wFl_d, wNo_none, wMk_ok, oFs_o, okS_o, List.map_cons, List.map_nil, false_or, l_addI, l_addS, l_addL, l_addT, l_sub, l_div, l_mod, l_mulI, l_mulS, l_mulL, l_eqI, l_eqS, l_neI, l_neS, l_ltI, l_leI, l_gtI, l_geI, l_ltS, l_leS, l_gtS, l_geS, l_truI, l_truB, l_truL, l_truT, l_truN, l_truS, l_lenS, l_lenL, l_lenT, l_intI, l_absI, l_tupL, l_tupT, l_itL, l_itT, l_itS, l_rg1, l_rg2, l_ixL, l_ixT, l_ixS, at_0, at_1, at_2, at_3, set_0, set_1, set_2, set_3, List.length_cons, List.length_nil, Int.cast_ofNat_Int, Int.natCast_one, tgD_n, tgD_t, tgA_nil, tgA_cons, Option.bind_some, l_isSS, l_isST, l_isSL, l_isSI, l_isTT, l_isTS, l_isTL, l_isTI, l_isII, l_isBI, l_isLL, l_ord, lawmoved]
  by_cases hc : 1 ≤ pl y m i / 12 ∧ pl y m i / 12 ≤ 9999
  · have hm : 1 ≤ pl y m i % 12 + 1 ∧ pl y m i % 12 + 1 ≤ 12 := by omega
    have ha := addmonths h i0 i1 (by omega) (by omega)
    have hn := lawnumber (y := pl y m i / 12) (m := pl y m i % 12 + 1) (d := min d (len (pl y m i / 12) (pl y m i % 12 + 1))) (by omega) (by omega) hm.1 hm.2
    have l0 := len_lo (pl y m i / 12) (pl y m i % 12 + 1)
    have ho : Ok (pl y m i / 12) (pl y m i % 12 + 1) (min d (len (pl y m i / 12) (pl y m i % 12 + 1))) := ⟨hc.1, hc.2, hm.1, hm.2, by have := h.2.2.2.2.1; omega, by omega⟩
    have q1 := sameI (i := num (pl y m i / 12) (pl y m i % 12 + 1) (min d (len (pl y m i / 12) (pl y m i % 12 + 1)))) (by have := num_lo ho; omega) (by have := num_hi ho; omega)
    simp only [if_pos hc, l_isn, isN, r_lft, r_var, r_own, r_c, r_bin, r_binO, r_cmp, r_tcmp, r_tcmpO, r_tru, r_tand, r_tor, r_tnot, r_eif, r_nif, r_and, r_or, r_not, r_neg, r_cb, r_ncb, r_bm, r_bm0, r_tup, r_lst, r_anil, r_acons, r_aone, r_vnil, r_vcons, r_vslot, r_sl, r_onone, r_osome, r_chain, r_tchain, r_isi, r_iany, r_rg1, r_rg2, r_yes, r_frz, r_call, r_F, r_sif, r_snil, r_pass, r_break, r_cont, r_no, r_ret, r_retN, r_retNone, r_drop, r_dropN, r_asg, r_asgN, r_aug, r_stup, r_app, r_ext, r_setix, r_for, r_retOwn, wE_nComp, wE_ok, wS_nx, wS_rt, wS_bk, wS_ct, wS_seq, wV_d, wV_l, wO_d, wO_l, wL_some, wL_ite, wL_map, cB_true, cB_false, cB_not, wZ_d, wZ_l, wTk_some, wT_some, wipeE, tk_nil, tk_v, tk_s, putA, mask, d1, d2, tyD, okS_d, okS_l, lOf, asI, Option.isSome_some, Option.getD_some, Option.map_some, List.getElem?_cons_zero, List.getElem?_cons_succ, List.set_cons_zero, List.set_cons_succ, List.replicate_succ, List.replicate_zero, List.cons_append, List.nil_append, List.not_mem_nil, List.mem_cons, or_false, not_false_eq_true, true_and, decide_true, if_true, if_false, Bool.false_eq_true, reduceIte, Nat.reduceEqDiff, Nat.reduceAdd, Nat.reduceSub, Nat.reduceLeDiff, Nat.reduceLT, Int.reduceLT, Int.reduceLE, Int.reduceAdd, Int.reduceSub, Int.reduceEq, Int.reduceNeg, Nat.reduceMul, decide_false, Bool.not_true, Bool.not_false, and_true, true_or, or_true, Int.reduceMul, Int.reduceToNat, Nat.reducePow, Int.reducePow, Nat.not_lt_zero, r_tix, r_gl, r_tixS, glOf, r_par2, r_par3, wP2_c, wP3_c, r_fld, r_fldP, r_fldA, r_meth, r_make, r_pop, wFl_d, wNo_none, wMk_ok, oFs_o, okS_o, List.map_cons, List.map_nil, false_or, l_addI, l_addS, l_addL, l_addT, l_sub, l_div, l_mod, l_mulI, l_mulS, l_mulL, l_eqI, l_eqS, l_neI, l_neS, l_ltI, l_leI, l_gtI, l_geI, l_ltS, l_leS, l_gtS, l_geS, l_truI, l_truB, l_truL, l_truT, l_truN, l_truS, l_lenS, l_lenL, l_lenT, l_intI, l_absI, l_tupL, l_tupT, l_itL, l_itT, l_itS, l_rg1, l_rg2, l_ixL, l_ixT, l_ixS, at_0, at_1, at_2, at_3, set_0, set_1, set_2, set_3, List.length_cons, List.length_nil, Int.cast_ofNat_Int, Int.natCast_one, tgD_n, tgD_t, tgA_nil, tgA_cons, Option.bind_some, l_isSS, l_isST, l_isSL, l_isSI, l_isTT, l_isTS, l_isTL, l_isTI, l_isII, l_isBI, l_isLL, l_ord, ha, hn, same_eq, q1]
    exact k s2 _ _ hs2
  · simp only [if_neg hc, l_isn, isN, r_lft, r_var, r_own, r_c, r_bin, r_binO, r_cmp, r_tcmp, r_tcmpO, r_tru, r_tand, r_tor, r_tnot, r_eif, r_nif, r_and, r_or, r_not, r_neg, r_cb, r_ncb, r_bm, r_bm0, r_tup, r_lst, r_anil, r_acons, r_aone, r_vnil, r_vcons, r_vslot, r_sl, r_onone, r_osome, r_chain, r_tchain, r_isi, r_iany, r_rg1, r_rg2, r_yes, r_frz, r_call, r_F, r_sif, r_snil, r_pass, r_break, r_cont, r_no, r_ret, r_retN, r_retNone, r_drop, r_dropN, r_asg, r_asgN, r_aug, r_stup, r_app, r_ext, r_setix, r_for, r_retOwn, wE_nComp, wE_ok, wS_nx, wS_rt, wS_bk, wS_ct, wS_seq, wV_d, wV_l, wO_d, wO_l, wL_some, wL_ite, wL_map, cB_true, cB_false, cB_not, wZ_d, wZ_l, wTk_some, wT_some, wipeE, tk_nil, tk_v, tk_s, putA, mask, d1, d2, tyD, okS_d, okS_l, lOf, asI, Option.isSome_some, Option.getD_some, Option.map_some, List.getElem?_cons_zero, List.getElem?_cons_succ, List.set_cons_zero, List.set_cons_succ, List.replicate_succ, List.replicate_zero, List.cons_append, List.nil_append, List.not_mem_nil, List.mem_cons, or_false, not_false_eq_true, true_and, decide_true, if_true, if_false, Bool.false_eq_true, reduceIte, Nat.reduceEqDiff, Nat.reduceAdd, Nat.reduceSub, Nat.reduceLeDiff, Nat.reduceLT, Int.reduceLT, Int.reduceLE, Int.reduceAdd, Int.reduceSub, Int.reduceEq, Int.reduceNeg, Nat.reduceMul, decide_false, Bool.not_true, Bool.not_false, and_true, true_or, or_true, Int.reduceMul, Int.reduceToNat, Nat.reducePow, Int.reducePow, Nat.not_lt_zero, r_tix, r_gl, r_tixS, glOf, r_par2, r_par3, wP2_c, wP3_c, r_fld, r_fldP, r_fldA, r_meth, r_make, r_pop, wFl_d, wNo_none, wMk_ok, oFs_o, okS_o, List.map_cons, List.map_nil, false_or, l_addI, l_addS, l_addL, l_addT, l_sub, l_div, l_mod, l_mulI, l_mulS, l_mulL, l_eqI, l_eqS, l_neI, l_neS, l_ltI, l_leI, l_gtI, l_geI, l_ltS, l_leS, l_gtS, l_geS, l_truI, l_truB, l_truL, l_truT, l_truN, l_truS, l_lenS, l_lenL, l_lenT, l_intI, l_absI, l_tupL, l_tupT, l_itL, l_itT, l_itS, l_rg1, l_rg2, l_ixL, l_ixT, l_ixS, at_0, at_1, at_2, at_3, set_0, set_1, set_2, set_3, List.length_cons, List.length_nil, Int.cast_ofNat_Int, Int.natCast_one, tgD_n, tgD_t, tgA_nil, tgA_cons, Option.bind_some, l_isSS, l_isST, l_isSL, l_isSI, l_isTT, l_isTS, l_isTL, l_isTI, l_isII, l_isBI, l_isLL, l_ord]
    exact k s2 _ _ hs2
theorem rest4_ok (hs : Stt s) (h : Ok y m d) {q3 q4 q5 q6 q7 : Sl} (k : ∀ s' e, Stt s' → R (.d (.bool true)) (s' :: e)) :
    wS (dRest4 [s, .d (.tuple [.int y, .int m, .int d]), .d (.int (num y m d)), q3, q4, q5, q6, q7, .un, .un]) N R B C := by
  unfold dRest4
  simp only [r_lft, r_var, r_own, r_c, r_bin, r_binO, r_cmp, r_tcmp, r_tcmpO, r_tru, r_tand, r_tor, r_tnot, r_eif, r_nif, r_and, r_or, r_not, r_neg, r_cb, r_ncb, r_bm, r_bm0, r_tup, r_lst, r_anil, r_acons, r_aone, r_vnil, r_vcons, r_vslot, r_sl, r_onone, r_osome, r_chain, r_tchain, r_isi, r_iany, r_rg1, r_rg2, r_yes, r_frz, r_call, r_F, r_sif, r_snil, r_pass, r_break, r_cont, r_no, r_ret, r_retN, r_retNone, r_drop, r_dropN, r_asg, r_asgN, r_aug, r_stup, r_app, r_ext, r_setix, r_for, r_retOwn, wE_nComp, wE_ok, wS_nx, wS_rt, wS_bk, wS_ct, wS_seq, wV_d, wV_l, wO_d, wO_l, wL_some, wL_ite, wL_map, cB_true, cB_false, cB_not, wZ_d, wZ_l, wTk_some, wT_some, wipeE, tk_nil, tk_v, tk_s, putA, mask, d1, d2, tyD, okS_d, okS_l, lOf, asI, Option.isSome_some, Option.getD_some, Option.map_some, List.getElem?_cons_zero, List.getElem?_cons_succ, List.set_cons_zero, List.set_cons_succ, List.replicate_succ, List.replicate_zero, List.cons_append, List.nil_append, List.not_mem_nil, List.mem_cons, or_false, not_false_eq_true, true_and, decide_true, if_true, if_false, Bool.false_eq_true, reduceIte, Nat.reduceEqDiff, Nat.reduceAdd, Nat.reduceSub, Nat.reduceLeDiff, Nat.reduceLT, Int.reduceLT, Int.reduceLE, Int.reduceAdd, Int.reduceSub, Int.reduceEq, Int.reduceNeg, Nat.reduceMul, decide_false, Bool.not_true, Bool.not_false, and_true, true_or, or_true, Int.reduceMul, Int.reduceToNat, Nat.reducePow, Int.reducePow, Nat.not_lt_zero, r_tix, r_gl, r_tixS, glOf, r_par2, r_par3, wP2_c, wP3_c, r_fld, r_fldP, r_fldA, r_meth, r_make, r_pop, wFl_d, wNo_none, wMk_ok, oFs_o, okS_o, List.map_cons, List.map_nil, false_or, l_addI, l_addS, l_addL, l_addT, l_sub, l_div, l_mod, l_mulI, l_mulS, l_mulL, l_eqI, l_eqS, l_neI, l_neS, l_ltI, l_leI, l_gtI, l_geI, l_ltS, l_leS, l_gtS, l_geS, l_truI, l_truB, l_truL, l_truT, l_truN, l_truS, l_lenS, l_lenL, l_lenT, l_intI, l_absI, l_tupL, l_tupT, l_itL, l_itT, l_itS, l_rg1, l_rg2, l_ixL, l_ixT, l_ixS, at_0, at_1, at_2, at_3, set_0, set_1, set_2, set_3, List.length_cons, List.length_nil, Int.cast_ofNat_Int, Int.natCast_one, tgD_n, tgD_t, tgA_nil, tgA_cons, Option.bind_some, l_isSS, l_isST, l_isSL, l_isSI, l_isTT, l_isTS, l_isTL, l_isTI, l_isII, l_isBI, l_isLL, l_ord, okS_stt hs]
  refine drawn_ok hs fun y2 m2 dd s1 h2 hs1 => ?_
  simp only [r_lft, r_var, r_own, r_c, r_bin, r_binO, r_cmp, r_tcmp, r_tcmpO, r_tru, r_tand, r_tor, r_tnot, r_eif, r_nif, r_and, r_or, r_not, r_neg, r_cb, r_ncb, r_bm, r_bm0, r_tup, r_lst, r_anil, r_acons, r_aone, r_vnil, r_vcons, r_vslot, r_sl, r_onone, r_osome, r_chain, r_tchain, r_isi, r_iany, r_rg1, r_rg2, r_yes, r_frz, r_call, r_F, r_sif, r_snil, r_pass, r_break, r_cont, r_no, r_ret, r_retN, r_retNone, r_drop, r_dropN, r_asg, r_asgN, r_aug, r_stup, r_app, r_ext, r_setix, r_for, r_retOwn, wE_nComp, wE_ok, wS_nx, wS_rt, wS_bk, wS_ct, wS_seq, wV_d, wV_l, wO_d, wO_l, wL_some, wL_ite, wL_map, cB_true, cB_false, cB_not, wZ_d, wZ_l, wTk_some, wT_some, wipeE, tk_nil, tk_v, tk_s, putA, mask, d1, d2, tyD, okS_d, okS_l, lOf, asI, Option.isSome_some, Option.getD_some, Option.map_some, List.getElem?_cons_zero, List.getElem?_cons_succ, List.set_cons_zero, List.set_cons_succ, List.replicate_succ, List.replicate_zero, List.cons_append, List.nil_append, List.not_mem_nil, List.mem_cons, or_false, not_false_eq_true, true_and, decide_true, if_true, if_false, Bool.false_eq_true, reduceIte, Nat.reduceEqDiff, Nat.reduceAdd, Nat.reduceSub, Nat.reduceLeDiff, Nat.reduceLT, Int.reduceLT, Int.reduceLE, Int.reduceAdd, Int.reduceSub, Int.reduceEq, Int.reduceNeg, Nat.reduceMul, decide_false, Bool.not_true, Bool.not_false, and_true, true_or, or_true, Int.reduceMul, Int.reduceToNat, Nat.reducePow, Int.reducePow, Nat.not_lt_zero, r_tix, r_gl, r_tixS, glOf, r_par2, r_par3, wP2_c, wP3_c, r_fld, r_fldP, r_fldA, r_meth, r_make, r_pop, wFl_d, wNo_none, wMk_ok, oFs_o, okS_o, List.map_cons, List.map_nil, false_or, l_addI, l_addS, l_addL, l_addT, l_sub, l_div, l_mod, l_mulI, l_mulS, l_mulL, l_eqI, l_eqS, l_neI, l_neS, l_ltI, l_leI, l_gtI, l_geI, l_ltS, l_leS, l_gtS, l_geS, l_truI, l_truB, l_truL, l_truT, l_truN, l_truS, l_lenS, l_lenL, l_lenT, l_intI, l_absI, l_tupL, l_tupT, l_itL, l_itT, l_itS, l_rg1, l_rg2, l_ixL, l_ixT, l_ixS, at_0, at_1, at_2, at_3, set_0, set_1, set_2, set_3, List.length_cons, List.length_nil, Int.cast_ofNat_Int, Int.natCast_one, tgD_n, tgD_t, tgA_nil, tgA_cons, Option.bind_some, l_isSS, l_isST, l_isSL, l_isSI, l_isTT, l_isTS, l_isTL, l_isTI, l_isII, l_isBI, l_isLL, l_ord, okS_stt hs1, pick_eq]
  refine pick_ok hs1 (by simp) (by simp) fun x s2 hx hs2 => ?_
  obtain ⟨i, rfl, i0, i1⟩ : ∃ i : Int, x = .int i ∧ 2 ≤ i ∧ i ≤ 12 := by
    simp only [List.mem_cons, List.not_mem_nil, or_false] at hx
    rcases hx with rfl | rfl | rfl <;> exact ⟨_, rfl, by omega, by omega⟩
  simp only [r_lft, r_var, r_own, r_c, r_bin, r_binO, r_cmp, r_tcmp, r_tcmpO, r_tru, r_tand, r_tor, r_tnot, r_eif, r_nif, r_and, r_or, r_not, r_neg, r_cb, r_ncb, r_bm, r_bm0, r_tup, r_lst, r_anil, r_acons, r_aone, r_vnil, r_vcons, r_vslot, r_sl, r_onone, r_osome, r_chain, r_tchain, r_isi, r_iany, r_rg1, r_rg2, r_yes, r_frz, r_call, r_F, r_sif, r_snil, r_pass, r_break, r_cont, r_no, r_ret, r_retN, r_retNone, r_drop, r_dropN, r_asg, r_asgN, r_aug, r_stup, r_app, r_ext, r_setix, r_for, r_retOwn, wE_nComp, wE_ok, wS_nx, wS_rt, wS_bk, wS_ct, wS_seq, wV_d, wV_l, wO_d, wO_l, wL_some, wL_ite, wL_map, cB_true, cB_false, cB_not, wZ_d, wZ_l, wTk_some, wT_some, wipeE, tk_nil, tk_v, tk_s, putA, mask, d1, d2, tyD, okS_d, okS_l, lOf, asI, Option.isSome_some, Option.getD_some, Option.map_some, List.getElem?_cons_zero, List.getElem?_cons_succ, List.set_cons_zero, List.set_cons_succ, List.replicate_succ, List.replicate_zero, List.cons_append, List.nil_append, List.not_mem_nil, List.mem_cons, or_false, not_false_eq_true, true_and, decide_true, if_true, if_false, Bool.false_eq_true, reduceIte, Nat.reduceEqDiff, Nat.reduceAdd, Nat.reduceSub, Nat.reduceLeDiff, Nat.reduceLT, Int.reduceLT, Int.reduceLE, Int.reduceAdd, Int.reduceSub, Int.reduceEq, Int.reduceNeg, Nat.reduceMul, decide_false, Bool.not_true, Bool.not_false, and_true, true_or, or_true, Int.reduceMul, Int.reduceToNat, Nat.reducePow, Int.reducePow, Nat.not_lt_zero, r_tix, r_gl, r_tixS, glOf, r_par2, r_par3, wP2_c, wP3_c, r_fld, r_fldP, r_fldA, r_meth, r_make, r_pop, wFl_d, wNo_none, wMk_ok, oFs_o, okS_o, List.map_cons, List.map_nil, false_or, l_addI, l_addS, l_addL, l_addT, l_sub, l_div, l_mod, l_mulI, l_mulS, l_mulL, l_eqI, l_eqS, l_neI, l_neS, l_ltI, l_leI, l_gtI, l_geI, l_ltS, l_leS, l_gtS, l_geS, l_truI, l_truB, l_truL, l_truT, l_truN, l_truS, l_lenS, l_lenL, l_lenT, l_intI, l_absI, l_tupL, l_tupT, l_itL, l_itT, l_itS, l_rg1, l_rg2, l_ixL, l_ixT, l_ixS, at_0, at_1, at_2, at_3, set_0, set_1, set_2, set_3, List.length_cons, List.length_nil, Int.cast_ofNat_Int, Int.natCast_one, tgD_n, tgD_t, tgA_nil, tgA_cons, Option.bind_some, l_isSS, l_isST, l_isSL, l_isSI, l_isTT, l_isTS, l_isTL, l_isTI, l_isII, l_isBI, l_isLL, l_ord, okS_stt hs2, pick_eq]
  refine pick_ok hs2 (by simp) (by simp) fun x s3 hx hs3 => ?_
  obtain ⟨h1, g2, h3, h4, h5, h6⟩ := id h
  have l0 := len_lo y m
  have l1 := len_lo y i
  obtain ⟨y3, m3, d3, rfl, h3⟩ : ∃ y3 m3 d3 : Int, x = .tuple [.int y3, .int m3, .int d3] ∧ Ok y3 m3 d3 := by
    simp only [List.mem_cons, List.not_mem_nil, or_false] at hx
    rcases hx with rfl | rfl | rfl
    · exact ⟨_, _, _, rfl, h2⟩
    · exact ⟨_, _, _, rfl, h1, g2, h3, h4, by omega, by omega⟩
    · exact ⟨_, _, _, rfl, h1, g2, by omega, i1, by omega, by omega⟩
  have hn := lawnumber (d := d3) h3.1 (by have := h3.2.1; omega) h3.2.2.1 h3.2.2.2.1
  simp only [r_lft, r_var, r_own, r_c, r_bin, r_binO, r_cmp, r_tcmp, r_tcmpO, r_tru, r_tand, r_tor, r_tnot, r_eif, r_nif, r_and, r_or, r_not, r_neg, r_cb, r_ncb, r_bm, r_bm0, r_tup, r_lst, r_anil, r_acons, r_aone, r_vnil, r_vcons, r_vslot, r_sl, r_onone, r_osome, r_chain, r_tchain, r_isi, r_iany, r_rg1, r_rg2, r_yes, r_frz, r_call, r_F, r_sif, r_snil, r_pass, r_break, r_cont, r_no, r_ret, r_retN, r_retNone, r_drop, r_dropN, r_asg, r_asgN, r_aug, r_stup, r_app, r_ext, r_setix, r_for, r_retOwn, wE_nComp, wE_ok, wS_nx, wS_rt, wS_bk, wS_ct, wS_seq, wV_d, wV_l, wO_d, wO_l, wL_some, wL_ite, wL_map, cB_true, cB_false, cB_not, wZ_d, wZ_l, wTk_some, wT_some, wipeE, tk_nil, tk_v, tk_s, putA, mask, d1, d2, tyD, okS_d, okS_l, lOf, asI, Option.isSome_some, Option.getD_some, Option.map_some, List.getElem?_cons_zero, List.getElem?_cons_succ, List.set_cons_zero, List.set_cons_succ, List.replicate_succ, List.replicate_zero, List.cons_append, List.nil_append, List.not_mem_nil, List.mem_cons, or_false, not_false_eq_true, true_and, decide_true, if_true, if_false, Bool.false_eq_true, reduceIte, Nat.reduceEqDiff, Nat.reduceAdd, Nat.reduceSub, Nat.reduceLeDiff, Nat.reduceLT, Int.reduceLT, Int.reduceLE, Int.reduceAdd, Int.reduceSub, Int.reduceEq, Int.reduceNeg, Nat.reduceMul, decide_false, Bool.not_true, Bool.not_false, and_true, true_or, or_true, Int.reduceMul, Int.reduceToNat, Nat.reducePow, Int.reducePow, Nat.not_lt_zero, r_tix, r_gl, r_tixS, glOf, r_par2, r_par3, wP2_c, wP3_c, r_fld, r_fldP, r_fldA, r_meth, r_make, r_pop, wFl_d, wNo_none, wMk_ok, oFs_o, okS_o, List.map_cons, List.map_nil, false_or, l_addI, l_addS, l_addL, l_addT, l_sub, l_div, l_mod, l_mulI, l_mulS, l_mulL, l_eqI, l_eqS, l_neI, l_neS, l_ltI, l_leI, l_gtI, l_geI, l_ltS, l_leS, l_gtS, l_geS, l_truI, l_truB, l_truL, l_truT, l_truN, l_truS, l_lenS, l_lenL, l_lenT, l_intI, l_absI, l_tupL, l_tupT, l_itL, l_itT, l_itS, l_rg1, l_rg2, l_ixL, l_ixT, l_ixS, at_0, at_1, at_2, at_3, set_0, set_1, set_2, set_3, List.length_cons, List.length_nil, Int.cast_ofNat_Int, Int.natCast_one, tgD_n, tgD_t, tgA_nil, tgA_cons, Option.bind_some, l_isSS, l_isST, l_isSL, l_isSI, l_isTT, l_isTS, l_isTL, l_isTI, l_isII, l_isBI, l_isLL, l_ord, hn, between h h3, between h3 h, lawbetween h h3, lawbetween h3 h, same_eq]
  have y0 := h3.1
  have y9 := h3.2.1
  have m0 := h3.2.2.1
  have m9 := h3.2.2.2.1
  have m00 := h.2.2.1
  have q1 : ∀ a b : Int, -(2 ^ 63) ≤ a → a < 2 ^ 63 → -(2 ^ 63) ≤ b → b < 2 ^ 63 → mSame [.d (.list [.int a, .int b]), .d (.list [.int a, .int b])] = .ok (.d (.bool true)) [.un, .un] := fun a b a0 a1 b0 b1 =>
    (Fx.list (k := 2) (Fx.two (fxi a0 a1) (fxi b0 b1)) (Nat.le_refl _)).same (by decide) (by decide)
  rw [q1 _ _ (by split <;> omega) (by split <;> omega) (by split <;> omega) (by split <;> omega)]
  simp only [r_lft, r_var, r_own, r_c, r_bin, r_binO, r_cmp, r_tcmp, r_tcmpO, r_tru, r_tand, r_tor, r_tnot, r_eif, r_nif, r_and, r_or, r_not, r_neg, r_cb, r_ncb, r_bm, r_bm0, r_tup, r_lst, r_anil, r_acons, r_aone, r_vnil, r_vcons, r_vslot, r_sl, r_onone, r_osome, r_chain, r_tchain, r_isi, r_iany, r_rg1, r_rg2, r_yes, r_frz, r_call, r_F, r_sif, r_snil, r_pass, r_break, r_cont, r_no, r_ret, r_retN, r_retNone, r_drop, r_dropN, r_asg, r_asgN, r_aug, r_stup, r_app, r_ext, r_setix, r_for, r_retOwn, wE_nComp, wE_ok, wS_nx, wS_rt, wS_bk, wS_ct, wS_seq, wV_d, wV_l, wO_d, wO_l, wL_some, wL_ite, wL_map, cB_true, cB_false, cB_not, wZ_d, wZ_l, wTk_some, wT_some, wipeE, tk_nil, tk_v, tk_s, putA, mask, d1, d2, tyD, okS_d, okS_l, lOf, asI, Option.isSome_some, Option.getD_some, Option.map_some, List.getElem?_cons_zero, List.getElem?_cons_succ, List.set_cons_zero, List.set_cons_succ, List.replicate_succ, List.replicate_zero, List.cons_append, List.nil_append, List.not_mem_nil, List.mem_cons, or_false, not_false_eq_true, true_and, decide_true, if_true, if_false, Bool.false_eq_true, reduceIte, Nat.reduceEqDiff, Nat.reduceAdd, Nat.reduceSub, Nat.reduceLeDiff, Nat.reduceLT, Int.reduceLT, Int.reduceLE, Int.reduceAdd, Int.reduceSub, Int.reduceEq, Int.reduceNeg, Nat.reduceMul, decide_false, Bool.not_true, Bool.not_false, and_true, true_or, or_true, Int.reduceMul, Int.reduceToNat, Nat.reducePow, Int.reducePow, Nat.not_lt_zero, r_tix, r_gl, r_tixS, glOf, r_par2, r_par3, wP2_c, wP3_c, r_fld, r_fldP, r_fldA, r_meth, r_make, r_pop, wFl_d, wNo_none, wMk_ok, oFs_o, okS_o, List.map_cons, List.map_nil, false_or, l_addI, l_addS, l_addL, l_addT, l_sub, l_div, l_mod, l_mulI, l_mulS, l_mulL, l_eqI, l_eqS, l_neI, l_neS, l_ltI, l_leI, l_gtI, l_geI, l_ltS, l_leS, l_gtS, l_geS, l_truI, l_truB, l_truL, l_truT, l_truN, l_truS, l_lenS, l_lenL, l_lenT, l_intI, l_absI, l_tupL, l_tupT, l_itL, l_itT, l_itS, l_rg1, l_rg2, l_ixL, l_ixT, l_ixS, at_0, at_1, at_2, at_3, set_0, set_1, set_2, set_3, List.length_cons, List.length_nil, Int.cast_ofNat_Int, Int.natCast_one, tgD_n, tgD_t, tgA_nil, tgA_cons, Option.bind_some, l_isSS, l_isST, l_isSL, l_isSI, l_isTT, l_isTS, l_isTL, l_isTI, l_isII, l_isBI, l_isLL, l_ord]
  exact k s3 _ hs3
end
theorem days_ok {s : Sl} (hs : Stt s) {Q : Sl → List Sl → Prop} (k : ∀ s', Stt s' → Q (.d (.bool true)) [s']) : wF (m__law_days_hold [s]) Q := by
  refine wF_run rfl ?_
  simp only [days_eq, r_lft, r_var, r_own, r_c, r_bin, r_binO, r_cmp, r_tcmp, r_tcmpO, r_tru, r_tand, r_tor, r_tnot, r_eif, r_nif, r_and, r_or, r_not, r_neg, r_cb, r_ncb, r_bm, r_bm0, r_tup, r_lst, r_anil, r_acons, r_aone, r_vnil, r_vcons, r_vslot, r_sl, r_onone, r_osome, r_chain, r_tchain, r_isi, r_iany, r_rg1, r_rg2, r_yes, r_frz, r_call, r_F, r_sif, r_snil, r_pass, r_break, r_cont, r_no, r_ret, r_retN, r_retNone, r_drop, r_dropN, r_asg, r_asgN, r_aug, r_stup, r_app, r_ext, r_setix, r_for, r_retOwn, wE_nComp, wE_ok, wS_nx, wS_rt, wS_bk, wS_ct, wS_seq, wV_d, wV_l, wO_d, wO_l, wL_some, wL_ite, wL_map, cB_true, cB_false, cB_not, wZ_d, wZ_l, wTk_some, wT_some, wipeE, tk_nil, tk_v, tk_s, putA, mask, d1, d2, tyD, okS_d, okS_l, lOf, asI, Option.isSome_some, Option.getD_some, Option.map_some, List.getElem?_cons_zero, List.getElem?_cons_succ, List.set_cons_zero, List.set_cons_succ, List.replicate_succ, List.replicate_zero, List.cons_append, List.nil_append, List.not_mem_nil, List.mem_cons, or_false, not_false_eq_true, true_and, decide_true, if_true, if_false, Bool.false_eq_true, reduceIte, Nat.reduceEqDiff, Nat.reduceAdd, Nat.reduceSub, Nat.reduceLeDiff, Nat.reduceLT, Int.reduceLT, Int.reduceLE, Int.reduceAdd, Int.reduceSub, Int.reduceEq, Int.reduceNeg, Nat.reduceMul, decide_false, Bool.not_true, Bool.not_false, and_true, true_or, or_true, Int.reduceMul, Int.reduceToNat, Nat.reducePow, Int.reducePow, Nat.not_lt_zero, r_tix, r_gl, r_tixS, glOf, r_par2, r_par3, wP2_c, wP3_c, r_fld, r_fldP, r_fldA, r_meth, r_make, r_pop, wFl_d, wNo_none, wMk_ok, oFs_o, okS_o, List.map_cons, List.map_nil, false_or, l_addI, l_addS, l_addL, l_addT, l_sub, l_div, l_mod, l_mulI, l_mulS, l_mulL, l_eqI, l_eqS, l_neI, l_neS, l_ltI, l_leI, l_gtI, l_geI, l_ltS, l_leS, l_gtS, l_geS, l_truI, l_truB, l_truL, l_truT, l_truN, l_truS, l_lenS, l_lenL, l_lenT, l_intI, l_absI, l_tupL, l_tupT, l_itL, l_itT, l_itS, l_rg1, l_rg2, l_ixL, l_ixT, l_ixS, at_0, at_1, at_2, at_3, set_0, set_1, set_2, set_3, List.length_cons, List.length_nil, Int.cast_ofNat_Int, Int.natCast_one, tgD_n, tgD_t, tgA_nil, tgA_cons, Option.bind_some, l_isSS, l_isST, l_isSL, l_isSI, l_isTT, l_isTS, l_isTL, l_isTI, l_isII, l_isBI, l_isLL, l_ord, okS_stt hs]
  refine drawn_ok hs fun y m d s1 h hs1 => ?_
  have n0 := num_lo h
  have n1 := num_hi h
  obtain ⟨h1, h2, h3, h4, h5, h6⟩ := id h
  have q1 : mSame [.d (.list [.int (num y m d), .tuple [.int y, .int m, .int d], .int ((num y m d + 3) % 7)]), .d (.list [.int (num y m d), .tuple [.int y, .int m, .int d], .int ((num y m d + 3) % 7)])] = .ok (.d (.bool true)) [.un, .un] :=
    (Fx.list (k := 3) (Fx.three ((fxi (by omega) (by omega)).mono (by decide) (by decide)) (fxd y m d h) ((fxi (by omega) (by omega)).mono (by decide) (by decide))) (Nat.le_refl _)).same (by decide) (by decide)
  simp only [r_lft, r_var, r_own, r_c, r_bin, r_binO, r_cmp, r_tcmp, r_tcmpO, r_tru, r_tand, r_tor, r_tnot, r_eif, r_nif, r_and, r_or, r_not, r_neg, r_cb, r_ncb, r_bm, r_bm0, r_tup, r_lst, r_anil, r_acons, r_aone, r_vnil, r_vcons, r_vslot, r_sl, r_onone, r_osome, r_chain, r_tchain, r_isi, r_iany, r_rg1, r_rg2, r_yes, r_frz, r_call, r_F, r_sif, r_snil, r_pass, r_break, r_cont, r_no, r_ret, r_retN, r_retNone, r_drop, r_dropN, r_asg, r_asgN, r_aug, r_stup, r_app, r_ext, r_setix, r_for, r_retOwn, wE_nComp, wE_ok, wS_nx, wS_rt, wS_bk, wS_ct, wS_seq, wV_d, wV_l, wO_d, wO_l, wL_some, wL_ite, wL_map, cB_true, cB_false, cB_not, wZ_d, wZ_l, wTk_some, wT_some, wipeE, tk_nil, tk_v, tk_s, putA, mask, d1, d2, tyD, okS_d, okS_l, lOf, asI, Option.isSome_some, Option.getD_some, Option.map_some, List.getElem?_cons_zero, List.getElem?_cons_succ, List.set_cons_zero, List.set_cons_succ, List.replicate_succ, List.replicate_zero, List.cons_append, List.nil_append, List.not_mem_nil, List.mem_cons, or_false, not_false_eq_true, true_and, decide_true, if_true, if_false, Bool.false_eq_true, reduceIte, Nat.reduceEqDiff, Nat.reduceAdd, Nat.reduceSub, Nat.reduceLeDiff, Nat.reduceLT, Int.reduceLT, Int.reduceLE, Int.reduceAdd, Int.reduceSub, Int.reduceEq, Int.reduceNeg, Nat.reduceMul, decide_false, Bool.not_true, Bool.not_false, and_true, true_or, or_true, Int.reduceMul, Int.reduceToNat, Nat.reducePow, Int.reducePow, Nat.not_lt_zero, r_tix, r_gl, r_tixS, glOf, r_par2, r_par3, wP2_c, wP3_c, r_fld, r_fldP, r_fldA, r_meth, r_make, r_pop, wFl_d, wNo_none, wMk_ok, oFs_o, okS_o, List.map_cons, List.map_nil, false_or, l_addI, l_addS, l_addL, l_addT, l_sub, l_div, l_mod, l_mulI, l_mulS, l_mulL, l_eqI, l_eqS, l_neI, l_neS, l_ltI, l_leI, l_gtI, l_geI, l_ltS, l_leS, l_gtS, l_geS, l_truI, l_truB, l_truL, l_truT, l_truN, l_truS, l_lenS, l_lenL, l_lenT, l_intI, l_absI, l_tupL, l_tupT, l_itL, l_itT, l_itS, l_rg1, l_rg2, l_ixL, l_ixT, l_ixS, at_0, at_1, at_2, at_3, set_0, set_1, set_2, set_3, List.length_cons, List.length_nil, Int.cast_ofNat_Int, Int.natCast_one, tgD_n, tgD_t, tgA_nil, tgA_cons, Option.bind_some, l_isSS, l_isST, l_isSL, l_isSI, l_isTT, l_isTS, l_isTL, l_isTI, l_isII, l_isBI, l_isLL, l_ord, okS_stt hs1, lawnumber (d := d) h1 (by omega) h3 h4, daysof h, dateof h, weekdays n0 n1, same_eq, q1]
  simp only [l_ne3, r_lft, r_var, r_own, r_c, r_bin, r_binO, r_cmp, r_tcmp, r_tcmpO, r_tru, r_tand, r_tor, r_tnot, r_eif, r_nif, r_and, r_or, r_not, r_neg, r_cb, r_ncb, r_bm, r_bm0, r_tup, r_lst, r_anil, r_acons, r_aone, r_vnil, r_vcons, r_vslot, r_sl, r_onone, r_osome, r_chain, r_tchain, r_isi, r_iany, r_rg1, r_rg2, r_yes, r_frz, r_call, r_F, r_sif, r_snil, r_pass, r_break, r_cont, r_no, r_ret, r_retN, r_retNone, r_drop, r_dropN, r_asg, r_asgN, r_aug, r_stup, r_app, r_ext, r_setix, r_for, r_retOwn, wE_nComp, wE_ok, wS_nx, wS_rt, wS_bk, wS_ct, wS_seq, wV_d, wV_l, wO_d, wO_l, wL_some, wL_ite, wL_map, cB_true, cB_false, cB_not, wZ_d, wZ_l, wTk_some, wT_some, wipeE, tk_nil, tk_v, tk_s, putA, mask, d1, d2, tyD, okS_d, okS_l, lOf, asI, Option.isSome_some, Option.getD_some, Option.map_some, List.getElem?_cons_zero, List.getElem?_cons_succ, List.set_cons_zero, List.set_cons_succ, List.replicate_succ, List.replicate_zero, List.cons_append, List.nil_append, List.not_mem_nil, List.mem_cons, or_false, not_false_eq_true, true_and, decide_true, if_true, if_false, Bool.false_eq_true, reduceIte, Nat.reduceEqDiff, Nat.reduceAdd, Nat.reduceSub, Nat.reduceLeDiff, Nat.reduceLT, Int.reduceLT, Int.reduceLE, Int.reduceAdd, Int.reduceSub, Int.reduceEq, Int.reduceNeg, Nat.reduceMul, decide_false, Bool.not_true, Bool.not_false, and_true, true_or, or_true, Int.reduceMul, Int.reduceToNat, Nat.reducePow, Int.reducePow, Nat.not_lt_zero, r_tix, r_gl, r_tixS, glOf, r_par2, r_par3, wP2_c, wP3_c, r_fld, r_fldP, r_fldA, r_meth, r_make, r_pop, wFl_d, wNo_none, wMk_ok, oFs_o, okS_o, List.map_cons, List.map_nil, false_or, l_addI, l_addS, l_addL, l_addT, l_sub, l_div, l_mod, l_mulI, l_mulS, l_mulL, l_eqI, l_eqS, l_neI, l_neS, l_ltI, l_leI, l_gtI, l_geI, l_ltS, l_leS, l_gtS, l_geS, l_truI, l_truB, l_truL, l_truT, l_truN, l_truS, l_lenS, l_lenL, l_lenT, l_intI, l_absI, l_tupL, l_tupT, l_itL, l_itT, l_itS, l_rg1, l_rg2, l_ixL, l_ixT, l_ixS, at_0, at_1, at_2, at_3, set_0, set_1, set_2, set_3, List.length_cons, List.length_nil, Int.cast_ofNat_Int, Int.natCast_one, tgD_n, tgD_t, tgA_nil, tgA_cons, Option.bind_some, l_isSS, l_isST, l_isSL, l_isSI, l_isTT, l_isTS, l_isTL, l_isTI, l_isII, l_isBI, l_isLL, l_ord]
  have fin : wS (dRest [s1, .d (.tuple [.int y, .int m, .int d]), .d (.int (num y m d)), .un, .un, .un, .un, .un, .un, .un]) (fun e => Q (Sl.d PyData.none) (mask [0] 0 1 e)) (fun s e => Q s (mask [0] 0 1 e)) (fun x => False) fun x => False :=
    rest_ok hs1 fun s2 _ hs2 => rest2_ok hs2 h fun s3 _ _ hs3 => rest3_ok hs3 h fun s4 _ _ hs4 => rest4_ok hs4 h fun s5 e hs5 => k s5 hs5
  refine cB_intro (fun hlast => ?_) fun hlast => ?_
  · exact fin
  · have hl : ¬ (y = 9999 ∧ m = 12 ∧ d = 31) := of_decide_eq_false hlast
    obtain ⟨ho, hn⟩ := nxt_ok h hl
    have hd := dateof ho
    rw [hn] at hd
    have q2 := (fxd _ _ _ ho).same (by decide) (by decide)
    simp only [r_lft, r_var, r_own, r_c, r_bin, r_binO, r_cmp, r_tcmp, r_tcmpO, r_tru, r_tand, r_tor, r_tnot, r_eif, r_nif, r_and, r_or, r_not, r_neg, r_cb, r_ncb, r_bm, r_bm0, r_tup, r_lst, r_anil, r_acons, r_aone, r_vnil, r_vcons, r_vslot, r_sl, r_onone, r_osome, r_chain, r_tchain, r_isi, r_iany, r_rg1, r_rg2, r_yes, r_frz, r_call, r_F, r_sif, r_snil, r_pass, r_break, r_cont, r_no, r_ret, r_retN, r_retNone, r_drop, r_dropN, r_asg, r_asgN, r_aug, r_stup, r_app, r_ext, r_setix, r_for, r_retOwn, wE_nComp, wE_ok, wS_nx, wS_rt, wS_bk, wS_ct, wS_seq, wV_d, wV_l, wO_d, wO_l, wL_some, wL_ite, wL_map, cB_true, cB_false, cB_not, wZ_d, wZ_l, wTk_some, wT_some, wipeE, tk_nil, tk_v, tk_s, putA, mask, d1, d2, tyD, okS_d, okS_l, lOf, asI, Option.isSome_some, Option.getD_some, Option.map_some, List.getElem?_cons_zero, List.getElem?_cons_succ, List.set_cons_zero, List.set_cons_succ, List.replicate_succ, List.replicate_zero, List.cons_append, List.nil_append, List.not_mem_nil, List.mem_cons, or_false, not_false_eq_true, true_and, decide_true, if_true, if_false, Bool.false_eq_true, reduceIte, Nat.reduceEqDiff, Nat.reduceAdd, Nat.reduceSub, Nat.reduceLeDiff, Nat.reduceLT, Int.reduceLT, Int.reduceLE, Int.reduceAdd, Int.reduceSub, Int.reduceEq, Int.reduceNeg, Nat.reduceMul, decide_false, Bool.not_true, Bool.not_false, and_true, true_or, or_true, Int.reduceMul, Int.reduceToNat, Nat.reducePow, Int.reducePow, Nat.not_lt_zero, r_tix, r_gl, r_tixS, glOf, r_par2, r_par3, wP2_c, wP3_c, r_fld, r_fldP, r_fldA, r_meth, r_make, r_pop, wFl_d, wNo_none, wMk_ok, oFs_o, okS_o, List.map_cons, List.map_nil, false_or, l_addI, l_addS, l_addL, l_addT, l_sub, l_div, l_mod, l_mulI, l_mulS, l_mulL, l_eqI, l_eqS, l_neI, l_neS, l_ltI, l_leI, l_gtI, l_geI, l_ltS, l_leS, l_gtS, l_geS, l_truI, l_truB, l_truL, l_truT, l_truN, l_truS, l_lenS, l_lenL, l_lenT, l_intI, l_absI, l_tupL, l_tupT, l_itL, l_itT, l_itS, l_rg1, l_rg2, l_ixL, l_ixT, l_ixS, at_0, at_1, at_2, at_3, set_0, set_1, set_2, set_3, List.length_cons, List.length_nil, Int.cast_ofNat_Int, Int.natCast_one, tgD_n, tgD_t, tgA_nil, tgA_cons, Option.bind_some, l_isSS, l_isST, l_isSL, l_isSI, l_isTT, l_isTS, l_isTL, l_isTI, l_isII, l_isBI, l_isLL, l_ord, hd, lawnext, same_eq, q2]
    exact fin
end K40

/-! law_k40_dates: the plain law: texts of dates. -/
namespace K40
open PySem PySem.Spec PyProof.Rows L2 BV
theorem digs : (Str.ofString "0123456789").cps.toList = [48, 49, 50, 51, 52, 53, 54, 55, 56, 57] := by decide +kernel
theorem l_dg {k : Int} (h0 : 0 ≤ k) (h1 : k < 10) : dIx (.str (Str.ofString "0123456789")) (.int k) = some (.str (S [48 + k.toNat])) := by
  rw [l_ixS, if_pos (by decide), digs]
  have : k = 0 ∨ k = 1 ∨ k = 2 ∨ k = 3 ∨ k = 4 ∨ k = 5 ∨ k = 6 ∨ k = 7 ∨ k = 8 ∨ k = 9 := by omega
  rcases this with rfl | rfl | rfl | rfl | rfl | rfl | rfl | rfl | rfl | rfl <;> rfl
/-- two digits -/
def tw (n : Int) : List Nat := [48 + (n / 10).toNat, 48 + (n % 10).toNat]
theorem two_ok {n : Int} (h0 : 0 ≤ n) (h1 : n < 100) : m_two [.d (.int n)] = .ok (.d (.str (S (tw n)))) [.un] := by
  refine eqF (wF_run rfl ?_)
  simp only [b_two, r_lft, r_var, r_own, r_c, r_bin, r_binO, r_cmp, r_tcmp, r_tcmpO, r_tru, r_tand, r_tor, r_tnot, r_eif, r_nif, r_and, r_or, r_not, r_neg, r_cb, r_ncb, r_bm, r_bm0, r_tup, r_lst, r_anil, r_acons, r_aone, r_vnil, r_vcons, r_vslot, r_sl, r_onone, r_osome, r_chain, r_tchain, r_isi, r_iany, r_rg1, r_rg2, r_yes, r_frz, r_call, r_F, r_sif, r_snil, r_pass, r_break, r_cont, r_no, r_ret, r_retN, r_retNone, r_drop, r_dropN, r_asg, r_asgN, r_aug, r_stup, r_app, r_ext, r_setix, r_for, r_retOwn, wE_nComp, wE_ok, wS_nx, wS_rt, wS_bk, wS_ct, wS_seq, wV_d, wV_l, wO_d, wO_l, wL_some, wL_ite, wL_map, cB_true, cB_false, cB_not, wZ_d, wZ_l, wTk_some, wT_some, wipeE, tk_nil, tk_v, tk_s, putA, mask, d1, d2, tyD, okS_d, okS_l, lOf, asI, Option.isSome_some, Option.getD_some, Option.map_some, List.getElem?_cons_zero, List.getElem?_cons_succ, List.set_cons_zero, List.set_cons_succ, List.replicate_succ, List.replicate_zero, List.cons_append, List.nil_append, List.not_mem_nil, List.mem_cons, or_false, not_false_eq_true, true_and, decide_true, if_true, if_false, Bool.false_eq_true, reduceIte, Nat.reduceEqDiff, Nat.reduceAdd, Nat.reduceSub, Nat.reduceLeDiff, Nat.reduceLT, Int.reduceLT, Int.reduceLE, Int.reduceAdd, Int.reduceSub, Int.reduceEq, Int.reduceNeg, Nat.reduceMul, decide_false, Bool.not_true, Bool.not_false, and_true, true_or, or_true, Int.reduceMul, Int.reduceToNat, Nat.reducePow, Int.reducePow, Nat.not_lt_zero, r_negv, l_neg, r_vfn, tk_f, r_tix, r_gl, r_tixS, glOf, r_par2, r_par3, wP2_c, wP3_c, r_fld, r_fldP, r_fldA, r_meth, r_make, r_pop, wFl_d, wNo_none, wMk_ok, oFs_o, okS_o, List.map_cons, List.map_nil, false_or, l_addI, l_addS, l_addL, l_addT, l_sub, l_div, l_mod, l_mulI, l_mulS, l_mulL, l_eqI, l_eqS, l_neI, l_neS, l_ltI, l_leI, l_gtI, l_geI, l_ltS, l_leS, l_gtS, l_geS, l_truI, l_truB, l_truL, l_truT, l_truN, l_truS, l_lenS, l_lenL, l_lenT, l_intI, l_absI, l_tupL, l_tupT, l_itL, l_itT, l_itS, l_rg1, l_rg2, l_ixL, l_ixT, l_ixS, at_0, at_1, at_2, at_3, set_0, set_1, set_2, set_3, List.length_cons, List.length_nil, Int.cast_ofNat_Int, Int.natCast_one, tgD_n, tgD_t, tgA_nil, tgA_cons, Option.bind_some, l_isSS, l_isST, l_isSL, l_isSI, l_isTT, l_isTS, l_isTL, l_isTI, l_isII, l_isBI, l_isLL, l_ord, l_dg (k := n / 10) (by omega) (by omega), l_dg (k := n % 10) (by omega) (by omega), S_app]
  simp [S_len, tw]
theorem lawtwo_ok {n : Int} (h0 : 0 ≤ n) (h1 : n < 100) : m__law_two [.d (.int n)] = .ok (.d (.str (S (tw n)))) [.un] := by
  refine eqF (wF_run rfl ?_)
  simp only [b__law_two, r_lft, r_var, r_own, r_c, r_bin, r_binO, r_cmp, r_tcmp, r_tcmpO, r_tru, r_tand, r_tor, r_tnot, r_eif, r_nif, r_and, r_or, r_not, r_neg, r_cb, r_ncb, r_bm, r_bm0, r_tup, r_lst, r_anil, r_acons, r_aone, r_vnil, r_vcons, r_vslot, r_sl, r_onone, r_osome, r_chain, r_tchain, r_isi, r_iany, r_rg1, r_rg2, r_yes, r_frz, r_call, r_F, r_sif, r_snil, r_pass, r_break, r_cont, r_no, r_ret, r_retN, r_retNone, r_drop, r_dropN, r_asg, r_asgN, r_aug, r_stup, r_app, r_ext, r_setix, r_for, r_retOwn, wE_nComp, wE_ok, wS_nx, wS_rt, wS_bk, wS_ct, wS_seq, wV_d, wV_l, wO_d, wO_l, wL_some, wL_ite, wL_map, cB_true, cB_false, cB_not, wZ_d, wZ_l, wTk_some, wT_some, wipeE, tk_nil, tk_v, tk_s, putA, mask, d1, d2, tyD, okS_d, okS_l, lOf, asI, Option.isSome_some, Option.getD_some, Option.map_some, List.getElem?_cons_zero, List.getElem?_cons_succ, List.set_cons_zero, List.set_cons_succ, List.replicate_succ, List.replicate_zero, List.cons_append, List.nil_append, List.not_mem_nil, List.mem_cons, or_false, not_false_eq_true, true_and, decide_true, if_true, if_false, Bool.false_eq_true, reduceIte, Nat.reduceEqDiff, Nat.reduceAdd, Nat.reduceSub, Nat.reduceLeDiff, Nat.reduceLT, Int.reduceLT, Int.reduceLE, Int.reduceAdd, Int.reduceSub, Int.reduceEq, Int.reduceNeg, Nat.reduceMul, decide_false, Bool.not_true, Bool.not_false, and_true, true_or, or_true, Int.reduceMul, Int.reduceToNat, Nat.reducePow, Int.reducePow, Nat.not_lt_zero, r_negv, l_neg, r_vfn, tk_f, r_tix, r_gl, r_tixS, glOf, r_par2, r_par3, wP2_c, wP3_c, r_fld, r_fldP, r_fldA, r_meth, r_make, r_pop, wFl_d, wNo_none, wMk_ok, oFs_o, okS_o, List.map_cons, List.map_nil, false_or, l_addI, l_addS, l_addL, l_addT, l_sub, l_div, l_mod, l_mulI, l_mulS, l_mulL, l_eqI, l_eqS, l_neI, l_neS, l_ltI, l_leI, l_gtI, l_geI, l_ltS, l_leS, l_gtS, l_geS, l_truI, l_truB, l_truL, l_truT, l_truN, l_truS, l_lenS, l_lenL, l_lenT, l_intI, l_absI, l_tupL, l_tupT, l_itL, l_itT, l_itS, l_rg1, l_rg2, l_ixL, l_ixT, l_ixS, at_0, at_1, at_2, at_3, set_0, set_1, set_2, set_3, List.length_cons, List.length_nil, Int.cast_ofNat_Int, Int.natCast_one, tgD_n, tgD_t, tgA_nil, tgA_cons, Option.bind_some, l_isSS, l_isST, l_isSL, l_isSI, l_isTT, l_isTS, l_isTL, l_isTI, l_isII, l_isBI, l_isLL, l_ord, l_dg (k := n / 10) (by omega) (by omega), l_dg (k := n % 10) (by omega) (by omega), S_app]
  simp [S_len, tw]
theorem tw_len {n : Int} : (tw n).length = 2 := rfl
/-! ### names -/
theorem str3 {s : Str} (h : s.length = 3) : ∃ a b c, s = S [a, b, c] := by
  rw [S_tl s] at h ⊢
  rw [S_len] at h
  match s.cps.toList, h with
  | [a, b, c], _ => exact ⟨a, b, c, rfl⟩
theorem mo_at {m : Int} (h0 : 1 ≤ m) (h1 : m ≤ 12) : ∃ s : Str, s.length = 3 ∧ atI [PyData.str (Str.ofString "Jan"), PyData.str (Str.ofString "Feb"), PyData.str (Str.ofString "Mar"), PyData.str (Str.ofString "Apr"), PyData.str (Str.ofString "May"), PyData.str (Str.ofString "Jun"), PyData.str (Str.ofString "Jul"), PyData.str (Str.ofString "Aug"), PyData.str (Str.ofString "Sep"), PyData.str (Str.ofString "Oct"), PyData.str (Str.ofString "Nov"), PyData.str (Str.ofString "Dec")] (m - 1) = some (.str s) ∧
    dNinB (.str s) (.tuple [PyData.str (Str.ofString "Jan"), PyData.str (Str.ofString "Feb"), PyData.str (Str.ofString "Mar"), PyData.str (Str.ofString "Apr"), PyData.str (Str.ofString "May"), PyData.str (Str.ofString "Jun"), PyData.str (Str.ofString "Jul"), PyData.str (Str.ofString "Aug"), PyData.str (Str.ofString "Sep"), PyData.str (Str.ofString "Oct"), PyData.str (Str.ofString "Nov"), PyData.str (Str.ofString "Dec")]) = some false ∧ dTIndex (.tuple [PyData.str (Str.ofString "Jan"), PyData.str (Str.ofString "Feb"), PyData.str (Str.ofString "Mar"), PyData.str (Str.ofString "Apr"), PyData.str (Str.ofString "May"), PyData.str (Str.ofString "Jun"), PyData.str (Str.ofString "Jul"), PyData.str (Str.ofString "Aug"), PyData.str (Str.ofString "Sep"), PyData.str (Str.ofString "Oct"), PyData.str (Str.ofString "Nov"), PyData.str (Str.ofString "Dec")]) [.str s] = some (.int (m - 1)) := by
  have : m = 1 ∨ m = 2 ∨ m = 3 ∨ m = 4 ∨ m = 5 ∨ m = 6 ∨ m = 7 ∨ m = 8 ∨ m = 9 ∨ m = 10 ∨ m = 11 ∨ m = 12 := by omega
  rcases this with rfl | rfl | rfl | rfl | rfl | rfl | rfl | rfl | rfl | rfl | rfl | rfl
  · exact ⟨Str.ofString "Jan", rfl, by kernel_rfl, by kernel_rfl, by kernel_rfl⟩
  · exact ⟨Str.ofString "Feb", rfl, by kernel_rfl, by kernel_rfl, by kernel_rfl⟩
  · exact ⟨Str.ofString "Mar", rfl, by kernel_rfl, by kernel_rfl, by kernel_rfl⟩
  · exact ⟨Str.ofString "Apr", rfl, by kernel_rfl, by kernel_rfl, by kernel_rfl⟩
  · exact ⟨Str.ofString "May", rfl, by kernel_rfl, by kernel_rfl, by kernel_rfl⟩
  · exact ⟨Str.ofString "Jun", rfl, by kernel_rfl, by kernel_rfl, by kernel_rfl⟩
  · exact ⟨Str.ofString "Jul", rfl, by kernel_rfl, by kernel_rfl, by kernel_rfl⟩
  · exact ⟨Str.ofString "Aug", rfl, by kernel_rfl, by kernel_rfl, by kernel_rfl⟩
  · exact ⟨Str.ofString "Sep", rfl, by kernel_rfl, by kernel_rfl, by kernel_rfl⟩
  · exact ⟨Str.ofString "Oct", rfl, by kernel_rfl, by kernel_rfl, by kernel_rfl⟩
  · exact ⟨Str.ofString "Nov", rfl, by kernel_rfl, by kernel_rfl, by kernel_rfl⟩
  · exact ⟨Str.ofString "Dec", rfl, by kernel_rfl, by kernel_rfl, by kernel_rfl⟩
theorem lawmonths : m__law_months [] = .ok (.l [PyData.str (Str.ofString "Jan"), PyData.str (Str.ofString "Feb"), PyData.str (Str.ofString "Mar"), PyData.str (Str.ofString "Apr"), PyData.str (Str.ofString "May"), PyData.str (Str.ofString "Jun"), PyData.str (Str.ofString "Jul"), PyData.str (Str.ofString "Aug"), PyData.str (Str.ofString "Sep"), PyData.str (Str.ofString "Oct"), PyData.str (Str.ofString "Nov"), PyData.str (Str.ofString "Dec")]) [] := by rfl
theorem tb_n : tbT (Str.ofString "NAMES") = some [PyData.str (Str.ofString "Mon"), PyData.str (Str.ofString "Tue"), PyData.str (Str.ofString "Wed"), PyData.str (Str.ofString "Thu"), PyData.str (Str.ofString "Fri"), PyData.str (Str.ofString "Sat"), PyData.str (Str.ofString "Sun")] := by rfl
theorem tb_m : tbT (Str.ofString "MONTHS") = some [PyData.str (Str.ofString "Jan"), PyData.str (Str.ofString "Feb"), PyData.str (Str.ofString "Mar"), PyData.str (Str.ofString "Apr"), PyData.str (Str.ofString "May"), PyData.str (Str.ofString "Jun"), PyData.str (Str.ofString "Jul"), PyData.str (Str.ofString "Aug"), PyData.str (Str.ofString "Sep"), PyData.str (Str.ofString "Oct"), PyData.str (Str.ofString "Nov"), PyData.str (Str.ofString "Dec")] := by rfl
/-! ### the reader -/
abbrev RD (t : List Nat) (a : Int) : Sl := .o (Str.ofString "Reader") [(Str.ofString "text", .d (.str (S t))), (Str.ofString "at", .d (.int a))]
theorem lk_text {x y : Sl} : List.lookup (Str.ofString "text") [(Str.ofString "text", x), (Str.ofString "at", y)] = some x := rfl
theorem lk_at {x y : Sl} : List.lookup (Str.ofString "at") [(Str.ofString "text", x), (Str.ofString "at", y)] = some y := rfl
theorem lk_m1 {x y : Sl} : List.lookup (Str.ofString "take") [(Str.ofString "text", x), (Str.ofString "at", y)] = none := rfl
theorem lk_m2 {x y : Sl} : List.lookup (Str.ofString "one_of") [(Str.ofString "text", x), (Str.ofString "at", y)] = none := rfl
theorem lk_m3 {x y : Sl} : List.lookup (Str.ofString "number") [(Str.ofString "text", x), (Str.ofString "at", y)] = none := rfl
theorem put_at {x y z : Sl} : putS (Str.ofString "at") z [(Str.ofString "text", x), (Str.ofString "at", y)] = [(Str.ofString "text", x), (Str.ofString "at", z)] := rfl
theorem put_t0 {z : Sl} : putS (Str.ofString "text") z [] = [(Str.ofString "text", z)] := rfl
theorem put_a0 {x z : Sl} : putS (Str.ofString "at") z [(Str.ofString "text", x)] = [(Str.ofString "text", x), (Str.ofString "at", z)] := rfl
theorem l_slS {x : Str} {l h : Option Int} : dSl (.str x) l h = if x.length ≤ 16777216 then some (.str (cutS x l h)) else none := rfl
theorem l_addI2 {a b : Int} : dAddI (.int a) (.int b) = some (.int (a + b)) := rfl
theorem l_addS2 {x y : Str} : dAddI (.str x) (.str y) = if x.length + y.length ≤ 16777216 then some (.str (x ++ y)) else none := rfl
theorem cut_i {t p r q : List Nat} {a b : Int} (ht : t = p ++ (r ++ q)) (ha : a = (p.length : Nat)) (hb : b = a + (r.length : Nat)) : cutS (S t) (some a) (some b) = S r := by
  subst ht ha hb
  rw [← Int.natCast_add]
  exact cut_at
theorem init_ok (t : List Nat) : m_Reader___init__ [.o (Str.ofString "Reader") [], .d (.str (S t))] = .ok (.d .none) [RD t 0, .un] := by
  refine eqF (wF_run rfl ?_)
  simp only [b_Reader___init__, r_lft, r_var, r_own, r_c, r_bin, r_binO, r_cmp, r_tcmp, r_tcmpO, r_tru, r_tand, r_tor, r_tnot, r_eif, r_nif, r_and, r_or, r_not, r_neg, r_cb, r_ncb, r_bm, r_bm0, r_tup, r_lst, r_anil, r_acons, r_aone, r_vnil, r_vcons, r_vslot, r_sl, r_onone, r_osome, r_chain, r_tchain, r_isi, r_iany, r_rg1, r_rg2, r_yes, r_frz, r_call, r_F, r_sif, r_snil, r_pass, r_break, r_cont, r_no, r_ret, r_retN, r_retNone, r_drop, r_dropN, r_asg, r_asgN, r_aug, r_stup, r_app, r_ext, r_setix, r_for, r_retOwn, wE_nComp, wE_ok, wS_nx, wS_rt, wS_bk, wS_ct, wS_seq, wV_d, wV_l, wO_d, wO_l, wL_some, wL_ite, wL_map, cB_true, cB_false, cB_not, wZ_d, wZ_l, wTk_some, wT_some, wipeE, tk_nil, tk_v, tk_s, putA, mask, d1, d2, tyD, okS_d, okS_l, lOf, asI, Option.isSome_some, Option.getD_some, Option.map_some, List.getElem?_cons_zero, List.getElem?_cons_succ, List.set_cons_zero, List.set_cons_succ, List.replicate_succ, List.replicate_zero, List.cons_append, List.nil_append, List.not_mem_nil, List.mem_cons, or_false, not_false_eq_true, true_and, decide_true, if_true, if_false, Bool.false_eq_true, reduceIte, Nat.reduceEqDiff, Nat.reduceAdd, Nat.reduceSub, Nat.reduceLeDiff, Nat.reduceLT, Int.reduceLT, Int.reduceLE, Int.reduceAdd, Int.reduceSub, Int.reduceEq, Int.reduceNeg, Nat.reduceMul, decide_false, Bool.not_true, Bool.not_false, and_true, true_or, or_true, Int.reduceMul, Int.reduceToNat, Nat.reducePow, Int.reducePow, Nat.not_lt_zero, r_negv, l_neg, r_vfn, tk_f, r_tix, r_gl, r_tixS, glOf, r_par2, r_par3, wP2_c, wP3_c, r_fld, r_fldP, r_fldA, r_meth, r_make, r_pop, wFl_d, wNo_none, wMk_ok, oFs_o, okS_o, List.map_cons, List.map_nil, false_or, l_addI, l_addS, l_addL, l_addT, l_sub, l_div, l_mod, l_mulI, l_mulS, l_mulL, l_eqI, l_eqS, l_neI, l_neS, l_ltI, l_leI, l_gtI, l_geI, l_ltS, l_leS, l_gtS, l_geS, l_truI, l_truB, l_truL, l_truT, l_truN, l_truS, l_lenS, l_lenL, l_lenT, l_intI, l_absI, l_tupL, l_tupT, l_itL, l_itT, l_itS, l_rg1, l_rg2, l_ixL, l_ixT, l_ixS, at_0, at_1, at_2, at_3, set_0, set_1, set_2, set_3, List.length_cons, List.length_nil, Int.cast_ofNat_Int, Int.natCast_one, tgD_n, tgD_t, tgA_nil, tgA_cons, Option.bind_some, l_isSS, l_isST, l_isSL, l_isSI, l_isTT, l_isTS, l_isTL, l_isTI, l_isII, l_isBI, l_isLL, l_ord, put_t0, put_a0]
theorem take_ok {t p r q : List Nat} {a b : Int} (ht : t = p ++ (r ++ q)) (ha : a = (p.length : Nat)) (hb : b = a + (r.length : Nat)) (hl : t.length ≤ 1000) (hr : r.length ≤ 1000) : m_Reader_take [RD t a, .d (.str (S r))] = .ok (.d .none) [RD t b, .un] := by
  have hc := cut_i ht ha hb
  subst hb
  refine eqF (wF_run rfl ?_)
  simp only [b_Reader_take, r_lft, r_var, r_own, r_c, r_bin, r_binO, r_cmp, r_tcmp, r_tcmpO, r_tru, r_tand, r_tor, r_tnot, r_eif, r_nif, r_and, r_or, r_not, r_neg, r_cb, r_ncb, r_bm, r_bm0, r_tup, r_lst, r_anil, r_acons, r_aone, r_vnil, r_vcons, r_vslot, r_sl, r_onone, r_osome, r_chain, r_tchain, r_isi, r_iany, r_rg1, r_rg2, r_yes, r_frz, r_call, r_F, r_sif, r_snil, r_pass, r_break, r_cont, r_no, r_ret, r_retN, r_retNone, r_drop, r_dropN, r_asg, r_asgN, r_aug, r_stup, r_app, r_ext, r_setix, r_for, r_retOwn, wE_nComp, wE_ok, wS_nx, wS_rt, wS_bk, wS_ct, wS_seq, wV_d, wV_l, wO_d, wO_l, wL_some, wL_ite, wL_map, cB_true, cB_false, cB_not, wZ_d, wZ_l, wTk_some, wT_some, wipeE, tk_nil, tk_v, tk_s, putA, mask, d1, d2, tyD, okS_d, okS_l, lOf, asI, Option.isSome_some, Option.getD_some, Option.map_some, List.getElem?_cons_zero, List.getElem?_cons_succ, List.set_cons_zero, List.set_cons_succ, List.replicate_succ, List.replicate_zero, List.cons_append, List.nil_append, List.not_mem_nil, List.mem_cons, or_false, not_false_eq_true, true_and, decide_true, if_true, if_false, Bool.false_eq_true, reduceIte, Nat.reduceEqDiff, Nat.reduceAdd, Nat.reduceSub, Nat.reduceLeDiff, Nat.reduceLT, Int.reduceLT, Int.reduceLE, Int.reduceAdd, Int.reduceSub, Int.reduceEq, Int.reduceNeg, Nat.reduceMul, decide_false, Bool.not_true, Bool.not_false, and_true, true_or, or_true, Int.reduceMul, Int.reduceToNat, Nat.reducePow, Int.reducePow, Nat.not_lt_zero, r_negv, l_neg, r_vfn, tk_f, r_tix, r_gl, r_tixS, glOf, r_par2, r_par3, wP2_c, wP3_c, r_fld, r_fldP, r_fldA, r_meth, r_make, r_pop, wFl_d, wNo_none, wMk_ok, oFs_o, okS_o, List.map_cons, List.map_nil, false_or, l_addI, l_addS, l_addL, l_addT, l_sub, l_div, l_mod, l_mulI, l_mulS, l_mulL, l_eqI, l_eqS, l_neI, l_neS, l_ltI, l_leI, l_gtI, l_geI, l_ltS, l_leS, l_gtS, l_geS, l_truI, l_truB, l_truL, l_truT, l_truN, l_truS, l_lenS, l_lenL, l_lenT, l_intI, l_absI, l_tupL, l_tupT, l_itL, l_itT, l_itS, l_rg1, l_rg2, l_ixL, l_ixT, l_ixS, at_0, at_1, at_2, at_3, set_0, set_1, set_2, set_3, List.length_cons, List.length_nil, Int.cast_ofNat_Int, Int.natCast_one, tgD_n, tgD_t, tgA_nil, tgA_cons, Option.bind_some, l_isSS, l_isST, l_isSL, l_isSI, l_isTT, l_isTS, l_isTL, l_isTI, l_isII, l_isBI, l_isLL, l_ord, lk_text, lk_at, l_slS, S_len, l_addI2, put_at]
  refine ⟨by omega, by omega, ?_⟩
  simp only [hc, r_lft, r_var, r_own, r_c, r_bin, r_binO, r_cmp, r_tcmp, r_tcmpO, r_tru, r_tand, r_tor, r_tnot, r_eif, r_nif, r_and, r_or, r_not, r_neg, r_cb, r_ncb, r_bm, r_bm0, r_tup, r_lst, r_anil, r_acons, r_aone, r_vnil, r_vcons, r_vslot, r_sl, r_onone, r_osome, r_chain, r_tchain, r_isi, r_iany, r_rg1, r_rg2, r_yes, r_frz, r_call, r_F, r_sif, r_snil, r_pass, r_break, r_cont, r_no, r_ret, r_retN, r_retNone, r_drop, r_dropN, r_asg, r_asgN, r_aug, r_stup, r_app, r_ext, r_setix, r_for, r_retOwn, wE_nComp, wE_ok, wS_nx, wS_rt, wS_bk, wS_ct, wS_seq, wV_d, wV_l, wO_d, wO_l, wL_some, wL_ite, wL_map, cB_true, cB_false, cB_not, wZ_d, wZ_l, wTk_some, wT_some, wipeE, tk_nil, tk_v, tk_s, putA, mask, d1, d2, tyD, okS_d, okS_l, lOf, asI, Option.isSome_some, Option.getD_some, Option.map_some, List.getElem?_cons_zero, List.getElem?_cons_succ, List.set_cons_zero, List.set_cons_succ, List.replicate_succ, List.replicate_zero, List.cons_append, List.nil_append, List.not_mem_nil, List.mem_cons, or_false, not_false_eq_true, true_and, decide_true, if_true, if_false, Bool.false_eq_true, reduceIte, Nat.reduceEqDiff, Nat.reduceAdd, Nat.reduceSub, Nat.reduceLeDiff, Nat.reduceLT, Int.reduceLT, Int.reduceLE, Int.reduceAdd, Int.reduceSub, Int.reduceEq, Int.reduceNeg, Nat.reduceMul, decide_false, Bool.not_true, Bool.not_false, and_true, true_or, or_true, Int.reduceMul, Int.reduceToNat, Nat.reducePow, Int.reducePow, Nat.not_lt_zero, r_negv, l_neg, r_vfn, tk_f, r_tix, r_gl, r_tixS, glOf, r_par2, r_par3, wP2_c, wP3_c, r_fld, r_fldP, r_fldA, r_meth, r_make, r_pop, wFl_d, wNo_none, wMk_ok, oFs_o, okS_o, List.map_cons, List.map_nil, false_or, l_addI, l_addS, l_addL, l_addT, l_sub, l_div, l_mod, l_mulI, l_mulS, l_mulL, l_eqI, l_eqS, l_neI, l_neS, l_ltI, l_leI, l_gtI, l_geI, l_ltS, l_leS, l_gtS, l_geS, l_truI, l_truB, l_truL, l_truT, l_truN, l_truS, l_lenS, l_lenL, l_lenT, l_intI, l_absI, l_tupL, l_tupT, l_itL, l_itT, l_itS, l_rg1, l_rg2, l_ixL, l_ixT, l_ixS, at_0, at_1, at_2, at_3, set_0, set_1, set_2, set_3, List.length_cons, List.length_nil, Int.cast_ofNat_Int, Int.natCast_one, tgD_n, tgD_t, tgA_nil, tgA_cons, Option.bind_some, l_isSS, l_isST, l_isSL, l_isSI, l_isTT, l_isTS, l_isTL, l_isTI, l_isII, l_isBI, l_isLL, l_ord, lk_text, lk_at, l_slS, S_len, l_addI2, put_at]
  omega
theorem one_ok {t p r q : List Nat} {a b : Int} {nm : Str} {ds : List D} {j : Int} (ht : t = p ++ (r ++ q)) (ha : a = (p.length : Nat)) (hr : r.length = 3) (hb : b = a + 3) (hl : t.length ≤ 1000) (hg : tbT nm = some ds)
    (h1 : dNinB (.str (S r)) (.tuple ds) = some false) (h2 : dTIndex (.tuple ds) [.str (S r)] = some (.int j)) : m_Reader_one_of [RD t a, .f nm] = .ok (.d (.int j)) [RD t b, .un] := by
  have hc := cut_i (b := a + 3) ht ha (by rw [hr]; rfl)
  subst hb
  refine eqF (wF_run rfl ?_)
  simp only [b_Reader_one_of, r_lft, r_var, r_own, r_c, r_bin, r_binO, r_cmp, r_tcmp, r_tcmpO, r_tru, r_tand, r_tor, r_tnot, r_eif, r_nif, r_and, r_or, r_not, r_neg, r_cb, r_ncb, r_bm, r_bm0, r_tup, r_lst, r_anil, r_acons, r_aone, r_vnil, r_vcons, r_vslot, r_sl, r_onone, r_osome, r_chain, r_tchain, r_isi, r_iany, r_rg1, r_rg2, r_yes, r_frz, r_call, r_F, r_sif, r_snil, r_pass, r_break, r_cont, r_no, r_ret, r_retN, r_retNone, r_drop, r_dropN, r_asg, r_asgN, r_aug, r_stup, r_app, r_ext, r_setix, r_for, r_retOwn, wE_nComp, wE_ok, wS_nx, wS_rt, wS_bk, wS_ct, wS_seq, wV_d, wV_l, wO_d, wO_l, wL_some, wL_ite, wL_map, cB_true, cB_false, cB_not, wZ_d, wZ_l, wTk_some, wT_some, wipeE, tk_nil, tk_v, tk_s, putA, mask, d1, d2, tyD, okS_d, okS_l, lOf, asI, Option.isSome_some, Option.getD_some, Option.map_some, List.getElem?_cons_zero, List.getElem?_cons_succ, List.set_cons_zero, List.set_cons_succ, List.replicate_succ, List.replicate_zero, List.cons_append, List.nil_append, List.not_mem_nil, List.mem_cons, or_false, not_false_eq_true, true_and, decide_true, if_true, if_false, Bool.false_eq_true, reduceIte, Nat.reduceEqDiff, Nat.reduceAdd, Nat.reduceSub, Nat.reduceLeDiff, Nat.reduceLT, Int.reduceLT, Int.reduceLE, Int.reduceAdd, Int.reduceSub, Int.reduceEq, Int.reduceNeg, Nat.reduceMul, decide_false, Bool.not_true, Bool.not_false, and_true, true_or, or_true, Int.reduceMul, Int.reduceToNat, Nat.reducePow, Int.reducePow, Nat.not_lt_zero, r_negv, l_neg, r_vfn, tk_f, r_tix, r_gl, r_tixS, glOf, r_par2, r_par3, wP2_c, wP3_c, r_fld, r_fldP, r_fldA, r_meth, r_make, r_pop, wFl_d, wNo_none, wMk_ok, oFs_o, okS_o, List.map_cons, List.map_nil, false_or, l_addI, l_addS, l_addL, l_addT, l_sub, l_div, l_mod, l_mulI, l_mulS, l_mulL, l_eqI, l_eqS, l_neI, l_neS, l_ltI, l_leI, l_gtI, l_geI, l_ltS, l_leS, l_gtS, l_geS, l_truI, l_truB, l_truL, l_truT, l_truN, l_truS, l_lenS, l_lenL, l_lenT, l_intI, l_absI, l_tupL, l_tupT, l_itL, l_itT, l_itS, l_rg1, l_rg2, l_ixL, l_ixT, l_ixS, at_0, at_1, at_2, at_3, set_0, set_1, set_2, set_3, List.length_cons, List.length_nil, Int.cast_ofNat_Int, Int.natCast_one, tgD_n, tgD_t, tgA_nil, tgA_cons, Option.bind_some, l_isSS, l_isST, l_isSL, l_isSI, l_isTT, l_isTS, l_isTL, l_isTI, l_isII, l_isBI, l_isLL, l_ord, lk_text, lk_at, l_slS, S_len, l_addI2, put_at]
  refine ⟨by omega, ?_⟩
  simp only [hc, r_lft, r_var, r_own, r_c, r_bin, r_binO, r_cmp, r_tcmp, r_tcmpO, r_tru, r_tand, r_tor, r_tnot, r_eif, r_nif, r_and, r_or, r_not, r_neg, r_cb, r_ncb, r_bm, r_bm0, r_tup, r_lst, r_anil, r_acons, r_aone, r_vnil, r_vcons, r_vslot, r_sl, r_onone, r_osome, r_chain, r_tchain, r_isi, r_iany, r_rg1, r_rg2, r_yes, r_frz, r_call, r_F, r_sif, r_snil, r_pass, r_break, r_cont, r_no, r_ret, r_retN, r_retNone, r_drop, r_dropN, r_asg, r_asgN, r_aug, r_stup, r_app, r_ext, r_setix, r_for, r_retOwn, wE_nComp, wE_ok, wS_nx, wS_rt, wS_bk, wS_ct, wS_seq, wV_d, wV_l, wO_d, wO_l, wL_some, wL_ite, wL_map, cB_true, cB_false, cB_not, wZ_d, wZ_l, wTk_some, wT_some, wipeE, tk_nil, tk_v, tk_s, putA, mask, d1, d2, tyD, okS_d, okS_l, lOf, asI, Option.isSome_some, Option.getD_some, Option.map_some, List.getElem?_cons_zero, List.getElem?_cons_succ, List.set_cons_zero, List.set_cons_succ, List.replicate_succ, List.replicate_zero, List.cons_append, List.nil_append, List.not_mem_nil, List.mem_cons, or_false, not_false_eq_true, true_and, decide_true, if_true, if_false, Bool.false_eq_true, reduceIte, Nat.reduceEqDiff, Nat.reduceAdd, Nat.reduceSub, Nat.reduceLeDiff, Nat.reduceLT, Int.reduceLT, Int.reduceLE, Int.reduceAdd, Int.reduceSub, Int.reduceEq, Int.reduceNeg, Nat.reduceMul, decide_false, Bool.not_true, Bool.not_false, and_true, true_or, or_true, Int.reduceMul, Int.reduceToNat, Nat.reducePow, Int.reducePow, Nat.not_lt_zero, r_negv, l_neg, r_vfn, tk_f, r_tix, r_gl, r_tixS, glOf, r_par2, r_par3, wP2_c, wP3_c, r_fld, r_fldP, r_fldA, r_meth, r_make, r_pop, wFl_d, wNo_none, wMk_ok, oFs_o, okS_o, List.map_cons, List.map_nil, false_or, l_addI, l_addS, l_addL, l_addT, l_sub, l_div, l_mod, l_mulI, l_mulS, l_mulL, l_eqI, l_eqS, l_neI, l_neS, l_ltI, l_leI, l_gtI, l_geI, l_ltS, l_leS, l_gtS, l_geS, l_truI, l_truB, l_truL, l_truT, l_truN, l_truS, l_lenS, l_lenL, l_lenT, l_intI, l_absI, l_tupL, l_tupT, l_itL, l_itT, l_itS, l_rg1, l_rg2, l_ixL, l_ixT, l_ixS, at_0, at_1, at_2, at_3, set_0, set_1, set_2, set_3, List.length_cons, List.length_nil, Int.cast_ofNat_Int, Int.natCast_one, tgD_n, tgD_t, tgA_nil, tgA_cons, Option.bind_some, l_isSS, l_isST, l_isSL, l_isSI, l_isTT, l_isTS, l_isTL, l_isTI, l_isII, l_isBI, l_isLL, l_ord, lk_text, lk_at, l_slS, S_len, l_addI2, put_at, hg, h1, h2]
theorem l_inD {c : Nat} (h : 48 ≤ c ∧ c ≤ 57) : dInB (.str ⟨#[c]⟩) (.str (Str.ofString "0123456789")) = some true := by
  show some (decide (c ∈ (Str.ofString "0123456789").cps.toList)) = some true
  rw [digs]
  refine congrArg some (decide_eq_true ?_)
  have : c = 48 ∨ c = 49 ∨ c = 50 ∨ c = 51 ∨ c = 52 ∨ c = 53 ∨ c = 54 ∨ c = 55 ∨ c = 56 ∨ c = 57 := by omega
  simp only [List.mem_cons, List.not_mem_nil, or_false]
  omega
theorem l_intS {r : List Nat} {n : Int} (h : PySem.intText? (S r) = some n) (hl : r.length ≤ 640) : dIntOf (.str (S r)) = some (.int n) := by
  show (match PySem.intText? (S r) with | some n => if (S r).length ≤ 640 then some (PyData.int n) else none | none => none) = _
  rw [h]
  exact if_pos (by rw [S_len]; exact hl)
theorem num_ok {t p r q : List Nat} {a b lo hi n : Int} {k : Int} (ht : t = p ++ (r ++ q)) (ha : a = (p.length : Nat)) (hk : k = (r.length : Nat)) (hb : b = a + k) (hl : t.length ≤ 1000) (hd : ∀ c ∈ r, 48 ≤ c ∧ c ≤ 57) (hr : r.length ≤ 640) (hn : PySem.intText? (S r) = some n) (h1 : lo ≤ n) (h2 : n ≤ hi) :
    m_Reader_number [RD t a, .d (.int lo), .d (.int hi), .d (.int k)] = .ok (.d (.int n)) [RD t b, .un, .un, .un] := by
  have hc := cut_i (b := a + k) ht ha (by rw [hk])
  subst hb
  have e0 : decide (((r.length : Nat) : Int) < k) = false := decide_eq_false (by omega)
  have e1 : decide (lo ≤ n) = true := decide_eq_true h1
  have e2 : decide (n ≤ hi) = true := decide_eq_true h2
  have hi0 := l_intS hn hr
  refine eqF (wF_run rfl ?_)
  simp only [b_Reader_number, r_lft, r_var, r_own, r_c, r_bin, r_binO, r_cmp, r_tcmp, r_tcmpO, r_tru, r_tand, r_tor, r_tnot, r_eif, r_nif, r_and, r_or, r_not, r_neg, r_cb, r_ncb, r_bm, r_bm0, r_tup, r_lst, r_anil, r_acons, r_aone, r_vnil, r_vcons, r_vslot, r_sl, r_onone, r_osome, r_chain, r_tchain, r_isi, r_iany, r_rg1, r_rg2, r_yes, r_frz, r_call, r_F, r_sif, r_snil, r_pass, r_break, r_cont, r_no, r_ret, r_retN, r_retNone, r_drop, r_dropN, r_asg, r_asgN, r_aug, r_stup, r_app, r_ext, r_setix, r_for, r_retOwn, wE_nComp, wE_ok, wS_nx, wS_rt, wS_bk, wS_ct, wS_seq, wV_d, wV_l, wO_d, wO_l, wL_some, wL_ite, wL_map, cB_true, cB_false, cB_not, wZ_d, wZ_l, wTk_some, wT_some, wipeE, tk_nil, tk_v, tk_s, putA, mask, d1, d2, tyD, okS_d, okS_l, lOf, asI, Option.isSome_some, Option.getD_some, Option.map_some, List.getElem?_cons_zero, List.getElem?_cons_succ, List.set_cons_zero, List.set_cons_succ, List.replicate_succ, List.replicate_zero, List.cons_append, List.nil_append, List.not_mem_nil, List.mem_cons, or_false, not_false_eq_true, true_and, decide_true, if_true, if_false, Bool.false_eq_true, reduceIte, Nat.reduceEqDiff, Nat.reduceAdd, Nat.reduceSub, Nat.reduceLeDiff, Nat.reduceLT, Int.reduceLT, Int.reduceLE, Int.reduceAdd, Int.reduceSub, Int.reduceEq, Int.reduceNeg, Nat.reduceMul, decide_false, Bool.not_true, Bool.not_false, and_true, true_or, or_true, Int.reduceMul, Int.reduceToNat, Nat.reducePow, Int.reducePow, Nat.not_lt_zero, r_negv, l_neg, r_vfn, tk_f, r_tix, r_gl, r_tixS, glOf, r_par2, r_par3, wP2_c, wP3_c, r_fld, r_fldP, r_fldA, r_meth, r_make, r_pop, wFl_d, wNo_none, wMk_ok, oFs_o, okS_o, List.map_cons, List.map_nil, false_or, l_addI, l_addS, l_addL, l_addT, l_sub, l_div, l_mod, l_mulI, l_mulS, l_mulL, l_eqI, l_eqS, l_neI, l_neS, l_ltI, l_leI, l_gtI, l_geI, l_ltS, l_leS, l_gtS, l_geS, l_truI, l_truB, l_truL, l_truT, l_truN, l_truS, l_lenS, l_lenL, l_lenT, l_intI, l_absI, l_tupL, l_tupT, l_itL, l_itT, l_itS, l_rg1, l_rg2, l_ixL, l_ixT, l_ixS, at_0, at_1, at_2, at_3, set_0, set_1, set_2, set_3, List.length_cons, List.length_nil, Int.cast_ofNat_Int, Int.natCast_one, tgD_n, tgD_t, tgA_nil, tgA_cons, Option.bind_some, l_isSS, l_isST, l_isSL, l_isSI, l_isTT, l_isTS, l_isTL, l_isTI, l_isII, l_isBI, l_isLL, l_ord, lk_text, lk_at, l_slS, S_len, l_addI2, put_at]
  refine ⟨by omega, ?_⟩
  simp only [hc, r_lft, r_var, r_own, r_c, r_bin, r_binO, r_cmp, r_tcmp, r_tcmpO, r_tru, r_tand, r_tor, r_tnot, r_eif, r_nif, r_and, r_or, r_not, r_neg, r_cb, r_ncb, r_bm, r_bm0, r_tup, r_lst, r_anil, r_acons, r_aone, r_vnil, r_vcons, r_vslot, r_sl, r_onone, r_osome, r_chain, r_tchain, r_isi, r_iany, r_rg1, r_rg2, r_yes, r_frz, r_call, r_F, r_sif, r_snil, r_pass, r_break, r_cont, r_no, r_ret, r_retN, r_retNone, r_drop, r_dropN, r_asg, r_asgN, r_aug, r_stup, r_app, r_ext, r_setix, r_for, r_retOwn, wE_nComp, wE_ok, wS_nx, wS_rt, wS_bk, wS_ct, wS_seq, wV_d, wV_l, wO_d, wO_l, wL_some, wL_ite, wL_map, cB_true, cB_false, cB_not, wZ_d, wZ_l, wTk_some, wT_some, wipeE, tk_nil, tk_v, tk_s, putA, mask, d1, d2, tyD, okS_d, okS_l, lOf, asI, Option.isSome_some, Option.getD_some, Option.map_some, List.getElem?_cons_zero, List.getElem?_cons_succ, List.set_cons_zero, List.set_cons_succ, List.replicate_succ, List.replicate_zero, List.cons_append, List.nil_append, List.not_mem_nil, List.mem_cons, or_false, not_false_eq_true, true_and, decide_true, if_true, if_false, Bool.false_eq_true, reduceIte, Nat.reduceEqDiff, Nat.reduceAdd, Nat.reduceSub, Nat.reduceLeDiff, Nat.reduceLT, Int.reduceLT, Int.reduceLE, Int.reduceAdd, Int.reduceSub, Int.reduceEq, Int.reduceNeg, Nat.reduceMul, decide_false, Bool.not_true, Bool.not_false, and_true, true_or, or_true, Int.reduceMul, Int.reduceToNat, Nat.reducePow, Int.reducePow, Nat.not_lt_zero, r_negv, l_neg, r_vfn, tk_f, r_tix, r_gl, r_tixS, glOf, r_par2, r_par3, wP2_c, wP3_c, r_fld, r_fldP, r_fldA, r_meth, r_make, r_pop, wFl_d, wNo_none, wMk_ok, oFs_o, okS_o, List.map_cons, List.map_nil, false_or, l_addI, l_addS, l_addL, l_addT, l_sub, l_div, l_mod, l_mulI, l_mulS, l_mulL, l_eqI, l_eqS, l_neI, l_neS, l_ltI, l_leI, l_gtI, l_geI, l_ltS, l_leS, l_gtS, l_geS, l_truI, l_truB, l_truL, l_truT, l_truN, l_truS, l_lenS, l_lenL, l_lenT, l_intI, l_absI, l_tupL, l_tupT, l_itL, l_itT, l_itS, l_rg1, l_rg2, l_ixL, l_ixT, l_ixS, at_0, at_1, at_2, at_3, set_0, set_1, set_2, set_3, List.length_cons, List.length_nil, Int.cast_ofNat_Int, Int.natCast_one, tgD_n, tgD_t, tgA_nil, tgA_cons, Option.bind_some, l_isSS, l_isST, l_isSL, l_isSI, l_isTT, l_isTS, l_isTL, l_isTI, l_isII, l_isBI, l_isLL, l_ord, lk_text, lk_at, l_slS, S_len, l_addI2, put_at, e0]
  refine ⟨by omega, ?_⟩
  refine wE_comp [RD t a, .d (.int lo), .d (.int hi), .d (.int k), .d (.str (S r)), .un] (fun _ => some (.bool true)) rfl (by simp; omega) (fun x hx => ?_) ?_
  · obtain ⟨c, hc, rfl⟩ := List.mem_map.mp hx
    refine ⟨_, rfl, ?_⟩
    simp only [r_lft, r_var, r_own, r_c, r_bin, r_binO, r_cmp, r_tcmp, r_tcmpO, r_tru, r_tand, r_tor, r_tnot, r_eif, r_nif, r_and, r_or, r_not, r_neg, r_cb, r_ncb, r_bm, r_bm0, r_tup, r_lst, r_anil, r_acons, r_aone, r_vnil, r_vcons, r_vslot, r_sl, r_onone, r_osome, r_chain, r_tchain, r_isi, r_iany, r_rg1, r_rg2, r_yes, r_frz, r_call, r_F, r_sif, r_snil, r_pass, r_break, r_cont, r_no, r_ret, r_retN, r_retNone, r_drop, r_dropN, r_asg, r_asgN, r_aug, r_stup, r_app, r_ext, r_setix, r_for, r_retOwn, wE_nComp, wE_ok, wS_nx, wS_rt, wS_bk, wS_ct, wS_seq, wV_d, wV_l, wO_d, wO_l, wL_some, wL_ite, wL_map, cB_true, cB_false, cB_not, wZ_d, wZ_l, wTk_some, wT_some, wipeE, tk_nil, tk_v, tk_s, putA, mask, d1, d2, tyD, okS_d, okS_l, lOf, asI, Option.isSome_some, Option.getD_some, Option.map_some, List.getElem?_cons_zero, List.getElem?_cons_succ, List.set_cons_zero, List.set_cons_succ, List.replicate_succ, List.replicate_zero, List.cons_append, List.nil_append, List.not_mem_nil, List.mem_cons, or_false, not_false_eq_true, true_and, decide_true, if_true, if_false, Bool.false_eq_true, reduceIte, Nat.reduceEqDiff, Nat.reduceAdd, Nat.reduceSub, Nat.reduceLeDiff, Nat.reduceLT, Int.reduceLT, Int.reduceLE, Int.reduceAdd, Int.reduceSub, Int.reduceEq, Int.reduceNeg, Nat.reduceMul, decide_false, Bool.not_true, Bool.not_false, and_true, true_or, or_true, Int.reduceMul, Int.reduceToNat, Nat.reducePow, Int.reducePow, Nat.not_lt_zero, r_negv, l_neg, r_vfn, tk_f, r_tix, r_gl, r_tixS, glOf, r_par2, r_par3, wP2_c, wP3_c, r_fld, r_fldP, r_fldA, r_meth, r_make, r_pop, wFl_d, wNo_none, wMk_ok, oFs_o, okS_o, List.map_cons, List.map_nil, false_or, l_addI, l_addS, l_addL, l_addT, l_sub, l_div, l_mod, l_mulI, l_mulS, l_mulL, l_eqI, l_eqS, l_neI, l_neS, l_ltI, l_leI, l_gtI, l_geI, l_ltS, l_leS, l_gtS, l_geS, l_truI, l_truB, l_truL, l_truT, l_truN, l_truS, l_lenS, l_lenL, l_lenT, l_intI, l_absI, l_tupL, l_tupT, l_itL, l_itT, l_itS, l_rg1, l_rg2, l_ixL, l_ixT, l_ixS, at_0, at_1, at_2, at_3, set_0, set_1, set_2, set_3, List.length_cons, List.length_nil, Int.cast_ofNat_Int, Int.natCast_one, tgD_n, tgD_t, tgA_nil, tgA_cons, Option.bind_some, l_isSS, l_isST, l_isSL, l_isSI, l_isTT, l_isTS, l_isTL, l_isTI, l_isII, l_isBI, l_isLL, l_ord, l_inD (hd c (by simpa using hc))]
    try rfl
  · (try simp only [r_lft, r_var, r_own, r_c, r_bin, r_binO, r_cmp, r_tcmp, r_tcmpO, r_tru, r_tand, r_tor, r_tnot, r_eif, r_nif, r_and, r_or, r_not, r_neg, r_cb, r_ncb, r_bm, r_bm0, r_tup, r_lst, r_anil, r_acons, r_aone, r_vnil, r_vcons, r_vslot, r_sl, r_onone, r_osome, r_chain, r_tchain, r_isi, r_iany, r_rg1, r_rg2, r_yes, r_frz, r_call, r_F, r_sif, r_snil, r_pass, r_break, r_cont, r_no, r_ret, r_retN, r_retNone, r_drop, r_dropN, r_asg, r_asgN, r_aug, r_stup, r_app, r_ext, r_setix, r_for, r_retOwn, wE_nComp, wE_ok, wS_nx, wS_rt, wS_bk, wS_ct, wS_seq, wV_d, wV_l, wO_d, wO_l, wL_some, wL_ite, wL_map, cB_true, cB_false, cB_not, wZ_d, wZ_l, wTk_some, wT_some, wipeE, tk_nil, tk_v, tk_s, putA, mask, d1, d2, tyD, okS_d, okS_l, lOf, asI, Option.isSome_some, Option.getD_some, Option.map_some, List.getElem?_cons_zero, List.getElem?_cons_succ, List.set_cons_zero, List.set_cons_succ, List.replicate_succ, List.replicate_zero, List.cons_append, List.nil_append, List.not_mem_nil, List.mem_cons, or_false, not_false_eq_true, true_and, decide_true, if_true, if_false, Bool.false_eq_true, reduceIte, Nat.reduceEqDiff, Nat.reduceAdd, Nat.reduceSub, Nat.reduceLeDiff, Nat.reduceLT, Int.reduceLT, Int.reduceLE, Int.reduceAdd, Int.reduceSub, Int.reduceEq, Int.reduceNeg, Nat.reduceMul, decide_false, Bool.not_true, Bool.not_false, and_true, true_or, or_true, Int.reduceMul, Int.reduceToNat, Nat.reducePow, Int.reducePow, Nat.not_lt_zero, r_negv, l_neg, r_vfn, tk_f, r_tix, r_gl, r_tixS, glOf, r_par2, r_par3, wP2_c, wP3_c, r_fld, r_fldP, r_fldA, r_meth, r_make, r_pop, wFl_d, wNo_none, wMk_ok, oFs_o, okS_o, List.map_cons, List.map_nil, false_or, l_addI, l_addS, l_addL, l_addT, l_sub, l_div, l_mod, l_mulI, l_mulS, l_mulL, l_eqI, l_eqS, l_neI, l_neS, l_ltI, l_leI, l_gtI, l_geI, l_ltS, l_leS, l_gtS, l_geS, l_truI, l_truB, l_truL, l_truT, l_truN, l_truS, l_lenS, l_lenL, l_lenT, l_intI, l_absI, l_tupL, l_tupT, l_itL, l_itT, l_itS, l_rg1, l_rg2, l_ixL, l_ixT, l_ixS, at_0, at_1, at_2, at_3, set_0, set_1, set_2, set_3, List.length_cons, List.length_nil, Int.cast_ofNat_Int, Int.natCast_one, tgD_n, tgD_t, tgA_nil, tgA_cons, Option.bind_some, l_isSS, l_isST, l_isSL, l_isSI, l_isTT, l_isTS, l_isTL, l_isTI, l_isII, l_isBI, l_isLL, l_ord])
    rw [all_true (by intro x hx; obtain ⟨y, _, h⟩ := List.mem_filterMap.mp hx; exact (Option.some.inj h).symm)]
    simp only [r_lft, r_var, r_own, r_c, r_bin, r_binO, r_cmp, r_tcmp, r_tcmpO, r_tru, r_tand, r_tor, r_tnot, r_eif, r_nif, r_and, r_or, r_not, r_neg, r_cb, r_ncb, r_bm, r_bm0, r_tup, r_lst, r_anil, r_acons, r_aone, r_vnil, r_vcons, r_vslot, r_sl, r_onone, r_osome, r_chain, r_tchain, r_isi, r_iany, r_rg1, r_rg2, r_yes, r_frz, r_call, r_F, r_sif, r_snil, r_pass, r_break, r_cont, r_no, r_ret, r_retN, r_retNone, r_drop, r_dropN, r_asg, r_asgN, r_aug, r_stup, r_app, r_ext, r_setix, r_for, r_retOwn, wE_nComp, wE_ok, wS_nx, wS_rt, wS_bk, wS_ct, wS_seq, wV_d, wV_l, wO_d, wO_l, wL_some, wL_ite, wL_map, cB_true, cB_false, cB_not, wZ_d, wZ_l, wTk_some, wT_some, wipeE, tk_nil, tk_v, tk_s, putA, mask, d1, d2, tyD, okS_d, okS_l, lOf, asI, Option.isSome_some, Option.getD_some, Option.map_some, List.getElem?_cons_zero, List.getElem?_cons_succ, List.set_cons_zero, List.set_cons_succ, List.replicate_succ, List.replicate_zero, List.cons_append, List.nil_append, List.not_mem_nil, List.mem_cons, or_false, not_false_eq_true, true_and, decide_true, if_true, if_false, Bool.false_eq_true, reduceIte, Nat.reduceEqDiff, Nat.reduceAdd, Nat.reduceSub, Nat.reduceLeDiff, Nat.reduceLT, Int.reduceLT, Int.reduceLE, Int.reduceAdd, Int.reduceSub, Int.reduceEq, Int.reduceNeg, Nat.reduceMul, decide_false, Bool.not_true, Bool.not_false, and_true, true_or, or_true, Int.reduceMul, Int.reduceToNat, Nat.reducePow, Int.reducePow, Nat.not_lt_zero, r_negv, l_neg, r_vfn, tk_f, r_tix, r_gl, r_tixS, glOf, r_par2, r_par3, wP2_c, wP3_c, r_fld, r_fldP, r_fldA, r_meth, r_make, r_pop, wFl_d, wNo_none, wMk_ok, oFs_o, okS_o, List.map_cons, List.map_nil, false_or, l_addI, l_addS, l_addL, l_addT, l_sub, l_div, l_mod, l_mulI, l_mulS, l_mulL, l_eqI, l_eqS, l_neI, l_neS, l_ltI, l_leI, l_gtI, l_geI, l_ltS, l_leS, l_gtS, l_geS, l_truI, l_truB, l_truL, l_truT, l_truN, l_truS, l_lenS, l_lenL, l_lenT, l_intI, l_absI, l_tupL, l_tupT, l_itL, l_itT, l_itS, l_rg1, l_rg2, l_ixL, l_ixT, l_ixS, at_0, at_1, at_2, at_3, set_0, set_1, set_2, set_3, List.length_cons, List.length_nil, Int.cast_ofNat_Int, Int.natCast_one, tgD_n, tgD_t, tgA_nil, tgA_cons, Option.bind_some, l_isSS, l_isST, l_isSL, l_isSI, l_isTT, l_isTS, l_isTL, l_isTI, l_isII, l_isBI, l_isLL, l_ord, hi0, e1, e2, lk_text, lk_at, l_addI2, put_at]
theorem tw_dig {n : Int} (h0 : 0 ≤ n) (h1 : n < 100) : ∀ c ∈ tw n, 48 ≤ c ∧ c ≤ 57 := by
  intro c hc
  simp only [tw, List.mem_cons, List.not_mem_nil, or_false] at hc
  rcases hc with rfl | rfl <;> omega
theorem intS {r : List Nat} (h : ∀ c ∈ r, 48 ≤ c ∧ c ≤ 57) (hne : r ≠ []) (hl : r.length ≤ 4300) : PySem.intText? (S r) = some ((NumText.digitsVal r : Nat) : Int) :=
  SX.int_S (List.all_eq_true.mpr fun c hc => by rw [decide_eq_true (h c hc).1, decide_eq_true (h c hc).2]; rfl) hne hl
theorem tw_val {n : Int} (h0 : 0 ≤ n) (h1 : n < 100) : PySem.intText? (S (tw n)) = some n := by
  rw [intS (tw_dig h0 h1) (by simp [tw]) (by rw [tw_len]; omega)]
  refine congrArg some ?_
  simp only [NumText.digitsVal, tw, List.foldl_cons, List.foldl_nil]
  omega
theorem fw_val {y : Int} (h0 : 0 ≤ y) (h1 : y < 10000) : PySem.intText? (S (tw (y / 100) ++ tw (y % 100))) = some y := by
  rw [intS (fun c hc => (List.mem_append.mp hc).elim (tw_dig (by omega) (by omega) c) (tw_dig (by omega) (by omega) c)) (by simp [tw]) (by simp [tw])]
  refine congrArg some ?_
  simp only [NumText.digitsVal, tw, List.cons_append, List.nil_append, List.foldl_cons, List.foldl_nil]
  omega
/-! ### the text -/
/-- a date's text: names w1 w2 w3, m1 m2 m3; sg the sign -/
def TX (w1 w2 w3 m1 m2 m3 : Nat) (d y h mi s : Int) (sg : Nat) (z : Int) : List Nat :=
  [w1, w2, w3, 44, 32] ++ (tw d ++ ([32, m1, m2, m3, 32] ++ ((tw (y / 100) ++ tw (y % 100)) ++ ([32] ++ (tw h ++ ([58] ++ (tw mi ++ ([58] ++ (tw s ++ ([32, sg] ++ (tw (z / 60) ++ tw (z % 60))))))))))))
theorem TX_len {w1 w2 w3 m1 m2 m3 : Nat} {d y h mi s : Int} {sg : Nat} {z : Int} : (TX w1 w2 w3 m1 m2 m3 d y h mi s sg z).length = 31 := rfl
theorem ch_co : Str.ofString ", " = S [44, 32] := by rfl
theorem ch_cl : Str.ofString ":" = S [58] := by rfl
theorem ch_s : Str.ofString " " = S [32] := by rfl
theorem ch_c : Str.ofString "," = S [44] := by rfl
theorem ch_p : Str.ofString "+" = S [43] := by rfl
theorem ch_m : Str.ofString "-" = S [45] := by rfl
theorem ch_sp2 : Str.ofString " +" = S [32, 43] := by rfl
theorem ch_sm2 : Str.ofString " -" = S [32, 45] := by rfl
theorem zone_ok {t p : List Nat} {z z' : Int} {sg : Nat} (ht : t = p ++ ([sg] ++ (tw (z / 60) ++ tw (z % 60)))) (hp : p.length = 26) (h0 : 0 ≤ z) (h1 : z ≤ 1439) (hs : (sg = 43 ∧ z' = z) ∨ (sg = 45 ∧ z' = -z ∧ 0 < z)) :
    m_read_zone [RD t 26] = .ok (.d (.int z')) [RD t 31] := by
  have hl : t.length = 31 := by rw [ht, List.length_append, hp]; rfl
  have c0 := cut_i (t := t) (p := p) (r := [sg]) (a := 26) (b := 27) ht (by rw [hp]; rfl) rfl
  have n1 := num_ok (t := t) (p := p ++ [sg]) (r := tw (z / 60)) (q := tw (z % 60)) (a := 27) (b := 29) (lo := 0) (hi := 23) (n := z / 60) (k := 2) (by rw [ht]; simp) (by rw [List.length_append, hp]; rfl) rfl rfl (by omega) (tw_dig (by omega) (by omega)) (by rw [tw_len]; omega) (tw_val (by omega) (by omega)) (by omega) (by omega)
  have n2 := num_ok (t := t) (p := p ++ [sg] ++ tw (z / 60)) (r := tw (z % 60)) (q := []) (a := 29) (b := 31) (lo := 0) (hi := 59) (n := z % 60) (k := 2) (by rw [ht]; simp) (by rw [List.length_append, List.length_append, hp]; rfl) rfl rfl (by omega) (tw_dig (by omega) (by omega)) (by rw [tw_len]; omega) (tw_val (by omega) (by omega)) (by omega) (by omega)
  have e1 : 60 * (z / 60) + z % 60 = z := by omega
  have lz : decide ((31 : Int) < ((t.length : Nat) : Int)) = false := decide_eq_false (by omega)
  refine eqF (wF_run rfl ?_)
  rcases hs with ⟨rfl, rfl⟩ | ⟨rfl, rfl, hz⟩
  · have g1 : dNinB (PyData.str (S [43])) (PyData.tuple [PyData.str (Str.ofString "+"), PyData.str (Str.ofString "-")]) = some false := by kernel_rfl
    have g2 : decide (S [43] = Str.ofString "-") = false := by decide +kernel
    simp only [b_read_zone, r_lft, r_var, r_own, r_c, r_bin, r_binO, r_cmp, r_tcmp, r_tcmpO, r_tru, r_tand, r_tor, r_tnot, r_eif, r_nif, r_and, r_or, r_not, r_neg, r_cb, r_ncb, r_bm, r_bm0, r_tup, r_lst, r_anil, r_acons, r_aone, r_vnil, r_vcons, r_vslot, r_sl, r_onone, r_osome, r_chain, r_tchain, r_isi, r_iany, r_rg1, r_rg2, r_yes, r_frz, r_call, r_F, r_sif, r_snil, r_pass, r_break, r_cont, r_no, r_ret, r_retN, r_retNone, r_drop, r_dropN, r_asg, r_asgN, r_aug, r_stup, r_app, r_ext, r_setix, r_for, r_retOwn, wE_nComp, wE_ok, wS_nx, wS_rt, wS_bk, wS_ct, wS_seq, wV_d, wV_l, wO_d, wO_l, wL_some, wL_ite, wL_map, cB_true, cB_false, cB_not, wZ_d, wZ_l, wTk_some, wT_some, wipeE, tk_nil, tk_v, tk_s, putA, mask, d1, d2, tyD, okS_d, okS_l, lOf, asI, Option.isSome_some, Option.getD_some, Option.map_some, List.getElem?_cons_zero, List.getElem?_cons_succ, List.set_cons_zero, List.set_cons_succ, List.replicate_succ, List.replicate_zero, List.cons_append, List.nil_append, List.not_mem_nil, List.mem_cons, or_false, not_false_eq_true, true_and, decide_true, if_true, if_false, Bool.false_eq_true, reduceIte, Nat.reduceEqDiff, Nat.reduceAdd, Nat.reduceSub, Nat.reduceLeDiff, Nat.reduceLT, Int.reduceLT, Int.reduceLE, Int.reduceAdd, Int.reduceSub, Int.reduceEq, Int.reduceNeg, Nat.reduceMul, decide_false, Bool.not_true, Bool.not_false, and_true, true_or, or_true, Int.reduceMul, Int.reduceToNat, Nat.reducePow, Int.reducePow, Nat.not_lt_zero, r_negv, l_neg, r_vfn, tk_f, r_tix, r_gl, r_tixS, glOf, r_par2, r_par3, wP2_c, wP3_c, r_fld, r_fldP, r_fldA, r_meth, r_make, r_pop, wFl_d, wNo_none, wMk_ok, oFs_o, okS_o, List.map_cons, List.map_nil, false_or, l_addI, l_addS, l_addL, l_addT, l_sub, l_div, l_mod, l_mulI, l_mulS, l_mulL, l_eqI, l_eqS, l_neI, l_neS, l_ltI, l_leI, l_gtI, l_geI, l_ltS, l_leS, l_gtS, l_geS, l_truI, l_truB, l_truL, l_truT, l_truN, l_truS, l_lenS, l_lenL, l_lenT, l_intI, l_absI, l_tupL, l_tupT, l_itL, l_itT, l_itS, l_rg1, l_rg2, l_ixL, l_ixT, l_ixS, at_0, at_1, at_2, at_3, set_0, set_1, set_2, set_3, List.length_cons, List.length_nil, Int.cast_ofNat_Int, Int.natCast_one, tgD_n, tgD_t, tgA_nil, tgA_cons, Option.bind_some, l_isSS, l_isST, l_isSL, l_isSI, l_isTT, l_isTS, l_isTL, l_isTI, l_isII, l_isBI, l_isLL, l_ord, lk_text, lk_at, lk_m3, l_slS, S_len, l_addI2, put_at, c0, n1, n2, hl, g1, g2, e1]
  · have g1 : dNinB (PyData.str (S [45])) (PyData.tuple [PyData.str (Str.ofString "+"), PyData.str (Str.ofString "-")]) = some false := by kernel_rfl
    have g2 : decide (S [45] = Str.ofString "-") = true := by decide +kernel
    have g3 : decide (z = 0) = false := decide_eq_false (by omega)
    simp only [b_read_zone, r_lft, r_var, r_own, r_c, r_bin, r_binO, r_cmp, r_tcmp, r_tcmpO, r_tru, r_tand, r_tor, r_tnot, r_eif, r_nif, r_and, r_or, r_not, r_neg, r_cb, r_ncb, r_bm, r_bm0, r_tup, r_lst, r_anil, r_acons, r_aone, r_vnil, r_vcons, r_vslot, r_sl, r_onone, r_osome, r_chain, r_tchain, r_isi, r_iany, r_rg1, r_rg2, r_yes, r_frz, r_call, r_F, r_sif, r_snil, r_pass, r_break, r_cont, r_no, r_ret, r_retN, r_retNone, r_drop, r_dropN, r_asg, r_asgN, r_aug, r_stup, r_app, r_ext, r_setix, r_for, r_retOwn, wE_nComp, wE_ok, wS_nx, wS_rt, wS_bk, wS_ct, wS_seq, wV_d, wV_l, wO_d, wO_l, wL_some, wL_ite, wL_map, cB_true, cB_false, cB_not, wZ_d, wZ_l, wTk_some, wT_some, wipeE, tk_nil, tk_v, tk_s, putA, mask, d1, d2, tyD, okS_d, okS_l, lOf, asI, Option.isSome_some, Option.getD_some, Option.map_some, List.getElem?_cons_zero, List.getElem?_cons_succ, List.set_cons_zero, List.set_cons_succ, List.replicate_succ, List.replicate_zero, List.cons_append, List.nil_append, List.not_mem_nil, List.mem_cons, or_false, not_false_eq_true, true_and, decide_true, if_true, if_false, Bool.false_eq_true, reduceIte, Nat.reduceEqDiff, Nat.reduceAdd, Nat.reduceSub, Nat.reduceLeDiff, Nat.reduceLT, Int.reduceLT, Int.reduceLE, Int.reduceAdd, Int.reduceSub, Int.reduceEq, Int.reduceNeg, Nat.reduceMul, decide_false, Bool.not_true, Bool.not_false, and_true, true_or, or_true, Int.reduceMul, Int.reduceToNat, Nat.reducePow, Int.reducePow, Nat.not_lt_zero, r_negv, l_neg, r_vfn, tk_f, r_tix, r_gl, r_tixS, glOf, r_par2, r_par3, wP2_c, wP3_c, r_fld, r_fldP, r_fldA, r_meth, r_make, r_pop, wFl_d, wNo_none, wMk_ok, oFs_o, okS_o, List.map_cons, List.map_nil, false_or, l_addI, l_addS, l_addL, l_addT, l_sub, l_div, l_mod, l_mulI, l_mulS, l_mulL, l_eqI, l_eqS, l_neI, l_neS, l_ltI, l_leI, l_gtI, l_geI, l_ltS, l_leS, l_gtS, l_geS, l_truI, l_truB, l_truL, l_truT, l_truN, l_truS, l_lenS, l_lenL, l_lenT, l_intI, l_absI, l_tupL, l_tupT, l_itL, l_itT, l_itS, l_rg1, l_rg2, l_ixL, l_ixT, l_ixS, at_0, at_1, at_2, at_3, set_0, set_1, set_2, set_3, List.length_cons, List.length_nil, Int.cast_ofNat_Int, Int.natCast_one, tgD_n, tgD_t, tgA_nil, tgA_cons, Option.bind_some, l_isSS, l_isST, l_isSL, l_isSI, l_isTT, l_isTS, l_isTL, l_isTI, l_isII, l_isBI, l_isLL, l_ord, lk_text, lk_at, lk_m3, l_slS, S_len, l_addI2, put_at, c0, n1, n2, hl, g1, g2, g3, e1]
/-- reading a text of a date -/
theorem read_ok {w1 w2 w3 m1 m2 m3 : Nat} {y m d hh mi s z z' w : Int} {sg : Nat} (h : Ok y m d) (hw : w = (num y m d + 3) % 7) (h0 : 0 ≤ hh) (h1 : hh < 24) (i0 : 0 ≤ mi) (i1 : mi < 60) (s0 : 0 ≤ s) (s1 : s < 60) (z0 : 0 ≤ z) (z1 : z ≤ 1439)
    (hs : (sg = 43 ∧ z' = z) ∨ (sg = 45 ∧ z' = -z ∧ 0 < z)) (hn1 : dNinB (.str (S [w1, w2, w3])) (.tuple [PyData.str (Str.ofString "Mon"), PyData.str (Str.ofString "Tue"), PyData.str (Str.ofString "Wed"), PyData.str (Str.ofString "Thu"), PyData.str (Str.ofString "Fri"), PyData.str (Str.ofString "Sat"), PyData.str (Str.ofString "Sun")]) = some false) (hn2 : dTIndex (.tuple [PyData.str (Str.ofString "Mon"), PyData.str (Str.ofString "Tue"), PyData.str (Str.ofString "Wed"), PyData.str (Str.ofString "Thu"), PyData.str (Str.ofString "Fri"), PyData.str (Str.ofString "Sat"), PyData.str (Str.ofString "Sun")]) [.str (S [w1, w2, w3])] = some (.int w))
    (hm1 : dNinB (.str (S [m1, m2, m3])) (.tuple [PyData.str (Str.ofString "Jan"), PyData.str (Str.ofString "Feb"), PyData.str (Str.ofString "Mar"), PyData.str (Str.ofString "Apr"), PyData.str (Str.ofString "May"), PyData.str (Str.ofString "Jun"), PyData.str (Str.ofString "Jul"), PyData.str (Str.ofString "Aug"), PyData.str (Str.ofString "Sep"), PyData.str (Str.ofString "Oct"), PyData.str (Str.ofString "Nov"), PyData.str (Str.ofString "Dec")]) = some false) (hm2 : dTIndex (.tuple [PyData.str (Str.ofString "Jan"), PyData.str (Str.ofString "Feb"), PyData.str (Str.ofString "Mar"), PyData.str (Str.ofString "Apr"), PyData.str (Str.ofString "May"), PyData.str (Str.ofString "Jun"), PyData.str (Str.ofString "Jul"), PyData.str (Str.ofString "Aug"), PyData.str (Str.ofString "Sep"), PyData.str (Str.ofString "Oct"), PyData.str (Str.ofString "Nov"), PyData.str (Str.ofString "Dec")]) [.str (S [m1, m2, m3])] = some (.int (m - 1))) :
    m_read_date [.d (.str (S (TX w1 w2 w3 m1 m2 m3 d y hh mi s sg z)))] = .ok (.d (.tuple [.int (num y m d * 86400 + (3600 * hh + 60 * mi + s) - 60 * z'), .int z'])) [.un] := by
  have hl : (TX w1 w2 w3 m1 m2 m3 d y hh mi s sg z).length = 31 := rfl
  have o0 := init_ok (TX w1 w2 w3 m1 m2 m3 d y hh mi s sg z)
  have hd := len_hi y m
  obtain ⟨y0, y9, a0, a9, d0, d9⟩ := id h
  have e1 := one_ok (t := TX w1 w2 w3 m1 m2 m3 d y hh mi s sg z) (p := []) (r := [w1, w2, w3]) (q := (TX w1 w2 w3 m1 m2 m3 d y hh mi s sg z).drop 3) (a := 0) (b := 3) (j := w) rfl rfl rfl rfl (by rw [hl]; omega) tb_n hn1 hn2
  have e2 := take_ok (t := TX w1 w2 w3 m1 m2 m3 d y hh mi s sg z) (p := (TX w1 w2 w3 m1 m2 m3 d y hh mi s sg z).take 3) (r := [44]) (q := (TX w1 w2 w3 m1 m2 m3 d y hh mi s sg z).drop 4) (a := 3) (b := 4) rfl rfl rfl (by rw [hl]; omega) (by decide)
  have e3 := take_ok (t := TX w1 w2 w3 m1 m2 m3 d y hh mi s sg z) (p := (TX w1 w2 w3 m1 m2 m3 d y hh mi s sg z).take 4) (r := [32]) (q := (TX w1 w2 w3 m1 m2 m3 d y hh mi s sg z).drop 5) (a := 4) (b := 5) rfl rfl rfl (by rw [hl]; omega) (by decide)
  have e4 := num_ok (t := TX w1 w2 w3 m1 m2 m3 d y hh mi s sg z) (p := (TX w1 w2 w3 m1 m2 m3 d y hh mi s sg z).take 5) (r := tw d) (q := (TX w1 w2 w3 m1 m2 m3 d y hh mi s sg z).drop 7) (a := 5) (b := 7) (lo := 1) (hi := 31) (n := d) (k := 2) rfl rfl rfl rfl (by rw [hl]; omega) (tw_dig (by omega) (by omega)) (by rw [tw_len]; omega) (tw_val (by omega) (by omega)) (by omega) (by omega)
  have e5 := take_ok (t := TX w1 w2 w3 m1 m2 m3 d y hh mi s sg z) (p := (TX w1 w2 w3 m1 m2 m3 d y hh mi s sg z).take 7) (r := [32]) (q := (TX w1 w2 w3 m1 m2 m3 d y hh mi s sg z).drop 8) (a := 7) (b := 8) rfl rfl rfl (by rw [hl]; omega) (by decide)
  have e6 := one_ok (t := TX w1 w2 w3 m1 m2 m3 d y hh mi s sg z) (p := (TX w1 w2 w3 m1 m2 m3 d y hh mi s sg z).take 8) (r := [m1, m2, m3]) (q := (TX w1 w2 w3 m1 m2 m3 d y hh mi s sg z).drop 11) (a := 8) (b := 11) (j := m - 1) rfl rfl rfl rfl (by rw [hl]; omega) tb_m hm1 hm2
  have e7 := take_ok (t := TX w1 w2 w3 m1 m2 m3 d y hh mi s sg z) (p := (TX w1 w2 w3 m1 m2 m3 d y hh mi s sg z).take 11) (r := [32]) (q := (TX w1 w2 w3 m1 m2 m3 d y hh mi s sg z).drop 12) (a := 11) (b := 12) rfl rfl rfl (by rw [hl]; omega) (by decide)
  have e8 := num_ok (t := TX w1 w2 w3 m1 m2 m3 d y hh mi s sg z) (p := (TX w1 w2 w3 m1 m2 m3 d y hh mi s sg z).take 12) (r := tw (y / 100) ++ tw (y % 100)) (q := (TX w1 w2 w3 m1 m2 m3 d y hh mi s sg z).drop 16) (a := 12) (b := 16) (lo := 1) (hi := 9999) (n := y) (k := 4) rfl rfl rfl rfl (by rw [hl]; omega) (fun c hc => (List.mem_append.mp hc).elim (tw_dig (by omega) (by omega) c) (tw_dig (by omega) (by omega) c)) (by rw [List.length_append, tw_len, tw_len]; omega) (fw_val (by omega) (by omega)) (by omega) (by omega)
  have e9 := take_ok (t := TX w1 w2 w3 m1 m2 m3 d y hh mi s sg z) (p := (TX w1 w2 w3 m1 m2 m3 d y hh mi s sg z).take 16) (r := [32]) (q := (TX w1 w2 w3 m1 m2 m3 d y hh mi s sg z).drop 17) (a := 16) (b := 17) rfl rfl rfl (by rw [hl]; omega) (by decide)
  have f1 := num_ok (t := TX w1 w2 w3 m1 m2 m3 d y hh mi s sg z) (p := (TX w1 w2 w3 m1 m2 m3 d y hh mi s sg z).take 17) (r := tw hh) (q := (TX w1 w2 w3 m1 m2 m3 d y hh mi s sg z).drop 19) (a := 17) (b := 19) (lo := 0) (hi := 23) (n := hh) (k := 2) rfl rfl rfl rfl (by rw [hl]; omega) (tw_dig (by omega) (by omega)) (by rw [tw_len]; omega) (tw_val (by omega) (by omega)) (by omega) (by omega)
  have f2 := take_ok (t := TX w1 w2 w3 m1 m2 m3 d y hh mi s sg z) (p := (TX w1 w2 w3 m1 m2 m3 d y hh mi s sg z).take 19) (r := [58]) (q := (TX w1 w2 w3 m1 m2 m3 d y hh mi s sg z).drop 20) (a := 19) (b := 20) rfl rfl rfl (by rw [hl]; omega) (by decide)
  have f3 := num_ok (t := TX w1 w2 w3 m1 m2 m3 d y hh mi s sg z) (p := (TX w1 w2 w3 m1 m2 m3 d y hh mi s sg z).take 20) (r := tw mi) (q := (TX w1 w2 w3 m1 m2 m3 d y hh mi s sg z).drop 22) (a := 20) (b := 22) (lo := 0) (hi := 59) (n := mi) (k := 2) rfl rfl rfl rfl (by rw [hl]; omega) (tw_dig (by omega) (by omega)) (by rw [tw_len]; omega) (tw_val (by omega) (by omega)) (by omega) (by omega)
  have f4 := take_ok (t := TX w1 w2 w3 m1 m2 m3 d y hh mi s sg z) (p := (TX w1 w2 w3 m1 m2 m3 d y hh mi s sg z).take 22) (r := [58]) (q := (TX w1 w2 w3 m1 m2 m3 d y hh mi s sg z).drop 23) (a := 22) (b := 23) rfl rfl rfl (by rw [hl]; omega) (by decide)
  have f5 := num_ok (t := TX w1 w2 w3 m1 m2 m3 d y hh mi s sg z) (p := (TX w1 w2 w3 m1 m2 m3 d y hh mi s sg z).take 23) (r := tw s) (q := (TX w1 w2 w3 m1 m2 m3 d y hh mi s sg z).drop 25) (a := 23) (b := 25) (lo := 0) (hi := 59) (n := s) (k := 2) rfl rfl rfl rfl (by rw [hl]; omega) (tw_dig (by omega) (by omega)) (by rw [tw_len]; omega) (tw_val (by omega) (by omega)) (by omega) (by omega)
  have f6 := take_ok (t := TX w1 w2 w3 m1 m2 m3 d y hh mi s sg z) (p := (TX w1 w2 w3 m1 m2 m3 d y hh mi s sg z).take 25) (r := [32]) (q := (TX w1 w2 w3 m1 m2 m3 d y hh mi s sg z).drop 26) (a := 25) (b := 26) rfl rfl rfl (by rw [hl]; omega) (by decide)
  have f7 := zone_ok (t := TX w1 w2 w3 m1 m2 m3 d y hh mi s sg z) (p := (TX w1 w2 w3 m1 m2 m3 d y hh mi s sg z).take 26) (z := z) (z' := z') (sg := sg) rfl rfl z0 z1 hs
  have l1 := lengthof (y := y) a0 a9
  have l2 := counts (y := y) (d := d) a0 a9
  have g1 : decide (len y m < d) = false := decide_eq_false (by omega)
  have g2 : decide ((num y m d + 3) % 7 = w) = true := decide_eq_true hw.symm
  have g3 : m - 1 + 1 = m := by omega
  rw [← ch_c] at e2
  rw [← ch_s] at e3 e5 e7 e9 f6
  rw [← ch_cl] at f2 f4
  generalize TX w1 w2 w3 m1 m2 m3 d y hh mi s sg z = t at *
  refine eqF (wF_run rfl ?_)
  simp only [b_read_date, r_lft, r_var, r_own, r_c, r_bin, r_binO, r_cmp, r_tcmp, r_tcmpO, r_tru, r_tand, r_tor, r_tnot, r_eif, r_nif, r_and, r_or, r_not, r_neg, r_cb, r_ncb, r_bm, r_bm0, r_tup, r_lst, r_anil, r_acons, r_aone, r_vnil, r_vcons, r_vslot, r_sl, r_onone, r_osome, r_chain, r_tchain, r_isi, r_iany, r_rg1, r_rg2, r_yes, r_frz, r_call, r_F, r_sif, r_snil, r_pass, r_break, r_cont, r_no, r_ret, r_retN, r_retNone, r_drop, r_dropN, r_asg, r_asgN, r_aug, r_stup, r_app, r_ext, r_setix, r_for, r_retOwn, wE_nComp, wE_ok, wS_nx, wS_rt, wS_bk, wS_ct, wS_seq, wV_d, wV_l, wO_d, wO_l, wL_some, wL_ite, wL_map, cB_true, cB_false, cB_not, wZ_d, wZ_l, wTk_some, wT_some, wipeE, tk_nil, tk_v, tk_s, putA, mask, d1, d2, tyD, okS_d, okS_l, lOf, asI, Option.isSome_some, Option.getD_some, Option.map_some, List.getElem?_cons_zero, List.getElem?_cons_succ, List.set_cons_zero, List.set_cons_succ, List.replicate_succ, List.replicate_zero, List.cons_append, List.nil_append, List.not_mem_nil, List.mem_cons, or_false, not_false_eq_true, true_and, decide_true, if_true, if_false, Bool.false_eq_true, reduceIte, Nat.reduceEqDiff, Nat.reduceAdd, Nat.reduceSub, Nat.reduceLeDiff, Nat.reduceLT, Int.reduceLT, Int.reduceLE, Int.reduceAdd, Int.reduceSub, Int.reduceEq, Int.reduceNeg, Nat.reduceMul, decide_false, Bool.not_true, Bool.not_false, and_true, true_or, or_true, Int.reduceMul, Int.reduceToNat, Nat.reducePow, Int.reducePow, Nat.not_lt_zero, r_negv, l_neg, r_vfn, tk_f, r_tix, r_gl, r_tixS, glOf, r_par2, r_par3, wP2_c, wP3_c, r_fld, r_fldP, r_fldA, r_meth, r_make, r_pop, wFl_d, wNo_none, wMk_ok, oFs_o, okS_o, List.map_cons, List.map_nil, false_or, l_addI, l_addS, l_addL, l_addT, l_sub, l_div, l_mod, l_mulI, l_mulS, l_mulL, l_eqI, l_eqS, l_neI, l_neS, l_ltI, l_leI, l_gtI, l_geI, l_ltS, l_leS, l_gtS, l_geS, l_truI, l_truB, l_truL, l_truT, l_truN, l_truS, l_lenS, l_lenL, l_lenT, l_intI, l_absI, l_tupL, l_tupT, l_itL, l_itT, l_itS, l_rg1, l_rg2, l_ixL, l_ixT, l_ixS, at_0, at_1, at_2, at_3, set_0, set_1, set_2, set_3, List.length_cons, List.length_nil, Int.cast_ofNat_Int, Int.natCast_one, tgD_n, tgD_t, tgA_nil, tgA_cons, Option.bind_some, l_isSS, l_isST, l_isSL, l_isSI, l_isTT, l_isTS, l_isTL, l_isTI, l_isII, l_isBI, l_isLL, l_ord, S_len, hl, o0, lk_text, lk_at, lk_m1, lk_m2, lk_m3, e1, e2, e3, e4, e5, e6, e7, e8, e9, f1, f2, f3, f4, f5, f6, f7, tb_n, tb_m, l1, l2, g1, g2, g3, l_addI2]
end K40

/-! law_k40_dates: the plain law: texts written; the law. -/
namespace K40
open PySem PySem.Spec PyProof.Rows L2 BV
section
variable {w1 w2 w3 m1 m2 m3 : Nat} {y m d hh mi s z w : Int} {sg : Nat}
theorem lawtext_ok (h : Ok y m d) (h0 : 0 ≤ hh) (h1 : hh < 24) (i0 : 0 ≤ mi) (i1 : mi < 60) (s0 : 0 ≤ s) (s1 : s < 60) (z0 : 0 ≤ z) (z1 : z ≤ 1439)
    (hn : atI [PyData.str (Str.ofString "Mon"), PyData.str (Str.ofString "Tue"), PyData.str (Str.ofString "Wed"), PyData.str (Str.ofString "Thu"), PyData.str (Str.ofString "Fri"), PyData.str (Str.ofString "Sat"), PyData.str (Str.ofString "Sun")] w = some (.str (S [w1, w2, w3]))) (hm : atI [PyData.str (Str.ofString "Jan"), PyData.str (Str.ofString "Feb"), PyData.str (Str.ofString "Mar"), PyData.str (Str.ofString "Apr"), PyData.str (Str.ofString "May"), PyData.str (Str.ofString "Jun"), PyData.str (Str.ofString "Jul"), PyData.str (Str.ofString "Aug"), PyData.str (Str.ofString "Sep"), PyData.str (Str.ofString "Oct"), PyData.str (Str.ofString "Nov"), PyData.str (Str.ofString "Dec")] (m - 1) = some (.str (S [m1, m2, m3]))) :
    m__law_text [.d (.tuple [.int w, .int d, .int m, .int y, .int hh, .int mi, .int s, .str (S [sg]), .int z])] = .ok (.d (.str (S (TX w1 w2 w3 m1 m2 m3 d y hh mi s sg z)))) [.un] := by
  have hd := len_hi y m
  obtain ⟨y0, y9, a0, a9, d0, d9⟩ := id h
  refine eqF (wF_run rfl ?_)
  simp only [b__law_text, r_lft, r_var, r_own, r_c, r_bin, r_binO, r_cmp, r_tcmp, r_tcmpO, r_tru, r_tand, r_tor, r_tnot, r_eif, r_nif, r_and, r_or, r_not, r_neg, r_cb, r_ncb, r_bm, r_bm0, r_tup, r_lst, r_anil, r_acons, r_aone, r_vnil, r_vcons, r_vslot, r_sl, r_onone, r_osome, r_chain, r_tchain, r_isi, r_iany, r_rg1, r_rg2, r_yes, r_frz, r_call, r_F, r_sif, r_snil, r_pass, r_break, r_cont, r_no, r_ret, r_retN, r_retNone, r_drop, r_dropN, r_asg, r_asgN, r_aug, r_stup, r_app, r_ext, r_setix, r_for, r_retOwn, wE_nComp, wE_ok, wS_nx, wS_rt, wS_bk, wS_ct, wS_seq, wV_d, wV_l, wO_d, wO_l, wL_some, wL_ite, wL_map, cB_true, cB_false, cB_not, wZ_d, wZ_l, wTk_some, wT_some, wipeE, tk_nil, tk_v, tk_s, putA, mask, d1, d2, tyD, okS_d, okS_l, lOf, asI, Option.isSome_some, Option.getD_some, Option.map_some, List.getElem?_cons_zero, List.getElem?_cons_succ, List.set_cons_zero, List.set_cons_succ, List.replicate_succ, List.replicate_zero, List.cons_append, List.nil_append, List.not_mem_nil, List.mem_cons, or_false, not_false_eq_true, true_and, decide_true, if_true, if_false, Bool.false_eq_true, reduceIte, Nat.reduceEqDiff, Nat.reduceAdd, Nat.reduceSub, Nat.reduceLeDiff, Nat.reduceLT, Int.reduceLT, Int.reduceLE, Int.reduceAdd, Int.reduceSub, Int.reduceEq, Int.reduceNeg, Nat.reduceMul, decide_false, Bool.not_true, Bool.not_false, and_true, true_or, or_true, Int.reduceMul, Int.reduceToNat, Nat.reducePow, Int.reducePow, Nat.not_lt_zero, r_negv, l_neg, r_vfn, tk_f, r_tix, r_gl, r_tixS, glOf, r_par2, r_par3, wP2_c, wP3_c, r_fld, r_fldP, r_fldA, r_meth, r_make, r_pop, wFl_d, wNo_none, wMk_ok, oFs_o, okS_o, List.map_cons, List.map_nil, false_or, l_addI, l_addS, l_addL, l_addT, l_sub, l_div, l_mod, l_mulI, l_mulS, l_mulL, l_eqI, l_eqS, l_neI, l_neS, l_ltI, l_leI, l_gtI, l_geI, l_ltS, l_leS, l_gtS, l_geS, l_truI, l_truB, l_truL, l_truT, l_truN, l_truS, l_lenS, l_lenL, l_lenT, l_intI, l_absI, l_tupL, l_tupT, l_itL, l_itT, l_itS, l_rg1, l_rg2, l_ixL, l_ixT, l_ixS, at_0, at_1, at_2, at_3, set_0, set_1, set_2, set_3, List.length_cons, List.length_nil, Int.cast_ofNat_Int, Int.natCast_one, tgD_n, tgD_t, tgA_nil, tgA_cons, Option.bind_some, l_isSS, l_isST, l_isSL, l_isSI, l_isTT, l_isTS, l_isTL, l_isTI, l_isII, l_isBI, l_isLL, l_ord, lawnames, lawmonths, lawtwo_ok h0 (show hh < 100 by omega), lawtwo_ok i0 (show mi < 100 by omega), lawtwo_ok s0 (show s < 100 by omega), lawtwo_ok (n := d) (by omega) (by omega), lawtwo_ok (n := y / 100) (by omega) (by omega), lawtwo_ok (n := y % 100) (by omega) (by omega), lawtwo_ok (n := z / 60) (by omega) (by omega), lawtwo_ok (n := z % 60) (by omega) (by omega), hn, hm, ch_cl, ch_co, ch_s, S_app, S_len, List.length_append, tw_len]
  simp only [TX, List.append_assoc, List.cons_append, List.nil_append]
theorem moment_ok {M z : Int} (h : Ok y m d) {c : Int} (c0 : 0 ≤ c) (c1 : c < 86400) (hM : M + 60 * z = num y m d * 86400 + c) (z0 : -1439 ≤ z) (z1 : z ≤ 1439) : m_check_moment [.d (.int M), .d (.int z)] = .ok (.d .none) [.un, .un] := by
  have n0 := num_lo h
  have n1 := num_hi h
  have a0 : decide ((1439 : Int) < if z < 0 then -z else z) = false := decide_eq_false (by split <;> omega)
  have a1 : decide ((-62135596800 : Int) ≤ M + 60 * z) = true := decide_eq_true (by omega)
  have a2 : decide (M + 60 * z < (253402300800 : Int)) = true := decide_eq_true (by omega)
  refine eqF (wF_run rfl ?_)
  simp only [b_check_moment, r_lft, r_var, r_own, r_c, r_bin, r_binO, r_cmp, r_tcmp, r_tcmpO, r_tru, r_tand, r_tor, r_tnot, r_eif, r_nif, r_and, r_or, r_not, r_neg, r_cb, r_ncb, r_bm, r_bm0, r_tup, r_lst, r_anil, r_acons, r_aone, r_vnil, r_vcons, r_vslot, r_sl, r_onone, r_osome, r_chain, r_tchain, r_isi, r_iany, r_rg1, r_rg2, r_yes, r_frz, r_call, r_F, r_sif, r_snil, r_pass, r_break, r_cont, r_no, r_ret, r_retN, r_retNone, r_drop, r_dropN, r_asg, r_asgN, r_aug, r_stup, r_app, r_ext, r_setix, r_for, r_retOwn, wE_nComp, wE_ok, wS_nx, wS_rt, wS_bk, wS_ct, wS_seq, wV_d, wV_l, wO_d, wO_l, wL_some, wL_ite, wL_map, cB_true, cB_false, cB_not, wZ_d, wZ_l, wTk_some, wT_some, wipeE, tk_nil, tk_v, tk_s, putA, mask, d1, d2, tyD, okS_d, okS_l, lOf, asI, Option.isSome_some, Option.getD_some, Option.map_some, List.getElem?_cons_zero, List.getElem?_cons_succ, List.set_cons_zero, List.set_cons_succ, List.replicate_succ, List.replicate_zero, List.cons_append, List.nil_append, List.not_mem_nil, List.mem_cons, or_false, not_false_eq_true, true_and, decide_true, if_true, if_false, Bool.false_eq_true, reduceIte, Nat.reduceEqDiff, Nat.reduceAdd, Nat.reduceSub, Nat.reduceLeDiff, Nat.reduceLT, Int.reduceLT, Int.reduceLE, Int.reduceAdd, Int.reduceSub, Int.reduceEq, Int.reduceNeg, Nat.reduceMul, decide_false, Bool.not_true, Bool.not_false, and_true, true_or, or_true, Int.reduceMul, Int.reduceToNat, Nat.reducePow, Int.reducePow, Nat.not_lt_zero, r_negv, l_neg, r_vfn, tk_f, r_tix, r_gl, r_tixS, glOf, r_par2, r_par3, wP2_c, wP3_c, r_fld, r_fldP, r_fldA, r_meth, r_make, r_pop, wFl_d, wNo_none, wMk_ok, oFs_o, okS_o, List.map_cons, List.map_nil, false_or, l_addI, l_addS, l_addL, l_addT, l_sub, l_div, l_mod, l_mulI, l_mulS, l_mulL, l_eqI, l_eqS, l_neI, l_neS, l_ltI, l_leI, l_gtI, l_geI, l_ltS, l_leS, l_gtS, l_geS, l_truI, l_truB, l_truL, l_truT, l_truN, l_truS, l_lenS, l_lenL, l_lenT, l_intI, l_absI, l_tupL, l_tupT, l_itL, l_itT, l_itS, l_rg1, l_rg2, l_ixL, l_ixT, l_ixS, at_0, at_1, at_2, at_3, set_0, set_1, set_2, set_3, List.length_cons, List.length_nil, Int.cast_ofNat_Int, Int.natCast_one, tgD_n, tgD_t, tgA_nil, tgA_cons, Option.bind_some, l_isSS, l_isST, l_isSL, l_isSI, l_isTT, l_isTS, l_isTL, l_isTI, l_isII, l_isBI, l_isLL, l_ord, isint, a0, a1, a2]
theorem write_ok {M z c : Int} (h : Ok y m d) (c0 : 0 ≤ c) (c1 : c < 86400) (hM : M + 60 * z = num y m d * 86400 + c) (z0 : -1439 ≤ z) (z1 : z ≤ 1439)
    (hn : atI [PyData.str (Str.ofString "Mon"), PyData.str (Str.ofString "Tue"), PyData.str (Str.ofString "Wed"), PyData.str (Str.ofString "Thu"), PyData.str (Str.ofString "Fri"), PyData.str (Str.ofString "Sat"), PyData.str (Str.ofString "Sun")] ((num y m d + 3) % 7) = some (.str (S [w1, w2, w3]))) (hm : atI [PyData.str (Str.ofString "Jan"), PyData.str (Str.ofString "Feb"), PyData.str (Str.ofString "Mar"), PyData.str (Str.ofString "Apr"), PyData.str (Str.ofString "May"), PyData.str (Str.ofString "Jun"), PyData.str (Str.ofString "Jul"), PyData.str (Str.ofString "Aug"), PyData.str (Str.ofString "Sep"), PyData.str (Str.ofString "Oct"), PyData.str (Str.ofString "Nov"), PyData.str (Str.ofString "Dec")] (m - 1) = some (.str (S [m1, m2, m3]))) :
    m_write_date [.d (.int M), .d (.int z)] = .ok (.d (.str (S (TX w1 w2 w3 m1 m2 m3 d y (c / 3600) (c / 60 % 60) (c % 60) (if z < 0 then 45 else 43) (if z < 0 then -z else z))))) [.un, .un] := by
  have hd := len_hi y m
  obtain ⟨y0, y9, a0, a9, d0, d9⟩ := id h
  have e1 : (M + 60 * z) / 86400 = num y m d := by omega
  have e2 : (M + 60 * z) % 86400 = c := by omega
  have ld : dDivmod (.int (M + 60 * z)) (.int 86400) = some (.tuple [.int (num y m d), .int c]) := by
    show (if decide ((0 : Int) < 86400 ∧ (86400 : Int) < 1073741824) = true then some (PyData.tuple [.int ((M + 60 * z) / 86400), .int ((M + 60 * z) % 86400)]) else none) = _
    rw [e1, e2]
    rfl
  have az : ∀ u : Int, 0 ≤ u → u ≤ 1439 → m_two [.d (.int (u / 60))] = .ok (.d (.str (S (tw (u / 60))))) [.un] ∧ m_two [.d (.int (u % 60))] = .ok (.d (.str (S (tw (u % 60))))) [.un] := fun u h0 h1 => ⟨two_ok (by omega) (by omega), two_ok (by omega) (by omega)⟩
  have t1 := two_ok (n := c / 3600) (by omega) (by omega)
  have t2 := two_ok (n := c / 60 % 60) (by omega) (by omega)
  have t3 := two_ok (n := c % 60) (by omega) (by omega)
  have t4 := two_ok (n := d) (by omega) (by omega)
  have t5 := two_ok (n := y / 100) (by omega) (by omega)
  have t6 := two_ok (n := y % 100) (by omega) (by omega)
  refine eqF (wF_run rfl ?_)
  by_cases hz : z < 0
  · obtain ⟨k1, k2⟩ := az (-z) (by omega) (by omega)
    have g : decide (z < 0) = true := decide_eq_true hz
    simp only [b_write_date, r_lft, r_var, r_own, r_c, r_bin, r_binO, r_cmp, r_tcmp, r_tcmpO, r_tru, r_tand, r_tor, r_tnot, r_eif, r_nif, r_and, r_or, r_not, r_neg, r_cb, r_ncb, r_bm, r_bm0, r_tup, r_lst, r_anil, r_acons, r_aone, r_vnil, r_vcons, r_vslot, r_sl, r_onone, r_osome, r_chain, r_tchain, r_isi, r_iany, r_rg1, r_rg2, r_yes, r_frz, r_call, r_F, r_sif, r_snil, r_pass, r_break, r_cont, r_no, r_ret, r_retN, r_retNone, r_drop, r_dropN, r_asg, r_asgN, r_aug, r_stup, r_app, r_ext, r_setix, r_for, r_retOwn, wE_nComp, wE_ok, wS_nx, wS_rt, wS_bk, wS_ct, wS_seq, wV_d, wV_l, wO_d, wO_l, wL_some, wL_ite, wL_map, cB_true, cB_false, cB_not, wZ_d, wZ_l, wTk_some, wT_some, wipeE, tk_nil, tk_v, tk_s, putA, mask, d1, d2, tyD, okS_d, okS_l, lOf, asI, Option.isSome_some, Option.getD_some, Option.map_some, List.getElem?_cons_zero, List.getElem?_cons_succ, List.set_cons_zero, List.set_cons_succ, List.replicate_succ, List.replicate_zero, List.cons_append, List.nil_append, List.not_mem_nil, List.mem_cons, or_false, not_false_eq_true, true_and, decide_true, if_true, if_false, Bool.false_eq_true, reduceIte, Nat.reduceEqDiff, Nat.reduceAdd, Nat.reduceSub, Nat.reduceLeDiff, Nat.reduceLT, Int.reduceLT, Int.reduceLE, Int.reduceAdd, Int.reduceSub, Int.reduceEq, Int.reduceNeg, Nat.reduceMul, decide_false, Bool.not_true, Bool.not_false, and_true, true_or, or_true, Int.reduceMul, Int.reduceToNat, Nat.reducePow, Int.reducePow, Nat.not_lt_zero, r_negv, l_neg, r_vfn, tk_f, r_tix, r_gl, r_tixS, glOf, r_par2, r_par3, wP2_c, wP3_c, r_fld, r_fldP, r_fldA, r_meth, r_make, r_pop, wFl_d, wNo_none, wMk_ok, oFs_o, okS_o, List.map_cons, List.map_nil, false_or, l_addI, l_addS, l_addL, l_addT, l_sub, l_div, l_mod, l_mulI, l_mulS, l_mulL, l_eqI, l_eqS, l_neI, l_neS, l_ltI, l_leI, l_gtI, l_geI, l_ltS, l_leS, l_gtS, l_geS, l_truI, l_truB, l_truL, l_truT, l_truN, l_truS, l_lenS, l_lenL, l_lenT, l_intI, l_absI, l_tupL, l_tupT, l_itL, l_itT, l_itS, l_rg1, l_rg2, l_ixL, l_ixT, l_ixS, at_0, at_1, at_2, at_3, set_0, set_1, set_2, set_3, List.length_cons, List.length_nil, Int.cast_ofNat_Int, Int.natCast_one, tgD_n, tgD_t, tgA_nil, tgA_cons, Option.bind_some, l_isSS, l_isST, l_isSL, l_isSI, l_isTT, l_isTS, l_isTL, l_isTI, l_isII, l_isBI, l_isLL, l_ord, moment_ok h c0 c1 hM z0 z1, ld, datein h, t1, t2, t3, t4, t5, t6, hn, hm, if_pos hz, g, k1, k2, ch_cl, ch_co, ch_s, ch_sm2, ch_sp2, S_app, S_len, List.length_append, tw_len, l_addS2]
    simp only [TX, List.append_assoc, List.cons_append, List.nil_append]
  · obtain ⟨k1, k2⟩ := az z (by omega) (by omega)
    have g : decide (z < 0) = false := decide_eq_false hz
    simp only [b_write_date, r_lft, r_var, r_own, r_c, r_bin, r_binO, r_cmp, r_tcmp, r_tcmpO, r_tru, r_tand, r_tor, r_tnot, r_eif, r_nif, r_and, r_or, r_not, r_neg, r_cb, r_ncb, r_bm, r_bm0, r_tup, r_lst, r_anil, r_acons, r_aone, r_vnil, r_vcons, r_vslot, r_sl, r_onone, r_osome, r_chain, r_tchain, r_isi, r_iany, r_rg1, r_rg2, r_yes, r_frz, r_call, r_F, r_sif, r_snil, r_pass, r_break, r_cont, r_no, r_ret, r_retN, r_retNone, r_drop, r_dropN, r_asg, r_asgN, r_aug, r_stup, r_app, r_ext, r_setix, r_for, r_retOwn, wE_nComp, wE_ok, wS_nx, wS_rt, wS_bk, wS_ct, wS_seq, wV_d, wV_l, wO_d, wO_l, wL_some, wL_ite, wL_map, cB_true, cB_false, cB_not, wZ_d, wZ_l, wTk_some, wT_some, wipeE, tk_nil, tk_v, tk_s, putA, mask, d1, d2, tyD, okS_d, okS_l, lOf, asI, Option.isSome_some, Option.getD_some, Option.map_some, List.getElem?_cons_zero, List.getElem?_cons_succ, List.set_cons_zero, List.set_cons_succ, List.replicate_succ, List.replicate_zero, List.cons_append, List.nil_append, List.not_mem_nil, List.mem_cons, or_false, not_false_eq_true, true_and, decide_true, if_true, if_false, Bool.false_eq_true, reduceIte, Nat.reduceEqDiff, Nat.reduceAdd, Nat.reduceSub, Nat.reduceLeDiff, Nat.reduceLT, Int.reduceLT, Int.reduceLE, Int.reduceAdd, Int.reduceSub, Int.reduceEq, Int.reduceNeg, Nat.reduceMul, decide_false, Bool.not_true, Bool.not_false, and_true, true_or, or_true, Int.reduceMul, Int.reduceToNat, Nat.reducePow, Int.reducePow, Nat.not_lt_zero, r_negv, l_neg, r_vfn, tk_f, r_tix, r_gl, r_tixS, glOf, r_par2, r_par3, wP2_c, wP3_c, r_fld, r_fldP, r_fldA, r_meth, r_make, r_pop, wFl_d, wNo_none, wMk_ok, oFs_o, okS_o, List.map_cons, List.map_nil, false_or, l_addI, l_addS, l_addL, l_addT, l_sub, l_div, l_mod, l_mulI, l_mulS, l_mulL, l_eqI, l_eqS, l_neI, l_neS, l_ltI, l_leI, l_gtI, l_geI, l_ltS, l_leS, l_gtS, l_geS, l_truI, l_truB, l_truL, l_truT, l_truN, l_truS, l_lenS, l_lenL, l_lenT, l_intI, l_absI, l_tupL, l_tupT, l_itL, l_itT, l_itS, l_rg1, l_rg2, l_ixL, l_ixT, l_ixS, at_0, at_1, at_2, at_3, set_0, set_1, set_2, set_3, List.length_cons, List.length_nil, Int.cast_ofNat_Int, Int.natCast_one, tgD_n, tgD_t, tgA_nil, tgA_cons, Option.bind_some, l_isSS, l_isST, l_isSL, l_isSI, l_isTT, l_isTS, l_isTL, l_isTI, l_isII, l_isBI, l_isLL, l_ord, moment_ok h c0 c1 hM z0 z1, ld, datein h, t1, t2, t3, t4, t5, t6, hn, hm, if_neg hz, g, k1, k2, ch_cl, ch_co, ch_s, ch_sm2, ch_sp2, S_app, S_len, List.length_append, tw_len, l_addS2]
    simp only [TX, List.append_assoc, List.cons_append, List.nil_append]
end
theorem small_of {l : List D} {w : Int} {a b c : Nat} (h : atI l w = some (.str (S [a, b, c]))) (hl : (l.all fun x => match x with | .str s => s.cps.toList.all fun c => decide (c < 128) | _ => false) = true) : a < 128 ∧ b < 128 ∧ c < 128 := by
  unfold atI at h
  obtain ⟨j, _, hj⟩ := Option.bind_eq_some_iff.mp h
  have := List.all_eq_true.mp hl _ (List.mem_of_getElem? hj)
  simp at this
  exact this
theorem TX_small {w1 w2 w3 m1 m2 m3 : Nat} {y m d hh mi s z : Int} {sg : Nat} (h : Ok y m d) (h0 : 0 ≤ hh) (h1 : hh < 24) (i0 : 0 ≤ mi) (i1 : mi < 60) (s0 : 0 ≤ s) (s1 : s < 60) (z0 : 0 ≤ z) (z1 : z ≤ 1439) (hw : w1 < 128 ∧ w2 < 128 ∧ w3 < 128) (hm : m1 < 128 ∧ m2 < 128 ∧ m3 < 128) (hs : sg < 128) :
    ∀ c ∈ TX w1 w2 w3 m1 m2 m3 d y hh mi s sg z, c < 1114112 := by
  have hd := len_hi y m
  obtain ⟨y0, y9, a0, a9, d0, d9⟩ := id h
  intro c hc
  simp only [TX, tw, List.cons_append, List.nil_append, List.mem_cons, List.not_mem_nil, or_false] at hc
  omega
theorem text_ok {s : Sl} (hs : Stt s) {Q : Sl → List Sl → Prop} (k : ∀ s', Stt s' → Q (.d (.bool true)) [s']) : wF (m__law_text_holds [s]) Q := by
  refine wF_run rfl ?_
  simp only [b__law_text_holds, r_lft, r_var, r_own, r_c, r_bin, r_binO, r_cmp, r_tcmp, r_tcmpO, r_tru, r_tand, r_tor, r_tnot, r_eif, r_nif, r_and, r_or, r_not, r_neg, r_cb, r_ncb, r_bm, r_bm0, r_tup, r_lst, r_anil, r_acons, r_aone, r_vnil, r_vcons, r_vslot, r_sl, r_onone, r_osome, r_chain, r_tchain, r_isi, r_iany, r_rg1, r_rg2, r_yes, r_frz, r_call, r_F, r_sif, r_snil, r_pass, r_break, r_cont, r_no, r_ret, r_retN, r_retNone, r_drop, r_dropN, r_asg, r_asgN, r_aug, r_stup, r_app, r_ext, r_setix, r_for, r_retOwn, wE_nComp, wE_ok, wS_nx, wS_rt, wS_bk, wS_ct, wS_seq, wV_d, wV_l, wO_d, wO_l, wL_some, wL_ite, wL_map, cB_true, cB_false, cB_not, wZ_d, wZ_l, wTk_some, wT_some, wipeE, tk_nil, tk_v, tk_s, putA, mask, d1, d2, tyD, okS_d, okS_l, lOf, asI, Option.isSome_some, Option.getD_some, Option.map_some, List.getElem?_cons_zero, List.getElem?_cons_succ, List.set_cons_zero, List.set_cons_succ, List.replicate_succ, List.replicate_zero, List.cons_append, List.nil_append, List.not_mem_nil, List.mem_cons, or_false, not_false_eq_true, true_and, decide_true, if_true, if_false, Bool.false_eq_true, reduceIte, Nat.reduceEqDiff, Nat.reduceAdd, Nat.reduceSub, Nat.reduceLeDiff, Nat.reduceLT, Int.reduceLT, Int.reduceLE, Int.reduceAdd, Int.reduceSub, Int.reduceEq, Int.reduceNeg, Nat.reduceMul, decide_false, Bool.not_true, Bool.not_false, and_true, true_or, or_true, Int.reduceMul, Int.reduceToNat, Nat.reducePow, Int.reducePow, Nat.not_lt_zero, r_negv, l_neg, r_vfn, tk_f, r_tix, r_gl, r_tixS, glOf, r_par2, r_par3, wP2_c, wP3_c, r_fld, r_fldP, r_fldA, r_meth, r_make, r_pop, wFl_d, wNo_none, wMk_ok, oFs_o, okS_o, List.map_cons, List.map_nil, false_or, l_addI, l_addS, l_addL, l_addT, l_sub, l_div, l_mod, l_mulI, l_mulS, l_mulL, l_eqI, l_eqS, l_neI, l_neS, l_ltI, l_leI, l_gtI, l_geI, l_ltS, l_leS, l_gtS, l_geS, l_truI, l_truB, l_truL, l_truT, l_truN, l_truS, l_lenS, l_lenL, l_lenT, l_intI, l_absI, l_tupL, l_tupT, l_itL, l_itT, l_itS, l_rg1, l_rg2, l_ixL, l_ixT, l_ixS, at_0, at_1, at_2, at_3, set_0, set_1, set_2, set_3, List.length_cons, List.length_nil, Int.cast_ofNat_Int, Int.natCast_one, tgD_n, tgD_t, tgA_nil, tgA_cons, Option.bind_some, l_isSS, l_isST, l_isSL, l_isSI, l_isTT, l_isTS, l_isTL, l_isTI, l_isII, l_isBI, l_isLL, l_ord, okS_stt hs]
  refine drawn_ok hs fun y m d s1 h hs1 => ?_
  obtain ⟨y0, y9, a0, a9, d0, d9⟩ := id h
  have hd := len_hi y m
  have n0 := num_lo h
  have n1 := num_hi h
  simp only [r_lft, r_var, r_own, r_c, r_bin, r_binO, r_cmp, r_tcmp, r_tcmpO, r_tru, r_tand, r_tor, r_tnot, r_eif, r_nif, r_and, r_or, r_not, r_neg, r_cb, r_ncb, r_bm, r_bm0, r_tup, r_lst, r_anil, r_acons, r_aone, r_vnil, r_vcons, r_vslot, r_sl, r_onone, r_osome, r_chain, r_tchain, r_isi, r_iany, r_rg1, r_rg2, r_yes, r_frz, r_call, r_F, r_sif, r_snil, r_pass, r_break, r_cont, r_no, r_ret, r_retN, r_retNone, r_drop, r_dropN, r_asg, r_asgN, r_aug, r_stup, r_app, r_ext, r_setix, r_for, r_retOwn, wE_nComp, wE_ok, wS_nx, wS_rt, wS_bk, wS_ct, wS_seq, wV_d, wV_l, wO_d, wO_l, wL_some, wL_ite, wL_map, cB_true, cB_false, cB_not, wZ_d, wZ_l, wTk_some, wT_some, wipeE, tk_nil, tk_v, tk_s, putA, mask, d1, d2, tyD, okS_d, okS_l, lOf, asI, Option.isSome_some, Option.getD_some, Option.map_some, List.getElem?_cons_zero, List.getElem?_cons_succ, List.set_cons_zero, List.set_cons_succ, List.replicate_succ, List.replicate_zero, List.cons_append, List.nil_append, List.not_mem_nil, List.mem_cons, or_false, not_false_eq_true, true_and, decide_true, if_true, if_false, Bool.false_eq_true, reduceIte, Nat.reduceEqDiff, Nat.reduceAdd, Nat.reduceSub, Nat.reduceLeDiff, Nat.reduceLT, Int.reduceLT, Int.reduceLE, Int.reduceAdd, Int.reduceSub, Int.reduceEq, Int.reduceNeg, Nat.reduceMul, decide_false, Bool.not_true, Bool.not_false, and_true, true_or, or_true, Int.reduceMul, Int.reduceToNat, Nat.reducePow, Int.reducePow, Nat.not_lt_zero, r_negv, l_neg, r_vfn, tk_f, r_tix, r_gl, r_tixS, glOf, r_par2, r_par3, wP2_c, wP3_c, r_fld, r_fldP, r_fldA, r_meth, r_make, r_pop, wFl_d, wNo_none, wMk_ok, oFs_o, okS_o, List.map_cons, List.map_nil, false_or, l_addI, l_addS, l_addL, l_addT, l_sub, l_div, l_mod, l_mulI, l_mulS, l_mulL, l_eqI, l_eqS, l_neI, l_neS, l_ltI, l_leI, l_gtI, l_geI, l_ltS, l_leS, l_gtS, l_geS, l_truI, l_truB, l_truL, l_truT, l_truN, l_truS, l_lenS, l_lenL, l_lenT, l_intI, l_absI, l_tupL, l_tupT, l_itL, l_itT, l_itS, l_rg1, l_rg2, l_ixL, l_ixT, l_ixS, at_0, at_1, at_2, at_3, set_0, set_1, set_2, set_3, List.length_cons, List.length_nil, Int.cast_ofNat_Int, Int.natCast_one, tgD_n, tgD_t, tgA_nil, tgA_cons, Option.bind_some, l_isSS, l_isST, l_isSL, l_isSI, l_isTT, l_isTS, l_isTL, l_isTI, l_isII, l_isBI, l_isLL, l_ord, okS_stt hs1, draw_eq]
  refine draw_ok hs1 (by decide) (by decide) fun v s2 v0 v1 hs2 => ?_
  simp only [r_lft, r_var, r_own, r_c, r_bin, r_binO, r_cmp, r_tcmp, r_tcmpO, r_tru, r_tand, r_tor, r_tnot, r_eif, r_nif, r_and, r_or, r_not, r_neg, r_cb, r_ncb, r_bm, r_bm0, r_tup, r_lst, r_anil, r_acons, r_aone, r_vnil, r_vcons, r_vslot, r_sl, r_onone, r_osome, r_chain, r_tchain, r_isi, r_iany, r_rg1, r_rg2, r_yes, r_frz, r_call, r_F, r_sif, r_snil, r_pass, r_break, r_cont, r_no, r_ret, r_retN, r_retNone, r_drop, r_dropN, r_asg, r_asgN, r_aug, r_stup, r_app, r_ext, r_setix, r_for, r_retOwn, wE_nComp, wE_ok, wS_nx, wS_rt, wS_bk, wS_ct, wS_seq, wV_d, wV_l, wO_d, wO_l, wL_some, wL_ite, wL_map, cB_true, cB_false, cB_not, wZ_d, wZ_l, wTk_some, wT_some, wipeE, tk_nil, tk_v, tk_s, putA, mask, d1, d2, tyD, okS_d, okS_l, lOf, asI, Option.isSome_some, Option.getD_some, Option.map_some, List.getElem?_cons_zero, List.getElem?_cons_succ, List.set_cons_zero, List.set_cons_succ, List.replicate_succ, List.replicate_zero, List.cons_append, List.nil_append, List.not_mem_nil, List.mem_cons, or_false, not_false_eq_true, true_and, decide_true, if_true, if_false, Bool.false_eq_true, reduceIte, Nat.reduceEqDiff, Nat.reduceAdd, Nat.reduceSub, Nat.reduceLeDiff, Nat.reduceLT, Int.reduceLT, Int.reduceLE, Int.reduceAdd, Int.reduceSub, Int.reduceEq, Int.reduceNeg, Nat.reduceMul, decide_false, Bool.not_true, Bool.not_false, and_true, true_or, or_true, Int.reduceMul, Int.reduceToNat, Nat.reducePow, Int.reducePow, Nat.not_lt_zero, r_negv, l_neg, r_vfn, tk_f, r_tix, r_gl, r_tixS, glOf, r_par2, r_par3, wP2_c, wP3_c, r_fld, r_fldP, r_fldA, r_meth, r_make, r_pop, wFl_d, wNo_none, wMk_ok, oFs_o, okS_o, List.map_cons, List.map_nil, false_or, l_addI, l_addS, l_addL, l_addT, l_sub, l_div, l_mod, l_mulI, l_mulS, l_mulL, l_eqI, l_eqS, l_neI, l_neS, l_ltI, l_leI, l_gtI, l_geI, l_ltS, l_leS, l_gtS, l_geS, l_truI, l_truB, l_truL, l_truT, l_truN, l_truS, l_lenS, l_lenL, l_lenT, l_intI, l_absI, l_tupL, l_tupT, l_itL, l_itT, l_itS, l_rg1, l_rg2, l_ixL, l_ixT, l_ixS, at_0, at_1, at_2, at_3, set_0, set_1, set_2, set_3, List.length_cons, List.length_nil, Int.cast_ofNat_Int, Int.natCast_one, tgD_n, tgD_t, tgA_nil, tgA_cons, Option.bind_some, l_isSS, l_isST, l_isSL, l_isSI, l_isTT, l_isTS, l_isTL, l_isTI, l_isII, l_isBI, l_isLL, l_ord, okS_stt hs2, pick_eq]
  refine pick_ok hs2 (by simp) (by simp) fun x s3 hx hs3 => ?_
  obtain ⟨z, rfl, z0, z1⟩ : ∃ i : Int, x = .int i ∧ -1439 ≤ i ∧ i ≤ 1439 := by
    simp only [List.mem_cons, List.not_mem_nil, or_false] at hx
    rcases hx with rfl | rfl | rfl | rfl | rfl | rfl <;> exact ⟨_, rfl, by omega, by omega⟩
  simp only [r_lft, r_var, r_own, r_c, r_bin, r_binO, r_cmp, r_tcmp, r_tcmpO, r_tru, r_tand, r_tor, r_tnot, r_eif, r_nif, r_and, r_or, r_not, r_neg, r_cb, r_ncb, r_bm, r_bm0, r_tup, r_lst, r_anil, r_acons, r_aone, r_vnil, r_vcons, r_vslot, r_sl, r_onone, r_osome, r_chain, r_tchain, r_isi, r_iany, r_rg1, r_rg2, r_yes, r_frz, r_call, r_F, r_sif, r_snil, r_pass, r_break, r_cont, r_no, r_ret, r_retN, r_retNone, r_drop, r_dropN, r_asg, r_asgN, r_aug, r_stup, r_app, r_ext, r_setix, r_for, r_retOwn, wE_nComp, wE_ok, wS_nx, wS_rt, wS_bk, wS_ct, wS_seq, wV_d, wV_l, wO_d, wO_l, wL_some, wL_ite, wL_map, cB_true, cB_false, cB_not, wZ_d, wZ_l, wTk_some, wT_some, wipeE, tk_nil, tk_v, tk_s, putA, mask, d1, d2, tyD, okS_d, okS_l, lOf, asI, Option.isSome_some, Option.getD_some, Option.map_some, List.getElem?_cons_zero, List.getElem?_cons_succ, List.set_cons_zero, List.set_cons_succ, List.replicate_succ, List.replicate_zero, List.cons_append, List.nil_append, List.not_mem_nil, List.mem_cons, or_false, not_false_eq_true, true_and, decide_true, if_true, if_false, Bool.false_eq_true, reduceIte, Nat.reduceEqDiff, Nat.reduceAdd, Nat.reduceSub, Nat.reduceLeDiff, Nat.reduceLT, Int.reduceLT, Int.reduceLE, Int.reduceAdd, Int.reduceSub, Int.reduceEq, Int.reduceNeg, Nat.reduceMul, decide_false, Bool.not_true, Bool.not_false, and_true, true_or, or_true, Int.reduceMul, Int.reduceToNat, Nat.reducePow, Int.reducePow, Nat.not_lt_zero, r_negv, l_neg, r_vfn, tk_f, r_tix, r_gl, r_tixS, glOf, r_par2, r_par3, wP2_c, wP3_c, r_fld, r_fldP, r_fldA, r_meth, r_make, r_pop, wFl_d, wNo_none, wMk_ok, oFs_o, okS_o, List.map_cons, List.map_nil, false_or, l_addI, l_addS, l_addL, l_addT, l_sub, l_div, l_mod, l_mulI, l_mulS, l_mulL, l_eqI, l_eqS, l_neI, l_neS, l_ltI, l_leI, l_gtI, l_geI, l_ltS, l_leS, l_gtS, l_geS, l_truI, l_truB, l_truL, l_truT, l_truN, l_truS, l_lenS, l_lenL, l_lenT, l_intI, l_absI, l_tupL, l_tupT, l_itL, l_itT, l_itS, l_rg1, l_rg2, l_ixL, l_ixT, l_ixS, at_0, at_1, at_2, at_3, set_0, set_1, set_2, set_3, List.length_cons, List.length_nil, Int.cast_ofNat_Int, Int.natCast_one, tgD_n, tgD_t, tgA_nil, tgA_cons, Option.bind_some, l_isSS, l_isST, l_isSL, l_isSI, l_isTT, l_isTS, l_isTL, l_isTI, l_isII, l_isBI, l_isLL, l_ord, okS_stt hs3, draw_eq]
  refine draw_ok hs3 (by decide) (by decide) fun v s4 v0 v1 hs4 => ?_
  simp only [r_lft, r_var, r_own, r_c, r_bin, r_binO, r_cmp, r_tcmp, r_tcmpO, r_tru, r_tand, r_tor, r_tnot, r_eif, r_nif, r_and, r_or, r_not, r_neg, r_cb, r_ncb, r_bm, r_bm0, r_tup, r_lst, r_anil, r_acons, r_aone, r_vnil, r_vcons, r_vslot, r_sl, r_onone, r_osome, r_chain, r_tchain, r_isi, r_iany, r_rg1, r_rg2, r_yes, r_frz, r_call, r_F, r_sif, r_snil, r_pass, r_break, r_cont, r_no, r_ret, r_retN, r_retNone, r_drop, r_dropN, r_asg, r_asgN, r_aug, r_stup, r_app, r_ext, r_setix, r_for, r_retOwn, wE_nComp, wE_ok, wS_nx, wS_rt, wS_bk, wS_ct, wS_seq, wV_d, wV_l, wO_d, wO_l, wL_some, wL_ite, wL_map, cB_true, cB_false, cB_not, wZ_d, wZ_l, wTk_some, wT_some, wipeE, tk_nil, tk_v, tk_s, putA, mask, d1, d2, tyD, okS_d, okS_l, lOf, asI, Option.isSome_some, Option.getD_some, Option.map_some, List.getElem?_cons_zero, List.getElem?_cons_succ, List.set_cons_zero, List.set_cons_succ, List.replicate_succ, List.replicate_zero, List.cons_append, List.nil_append, List.not_mem_nil, List.mem_cons, or_false, not_false_eq_true, true_and, decide_true, if_true, if_false, Bool.false_eq_true, reduceIte, Nat.reduceEqDiff, Nat.reduceAdd, Nat.reduceSub, Nat.reduceLeDiff, Nat.reduceLT, Int.reduceLT, Int.reduceLE, Int.reduceAdd, Int.reduceSub, Int.reduceEq, Int.reduceNeg, Nat.reduceMul, decide_false, Bool.not_true, Bool.not_false, and_true, true_or, or_true, Int.reduceMul, Int.reduceToNat, Nat.reducePow, Int.reducePow, Nat.not_lt_zero, r_negv, l_neg, r_vfn, tk_f, r_tix, r_gl, r_tixS, glOf, r_par2, r_par3, wP2_c, wP3_c, r_fld, r_fldP, r_fldA, r_meth, r_make, r_pop, wFl_d, wNo_none, wMk_ok, oFs_o, okS_o, List.map_cons, List.map_nil, false_or, l_addI, l_addS, l_addL, l_addT, l_sub, l_div, l_mod, l_mulI, l_mulS, l_mulL, l_eqI, l_eqS, l_neI, l_neS, l_ltI, l_leI, l_gtI, l_geI, l_ltS, l_leS, l_gtS, l_geS, l_truI, l_truB, l_truL, l_truT, l_truN, l_truS, l_lenS, l_lenL, l_lenT, l_intI, l_absI, l_tupL, l_tupT, l_itL, l_itT, l_itS, l_rg1, l_rg2, l_ixL, l_ixT, l_ixS, at_0, at_1, at_2, at_3, set_0, set_1, set_2, set_3, List.length_cons, List.length_nil, Int.cast_ofNat_Int, Int.natCast_one, tgD_n, tgD_t, tgA_nil, tgA_cons, Option.bind_some, l_isSS, l_isST, l_isSL, l_isSI, l_isTT, l_isTS, l_isTL, l_isTI, l_isII, l_isBI, l_isLL, l_ord, okS_stt hs4, pick_eq]
  refine pick_ok hs4 (by simp) (by simp) fun x s5 hx hs5 => ?_
  obtain ⟨c, rfl, c0, c1⟩ : ∃ i : Int, x = .int i ∧ 0 ≤ i ∧ i < 86400 := by
    simp only [List.mem_cons, List.not_mem_nil, or_false] at hx
    rcases hx with rfl | rfl | rfl | rfl <;> exact ⟨_, rfl, by omega, by omega⟩
  obtain ⟨nm, l1, a1, b1, b2⟩ := wk_at (w := (num y m d + 3) % 7) (by omega) (by omega)
  obtain ⟨w1, w2, w3, rfl⟩ := str3 l1
  obtain ⟨mn, l2, a2, b3, b4⟩ := mo_at a0 a9
  obtain ⟨m1, m2, m3, rfl⟩ := str3 l2
  have hnum := lawnumber (d := d) y0 (by omega) a0 a9
  simp only [r_lft, r_var, r_own, r_c, r_bin, r_binO, r_cmp, r_tcmp, r_tcmpO, r_tru, r_tand, r_tor, r_tnot, r_eif, r_nif, r_and, r_or, r_not, r_neg, r_cb, r_ncb, r_bm, r_bm0, r_tup, r_lst, r_anil, r_acons, r_aone, r_vnil, r_vcons, r_vslot, r_sl, r_onone, r_osome, r_chain, r_tchain, r_isi, r_iany, r_rg1, r_rg2, r_yes, r_frz, r_call, r_F, r_sif, r_snil, r_pass, r_break, r_cont, r_no, r_ret, r_retN, r_retNone, r_drop, r_dropN, r_asg, r_asgN, r_aug, r_stup, r_app, r_ext, r_setix, r_for, r_retOwn, wE_nComp, wE_ok, wS_nx, wS_rt, wS_bk, wS_ct, wS_seq, wV_d, wV_l, wO_d, wO_l, wL_some, wL_ite, wL_map, cB_true, cB_false, cB_not, wZ_d, wZ_l, wTk_some, wT_some, wipeE, tk_nil, tk_v, tk_s, putA, mask, d1, d2, tyD, okS_d, okS_l, lOf, asI, Option.isSome_some, Option.getD_some, Option.map_some, List.getElem?_cons_zero, List.getElem?_cons_succ, List.set_cons_zero, List.set_cons_succ, List.replicate_succ, List.replicate_zero, List.cons_append, List.nil_append, List.not_mem_nil, List.mem_cons, or_false, not_false_eq_true, true_and, decide_true, if_true, if_false, Bool.false_eq_true, reduceIte, Nat.reduceEqDiff, Nat.reduceAdd, Nat.reduceSub, Nat.reduceLeDiff, Nat.reduceLT, Int.reduceLT, Int.reduceLE, Int.reduceAdd, Int.reduceSub, Int.reduceEq, Int.reduceNeg, Nat.reduceMul, decide_false, Bool.not_true, Bool.not_false, and_true, true_or, or_true, Int.reduceMul, Int.reduceToNat, Nat.reducePow, Int.reducePow, Nat.not_lt_zero, r_negv, l_neg, r_vfn, tk_f, r_tix, r_gl, r_tixS, glOf, r_par2, r_par3, wP2_c, wP3_c, r_fld, r_fldP, r_fldA, r_meth, r_make, r_pop, wFl_d, wNo_none, wMk_ok, oFs_o, okS_o, List.map_cons, List.map_nil, false_or, l_addI, l_addS, l_addL, l_addT, l_sub, l_div, l_mod, l_mulI, l_mulS, l_mulL, l_eqI, l_eqS, l_neI, l_neS, l_ltI, l_leI, l_gtI, l_geI, l_ltS, l_leS, l_gtS, l_geS, l_truI, l_truB, l_truL, l_truT, l_truN, l_truS, l_lenS, l_lenL, l_lenT, l_intI, l_absI, l_tupL, l_tupT, l_itL, l_itT, l_itS, l_rg1, l_rg2, l_ixL, l_ixT, l_ixS, at_0, at_1, at_2, at_3, set_0, set_1, set_2, set_3, List.length_cons, List.length_nil, Int.cast_ofNat_Int, Int.natCast_one, tgD_n, tgD_t, tgA_nil, tgA_cons, Option.bind_some, l_isSS, l_isST, l_isSL, l_isSI, l_isTT, l_isTS, l_isTL, l_isTI, l_isII, l_isBI, l_isLL, l_ord, hnum]
  have wsm := small_of a1 (by decide +kernel)
  have msm := small_of a2 (by decide +kernel)
  have hM : (num y m d * 86400 + c - 60 * z) + 60 * z = num y m d * 86400 + c := by omega
  have ec : 3600 * (c / 3600) + 60 * (c / 60 % 60) + c % 60 = c := by omega
  have hwr := write_ok h c0 c1 hM z0 z1 a1 a2
  -- what stands behind, for a sign and a zone without one
  have sm : ∀ (sg : Nat) (u : Int), sg < 128 → 0 ≤ u → u ≤ 1439 → mSame [.d (.list [.str (S (TX w1 w2 w3 m1 m2 m3 d y (c / 3600) (c / 60 % 60) (c % 60) sg u)), .tuple [.int (num y m d * 86400 + c - 60 * z), .int z]]), .d (.list [.str (S (TX w1 w2 w3 m1 m2 m3 d y (c / 3600) (c / 60 % 60) (c % 60) sg u)), .tuple [.int (num y m d * 86400 + c - 60 * z), .int z]])] = .ok (.d (.bool true)) [.un, .un] := fun sg u g1 g2 g3 =>
    (Fx.list (k := 2) (Fx.two ((Fx.str (k := 31) (TX_small h (by omega) (by omega) (by omega) (by omega) (by omega) (by omega) g2 g3 wsm msm g1) (Nat.le_refl _)).mono (show _ ≤ 1000 by decide) (show 0 ≤ 1 by decide)) ((Fx.tup (k := 2) (Fx.two (fxi (i := num y m d * 86400 + c - 60 * z) (by omega) (by omega)) (fxi (i := z) (by omega) (by omega))) (Nat.le_refl _)).mono (by decide) (by decide))) (Nat.le_refl _)).same (by decide) (by decide)
  refine cB_dec (fun hz => ?_) fun hz => ?_
  · rw [if_pos hz, if_pos hz] at hwr
    have lt := lawtext_ok (w := (num y m d + 3) % 7) (z := -z) (sg := 45) h (show 0 ≤ c / 3600 by omega) (by omega) (show 0 ≤ c / 60 % 60 by omega) (by omega) (show 0 ≤ c % 60 by omega) (by omega) (by omega) (by omega) a1 a2
    have rd := read_ok (z := -z) (z' := z) (sg := 45) h rfl (show 0 ≤ c / 3600 by omega) (by omega) (show 0 ≤ c / 60 % 60 by omega) (by omega) (show 0 ≤ c % 60 by omega) (by omega) (by omega) (by omega) (.inr ⟨rfl, by omega, by omega⟩) b1 b2 b3 b4
    rw [ec] at rd
    simp only [r_lft, r_var, r_own, r_c, r_bin, r_binO, r_cmp, r_tcmp, r_tcmpO, r_tru, r_tand, r_tor, r_tnot, r_eif, r_nif, r_and, r_or, r_not, r_neg, r_cb, r_ncb, r_bm, r_bm0, r_tup, r_lst, r_anil, r_acons, r_aone, r_vnil, r_vcons, r_vslot, r_sl, r_onone, r_osome, r_chain, r_tchain, r_isi, r_iany, r_rg1, r_rg2, r_yes, r_frz, r_call, r_F, r_sif, r_snil, r_pass, r_break, r_cont, r_no, r_ret, r_retN, r_retNone, r_drop, r_dropN, r_asg, r_asgN, r_aug, r_stup, r_app, r_ext, r_setix, r_for, r_retOwn, wE_nComp, wE_ok, wS_nx, wS_rt, wS_bk, wS_ct, wS_seq, wV_d, wV_l, wO_d, wO_l, wL_some, wL_ite, wL_map, cB_true, cB_false, cB_not, wZ_d, wZ_l, wTk_some, wT_some, wipeE, tk_nil, tk_v, tk_s, putA, mask, d1, d2, tyD, okS_d, okS_l, lOf, asI, Option.isSome_some, Option.getD_some, Option.map_some, List.getElem?_cons_zero, List.getElem?_cons_succ, List.set_cons_zero, List.set_cons_succ, List.replicate_succ, List.replicate_zero, List.cons_append, List.nil_append, List.not_mem_nil, List.mem_cons, or_false, not_false_eq_true, true_and, decide_true, if_true, if_false, Bool.false_eq_true, reduceIte, Nat.reduceEqDiff, Nat.reduceAdd, Nat.reduceSub, Nat.reduceLeDiff, Nat.reduceLT, Int.reduceLT, Int.reduceLE, Int.reduceAdd, Int.reduceSub, Int.reduceEq, Int.reduceNeg, Nat.reduceMul, decide_false, Bool.not_true, Bool.not_false, and_true, true_or, or_true, Int.reduceMul, Int.reduceToNat, Nat.reducePow, Int.reducePow, Nat.not_lt_zero, r_negv, l_neg, r_vfn, tk_f, r_tix, r_gl, r_tixS, glOf, r_par2, r_par3, wP2_c, wP3_c, r_fld, r_fldP, r_fldA, r_meth, r_make, r_pop, wFl_d, wNo_none, wMk_ok, oFs_o, okS_o, List.map_cons, List.map_nil, false_or, l_addI, l_addS, l_addL, l_addT, l_sub, l_div, l_mod, l_mulI, l_mulS, l_mulL, l_eqI, l_eqS, l_neI, l_neS, l_ltI, l_leI, l_gtI, l_geI, l_ltS, l_leS, l_gtS, l_geS, l_truI, l_truB, l_truL, l_truT, l_truN, l_truS, l_lenS, l_lenL, l_lenT, l_intI, l_absI, l_tupL, l_tupT, l_itL, l_itT, l_itS, l_rg1, l_rg2, l_ixL, l_ixT, l_ixS, at_0, at_1, at_2, at_3, set_0, set_1, set_2, set_3, List.length_cons, List.length_nil, Int.cast_ofNat_Int, Int.natCast_one, tgD_n, tgD_t, tgA_nil, tgA_cons, Option.bind_some, l_isSS, l_isST, l_isSL, l_isSI, l_isTT, l_isTS, l_isTL, l_isTI, l_isII, l_isBI, l_isLL, l_ord, ch_m, if_pos hz, lt, hwr, rd, same_eq, sm 45 (-z) (by omega) (by omega) (by omega)]
    exact k s5 hs5
  · rw [if_neg hz, if_neg hz] at hwr
    have lt := lawtext_ok (w := (num y m d + 3) % 7) (z := z) (sg := 43) h (show 0 ≤ c / 3600 by omega) (by omega) (show 0 ≤ c / 60 % 60 by omega) (by omega) (show 0 ≤ c % 60 by omega) (by omega) (by omega) (by omega) a1 a2
    have rd := read_ok (z := z) (z' := z) (sg := 43) h rfl (show 0 ≤ c / 3600 by omega) (by omega) (show 0 ≤ c / 60 % 60 by omega) (by omega) (show 0 ≤ c % 60 by omega) (by omega) (by omega) (by omega) (.inl ⟨rfl, rfl⟩) b1 b2 b3 b4
    rw [ec] at rd
    simp only [r_lft, r_var, r_own, r_c, r_bin, r_binO, r_cmp, r_tcmp, r_tcmpO, r_tru, r_tand, r_tor, r_tnot, r_eif, r_nif, r_and, r_or, r_not, r_neg, r_cb, r_ncb, r_bm, r_bm0, r_tup, r_lst, r_anil, r_acons, r_aone, r_vnil, r_vcons, r_vslot, r_sl, r_onone, r_osome, r_chain, r_tchain, r_isi, r_iany, r_rg1, r_rg2, r_yes, r_frz, r_call, r_F, r_sif, r_snil, r_pass, r_break, r_cont, r_no, r_ret, r_retN, r_retNone, r_drop, r_dropN, r_asg, r_asgN, r_aug, r_stup, r_app, r_ext, r_setix, r_for, r_retOwn, wE_nComp, wE_ok, wS_nx, wS_rt, wS_bk, wS_ct, wS_seq, wV_d, wV_l, wO_d, wO_l, wL_some, wL_ite, wL_map, cB_true, cB_false, cB_not, wZ_d, wZ_l, wTk_some, wT_some, wipeE, tk_nil, tk_v, tk_s, putA, mask, d1, d2, tyD, okS_d, okS_l, lOf, asI, Option.isSome_some, Option.getD_some, Option.map_some, List.getElem?_cons_zero, List.getElem?_cons_succ, List.set_cons_zero, List.set_cons_succ, List.replicate_succ, List.replicate_zero, List.cons_append, List.nil_append, List.not_mem_nil, List.mem_cons, or_false, not_false_eq_true, true_and, decide_true, if_true, if_false, Bool.false_eq_true, reduceIte, Nat.reduceEqDiff, Nat.reduceAdd, Nat.reduceSub, Nat.reduceLeDiff, Nat.reduceLT, Int.reduceLT, Int.reduceLE, Int.reduceAdd, Int.reduceSub, Int.reduceEq, Int.reduceNeg, Nat.reduceMul, decide_false, Bool.not_true, Bool.not_false, and_true, true_or, or_true, Int.reduceMul, Int.reduceToNat, Nat.reducePow, Int.reducePow, Nat.not_lt_zero, r_negv, l_neg, r_vfn, tk_f, r_tix, r_gl, r_tixS, glOf, r_par2, r_par3, wP2_c, wP3_c, r_fld, r_fldP, r_fldA, r_meth, r_make, r_pop, wFl_d, wNo_none, wMk_ok, oFs_o, okS_o, List.map_cons, List.map_nil, false_or, l_addI, l_addS, l_addL, l_addT, l_sub, l_div, l_mod, l_mulI, l_mulS, l_mulL, l_eqI, l_eqS, l_neI, l_neS, l_ltI, l_leI, l_gtI, l_geI, l_ltS, l_leS, l_gtS, l_geS, l_truI, l_truB, l_truL, l_truT, l_truN, l_truS, l_lenS, l_lenL, l_lenT, l_intI, l_absI, l_tupL, l_tupT, l_itL, l_itT, l_itS, l_rg1, l_rg2, l_ixL, l_ixT, l_ixS, at_0, at_1, at_2, at_3, set_0, set_1, set_2, set_3, List.length_cons, List.length_nil, Int.cast_ofNat_Int, Int.natCast_one, tgD_n, tgD_t, tgA_nil, tgA_cons, Option.bind_some, l_isSS, l_isST, l_isSL, l_isSI, l_isTT, l_isTS, l_isTL, l_isTI, l_isII, l_isBI, l_isLL, l_ord, ch_p, if_neg hz, lt, hwr, rd, same_eq, sm 43 z (by omega) (by omega) (by omega)]
    exact k s5 hs5
theorem eqS {r : RS} (h : wS r (fun _ => False) (fun s _ => s = .d (.bool true)) (fun _ => False) fun _ => False) : ∃ e, r = .rt (.d (.bool true)) e := by
  cases r with
  | rt s e => obtain rfl := (show s = .d (.bool true) from h); exact ⟨e, rfl⟩
  | _ => exact (show False from h).elim
theorem plain : Plain := by
  intro ns s hn h1 h2
  apply eqS
  have hs0 : Stt (.l (stD ns 0 0 s)) := ⟨ns, 0, 0, s, rfl, by decide, by decide, hn⟩
  generalize Sl.l (stD ns 0 0 s) = s0 at hs0
  simp only [b_law, r_lft, r_var, r_own, r_c, r_bin, r_binO, r_cmp, r_tcmp, r_tcmpO, r_tru, r_tand, r_tor, r_tnot, r_eif, r_nif, r_and, r_or, r_not, r_neg, r_cb, r_ncb, r_bm, r_bm0, r_tup, r_lst, r_anil, r_acons, r_aone, r_vnil, r_vcons, r_vslot, r_sl, r_onone, r_osome, r_chain, r_tchain, r_isi, r_iany, r_rg1, r_rg2, r_yes, r_frz, r_call, r_F, r_sif, r_snil, r_pass, r_break, r_cont, r_no, r_ret, r_retN, r_retNone, r_drop, r_dropN, r_asg, r_asgN, r_aug, r_stup, r_app, r_ext, r_setix, r_for, r_retOwn, wE_nComp, wE_ok, wS_nx, wS_rt, wS_bk, wS_ct, wS_seq, wV_d, wV_l, wO_d, wO_l, wL_some, wL_ite, wL_map, cB_true, cB_false, cB_not, wZ_d, wZ_l, wTk_some, wT_some, wipeE, tk_nil, tk_v, tk_s, putA, mask, d1, d2, tyD, okS_d, okS_l, lOf, asI, Option.isSome_some, Option.getD_some, Option.map_some, List.getElem?_cons_zero, List.getElem?_cons_succ, List.set_cons_zero, List.set_cons_succ, List.replicate_succ, List.replicate_zero, List.cons_append, List.nil_append, List.not_mem_nil, List.mem_cons, or_false, not_false_eq_true, true_and, decide_true, if_true, if_false, Bool.false_eq_true, reduceIte, Nat.reduceEqDiff, Nat.reduceAdd, Nat.reduceSub, Nat.reduceLeDiff, Nat.reduceLT, Int.reduceLT, Int.reduceLE, Int.reduceAdd, Int.reduceSub, Int.reduceEq, Int.reduceNeg, Nat.reduceMul, decide_false, Bool.not_true, Bool.not_false, and_true, true_or, or_true, Int.reduceMul, Int.reduceToNat, Nat.reducePow, Int.reducePow, Nat.not_lt_zero, r_negv, l_neg, r_vfn, tk_f, r_tix, r_gl, r_tixS, glOf, r_par2, r_par3, wP2_c, wP3_c, r_fld, r_fldP, r_fldA, r_meth, r_make, r_pop, wFl_d, wNo_none, wMk_ok, oFs_o, okS_o, List.map_cons, List.map_nil, false_or, l_addI, l_addS, l_addL, l_addT, l_sub, l_div, l_mod, l_mulI, l_mulS, l_mulL, l_eqI, l_eqS, l_neI, l_neS, l_ltI, l_leI, l_gtI, l_geI, l_ltS, l_leS, l_gtS, l_geS, l_truI, l_truB, l_truL, l_truT, l_truN, l_truS, l_lenS, l_lenL, l_lenT, l_intI, l_absI, l_tupL, l_tupT, l_itL, l_itT, l_itS, l_rg1, l_rg2, l_ixL, l_ixT, l_ixS, at_0, at_1, at_2, at_3, set_0, set_1, set_2, set_3, List.length_cons, List.length_nil, Int.cast_ofNat_Int, Int.natCast_one, tgD_n, tgD_t, tgA_nil, tgA_cons, Option.bind_some, l_isSS, l_isST, l_isSL, l_isSI, l_isTT, l_isTS, l_isTL, l_isTI, l_isII, l_isBI, l_isLL, l_ord]
  refine wS_rng (fun _ e => ∃ s q2, Stt s ∧ e = [.un, s, q2]) (by decide) ?_ ?_ _ ⟨s0, _, hs0, rfl⟩
  · rintro i e _ _ ⟨s1, q2, hs1, rfl⟩
    refine ⟨_, rfl, ?_⟩
    simp only [r_lft, r_var, r_own, r_c, r_bin, r_binO, r_cmp, r_tcmp, r_tcmpO, r_tru, r_tand, r_tor, r_tnot, r_eif, r_nif, r_and, r_or, r_not, r_neg, r_cb, r_ncb, r_bm, r_bm0, r_tup, r_lst, r_anil, r_acons, r_aone, r_vnil, r_vcons, r_vslot, r_sl, r_onone, r_osome, r_chain, r_tchain, r_isi, r_iany, r_rg1, r_rg2, r_yes, r_frz, r_call, r_F, r_sif, r_snil, r_pass, r_break, r_cont, r_no, r_ret, r_retN, r_retNone, r_drop, r_dropN, r_asg, r_asgN, r_aug, r_stup, r_app, r_ext, r_setix, r_for, r_retOwn, wE_nComp, wE_ok, wS_nx, wS_rt, wS_bk, wS_ct, wS_seq, wV_d, wV_l, wO_d, wO_l, wL_some, wL_ite, wL_map, cB_true, cB_false, cB_not, wZ_d, wZ_l, wTk_some, wT_some, wipeE, tk_nil, tk_v, tk_s, putA, mask, d1, d2, tyD, okS_d, okS_l, lOf, asI, Option.isSome_some, Option.getD_some, Option.map_some, List.getElem?_cons_zero, List.getElem?_cons_succ, List.set_cons_zero, List.set_cons_succ, List.replicate_succ, List.replicate_zero, List.cons_append, List.nil_append, List.not_mem_nil, List.mem_cons, or_false, not_false_eq_true, true_and, decide_true, if_true, if_false, Bool.false_eq_true, reduceIte, Nat.reduceEqDiff, Nat.reduceAdd, Nat.reduceSub, Nat.reduceLeDiff, Nat.reduceLT, Int.reduceLT, Int.reduceLE, Int.reduceAdd, Int.reduceSub, Int.reduceEq, Int.reduceNeg, Nat.reduceMul, decide_false, Bool.not_true, Bool.not_false, and_true, true_or, or_true, Int.reduceMul, Int.reduceToNat, Nat.reducePow, Int.reducePow, Nat.not_lt_zero, r_negv, l_neg, r_vfn, tk_f, r_tix, r_gl, r_tixS, glOf, r_par2, r_par3, wP2_c, wP3_c, r_fld, r_fldP, r_fldA, r_meth, r_make, r_pop, wFl_d, wNo_none, wMk_ok, oFs_o, okS_o, List.map_cons, List.map_nil, false_or, l_addI, l_addS, l_addL, l_addT, l_sub, l_div, l_mod, l_mulI, l_mulS, l_mulL, l_eqI, l_eqS, l_neI, l_neS, l_ltI, l_leI, l_gtI, l_geI, l_ltS, l_leS, l_gtS, l_geS, l_truI, l_truB, l_truL, l_truT, l_truN, l_truS, l_lenS, l_lenL, l_lenT, l_intI, l_absI, l_tupL, l_tupT, l_itL, l_itT, l_itS, l_rg1, l_rg2, l_ixL, l_ixT, l_ixS, at_0, at_1, at_2, at_3, set_0, set_1, set_2, set_3, List.length_cons, List.length_nil, Int.cast_ofNat_Int, Int.natCast_one, tgD_n, tgD_t, tgA_nil, tgA_cons, Option.bind_some, l_isSS, l_isST, l_isSL, l_isSI, l_isTT, l_isTS, l_isTL, l_isTI, l_isII, l_isBI, l_isLL, l_ord, okS_stt hs1]
    refine days_ok hs1 fun s2 hs2 => ?_
    simp only [r_lft, r_var, r_own, r_c, r_bin, r_binO, r_cmp, r_tcmp, r_tcmpO, r_tru, r_tand, r_tor, r_tnot, r_eif, r_nif, r_and, r_or, r_not, r_neg, r_cb, r_ncb, r_bm, r_bm0, r_tup, r_lst, r_anil, r_acons, r_aone, r_vnil, r_vcons, r_vslot, r_sl, r_onone, r_osome, r_chain, r_tchain, r_isi, r_iany, r_rg1, r_rg2, r_yes, r_frz, r_call, r_F, r_sif, r_snil, r_pass, r_break, r_cont, r_no, r_ret, r_retN, r_retNone, r_drop, r_dropN, r_asg, r_asgN, r_aug, r_stup, r_app, r_ext, r_setix, r_for, r_retOwn, wE_nComp, wE_ok, wS_nx, wS_rt, wS_bk, wS_ct, wS_seq, wV_d, wV_l, wO_d, wO_l, wL_some, wL_ite, wL_map, cB_true, cB_false, cB_not, wZ_d, wZ_l, wTk_some, wT_some, wipeE, tk_nil, tk_v, tk_s, putA, mask, d1, d2, tyD, okS_d, okS_l, lOf, asI, Option.isSome_some, Option.getD_some, Option.map_some, List.getElem?_cons_zero, List.getElem?_cons_succ, List.set_cons_zero, List.set_cons_succ, List.replicate_succ, List.replicate_zero, List.cons_append, List.nil_append, List.not_mem_nil, List.mem_cons, or_false, not_false_eq_true, true_and, decide_true, if_true, if_false, Bool.false_eq_true, reduceIte, Nat.reduceEqDiff, Nat.reduceAdd, Nat.reduceSub, Nat.reduceLeDiff, Nat.reduceLT, Int.reduceLT, Int.reduceLE, Int.reduceAdd, Int.reduceSub, Int.reduceEq, Int.reduceNeg, Nat.reduceMul, decide_false, Bool.not_true, Bool.not_false, and_true, true_or, or_true, Int.reduceMul, Int.reduceToNat, Nat.reducePow, Int.reducePow, Nat.not_lt_zero, r_negv, l_neg, r_vfn, tk_f, r_tix, r_gl, r_tixS, glOf, r_par2, r_par3, wP2_c, wP3_c, r_fld, r_fldP, r_fldA, r_meth, r_make, r_pop, wFl_d, wNo_none, wMk_ok, oFs_o, okS_o, List.map_cons, List.map_nil, false_or, l_addI, l_addS, l_addL, l_addT, l_sub, l_div, l_mod, l_mulI, l_mulS, l_mulL, l_eqI, l_eqS, l_neI, l_neS, l_ltI, l_leI, l_gtI, l_geI, l_ltS, l_leS, l_gtS, l_geS, l_truI, l_truB, l_truL, l_truT, l_truN, l_truS, l_lenS, l_lenL, l_lenT, l_intI, l_absI, l_tupL, l_tupT, l_itL, l_itT, l_itS, l_rg1, l_rg2, l_ixL, l_ixT, l_ixS, at_0, at_1, at_2, at_3, set_0, set_1, set_2, set_3, List.length_cons, List.length_nil, Int.cast_ofNat_Int, Int.natCast_one, tgD_n, tgD_t, tgA_nil, tgA_cons, Option.bind_some, l_isSS, l_isST, l_isSL, l_isSI, l_isTT, l_isTS, l_isTL, l_isTI, l_isII, l_isBI, l_isLL, l_ord, okS_stt hs2]
    refine text_ok hs2 fun s3 hs3 => ?_
    simp only [r_lft, r_var, r_own, r_c, r_bin, r_binO, r_cmp, r_tcmp, r_tcmpO, r_tru, r_tand, r_tor, r_tnot, r_eif, r_nif, r_and, r_or, r_not, r_neg, r_cb, r_ncb, r_bm, r_bm0, r_tup, r_lst, r_anil, r_acons, r_aone, r_vnil, r_vcons, r_vslot, r_sl, r_onone, r_osome, r_chain, r_tchain, r_isi, r_iany, r_rg1, r_rg2, r_yes, r_frz, r_call, r_F, r_sif, r_snil, r_pass, r_break, r_cont, r_no, r_ret, r_retN, r_retNone, r_drop, r_dropN, r_asg, r_asgN, r_aug, r_stup, r_app, r_ext, r_setix, r_for, r_retOwn, wE_nComp, wE_ok, wS_nx, wS_rt, wS_bk, wS_ct, wS_seq, wV_d, wV_l, wO_d, wO_l, wL_some, wL_ite, wL_map, cB_true, cB_false, cB_not, wZ_d, wZ_l, wTk_some, wT_some, wipeE, tk_nil, tk_v, tk_s, putA, mask, d1, d2, tyD, okS_d, okS_l, lOf, asI, Option.isSome_some, Option.getD_some, Option.map_some, List.getElem?_cons_zero, List.getElem?_cons_succ, List.set_cons_zero, List.set_cons_succ, List.replicate_succ, List.replicate_zero, List.cons_append, List.nil_append, List.not_mem_nil, List.mem_cons, or_false, not_false_eq_true, true_and, decide_true, if_true, if_false, Bool.false_eq_true, reduceIte, Nat.reduceEqDiff, Nat.reduceAdd, Nat.reduceSub, Nat.reduceLeDiff, Nat.reduceLT, Int.reduceLT, Int.reduceLE, Int.reduceAdd, Int.reduceSub, Int.reduceEq, Int.reduceNeg, Nat.reduceMul, decide_false, Bool.not_true, Bool.not_false, and_true, true_or, or_true, Int.reduceMul, Int.reduceToNat, Nat.reducePow, Int.reducePow, Nat.not_lt_zero, r_negv, l_neg, r_vfn, tk_f, r_tix, r_gl, r_tixS, glOf, r_par2, r_par3, wP2_c, wP3_c, r_fld, r_fldP, r_fldA, r_meth, r_make, r_pop, wFl_d, wNo_none, wMk_ok, oFs_o, okS_o, List.map_cons, List.map_nil, false_or, l_addI, l_addS, l_addL, l_addT, l_sub, l_div, l_mod, l_mulI, l_mulS, l_mulL, l_eqI, l_eqS, l_neI, l_neS, l_ltI, l_leI, l_gtI, l_geI, l_ltS, l_leS, l_gtS, l_geS, l_truI, l_truB, l_truL, l_truT, l_truN, l_truS, l_lenS, l_lenL, l_lenT, l_intI, l_absI, l_tupL, l_tupT, l_itL, l_itT, l_itS, l_rg1, l_rg2, l_ixL, l_ixT, l_ixS, at_0, at_1, at_2, at_3, set_0, set_1, set_2, set_3, List.length_cons, List.length_nil, Int.cast_ofNat_Int, Int.natCast_one, tgD_n, tgD_t, tgA_nil, tgA_cons, Option.bind_some, l_isSS, l_isST, l_isSL, l_isSI, l_isTT, l_isTS, l_isTL, l_isTI, l_isII, l_isBI, l_isLL, l_ord]
    exact ⟨s3, _, hs3, rfl⟩
  · rintro e ⟨s1, q2, hs1, rfl⟩
    simp only [r_lft, r_var, r_own, r_c, r_bin, r_binO, r_cmp, r_tcmp, r_tcmpO, r_tru, r_tand, r_tor, r_tnot, r_eif, r_nif, r_and, r_or, r_not, r_neg, r_cb, r_ncb, r_bm, r_bm0, r_tup, r_lst, r_anil, r_acons, r_aone, r_vnil, r_vcons, r_vslot, r_sl, r_onone, r_osome, r_chain, r_tchain, r_isi, r_iany, r_rg1, r_rg2, r_yes, r_frz, r_call, r_F, r_sif, r_snil, r_pass, r_break, r_cont, r_no, r_ret, r_retN, r_retNone, r_drop, r_dropN, r_asg, r_asgN, r_aug, r_stup, r_app, r_ext, r_setix, r_for, r_retOwn, wE_nComp, wE_ok, wS_nx, wS_rt, wS_bk, wS_ct, wS_seq, wV_d, wV_l, wO_d, wO_l, wL_some, wL_ite, wL_map, cB_true, cB_false, cB_not, wZ_d, wZ_l, wTk_some, wT_some, wipeE, tk_nil, tk_v, tk_s, putA, mask, d1, d2, tyD, okS_d, okS_l, lOf, asI, Option.isSome_some, Option.getD_some, Option.map_some, List.getElem?_cons_zero, List.getElem?_cons_succ, List.set_cons_zero, List.set_cons_succ, List.replicate_succ, List.replicate_zero, List.cons_append, List.nil_append, List.not_mem_nil, List.mem_cons, or_false, not_false_eq_true, true_and, decide_true, if_true, if_false, Bool.false_eq_true, reduceIte, Nat.reduceEqDiff, Nat.reduceAdd, Nat.reduceSub, Nat.reduceLeDiff, Nat.reduceLT, Int.reduceLT, Int.reduceLE, Int.reduceAdd, Int.reduceSub, Int.reduceEq, Int.reduceNeg, Nat.reduceMul, decide_false, Bool.not_true, Bool.not_false, and_true, true_or, or_true, Int.reduceMul, Int.reduceToNat, Nat.reducePow, Int.reducePow, Nat.not_lt_zero, r_negv, l_neg, r_vfn, tk_f, r_tix, r_gl, r_tixS, glOf, r_par2, r_par3, wP2_c, wP3_c, r_fld, r_fldP, r_fldA, r_meth, r_make, r_pop, wFl_d, wNo_none, wMk_ok, oFs_o, okS_o, List.map_cons, List.map_nil, false_or, l_addI, l_addS, l_addL, l_addT, l_sub, l_div, l_mod, l_mulI, l_mulS, l_mulL, l_eqI, l_eqS, l_neI, l_neS, l_ltI, l_leI, l_gtI, l_geI, l_ltS, l_leS, l_gtS, l_geS, l_truI, l_truB, l_truL, l_truT, l_truN, l_truS, l_lenS, l_lenL, l_lenT, l_intI, l_absI, l_tupL, l_tupT, l_itL, l_itT, l_itS, l_rg1, l_rg2, l_ixL, l_ixT, l_ixS, at_0, at_1, at_2, at_3, set_0, set_1, set_2, set_3, List.length_cons, List.length_nil, Int.cast_ofNat_Int, Int.natCast_one, tgD_n, tgD_t, tgA_nil, tgA_cons, Option.bind_some, l_isSS, l_isST, l_isSL, l_isSI, l_isTT, l_isTS, l_isTL, l_isTI, l_isII, l_isBI, l_isLL, l_ord]
end K40

theorem PySem.Challenge.cw_oncehome_k40_dates_holds : PySem.Challenge.rw_oncehome_k40_dates.Holds := by
  exact K40.holds_of K40.plain
