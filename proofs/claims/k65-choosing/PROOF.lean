import PyProof.Rows.All
import Wide.All
import OpenK.AllK
import Wide.FinOn
import HandS.ForMost
import HandS.ForExc
import HandS.Flow
import HandS.Deep
import HandS.Small
import HandS.Style
import HandS.TupAny
import HandS.TupSets
import HandS.Property
import HandS.ClsMeth
import HandS.IsInst
import HandS.TupLe
import HandS.SortInts
import HandS.Strs
import HandS.WordsDict
import HandS.RaiseMore
import HandS.Rev
import HandS.RevRange
import HandS.Zip
import HandS.DictComp
import HandS.Words
import HandS.WordsExc
import HandS.OwnEq
import HandS.Exc
import HandS.TryOnly
import HandS.ExcIs
import HandS.Text
import HandS.NamedTupGet
import PyProof.ReprRoads
import KE.KOwnIter
import HandS.IterVal
import HandS.SortRule
import HandS.MakeKwOnly
import PyProof.ExcBaseAll.ValueError
import PySem.Challenge.RW_viewloom_k65_choosing
set_option Elab.async false
set_option linter.all false
set_option maxRecDepth 100000
set_option maxHeartbeats 8000000
namespace LD
open PySem L2

/-- room for k more calls; no __repr__ is under way -/
structure Room (k : Nat) (A : Around) : Prop where
  l2 : L2.Room k A
  gu : A.guards = some []
theorem Room.hd {k : Nat} {A : Around} (r : Room k A) : A.handled = none := r.l2.hd
theorem Room.un {k : Nat} {A : Around} (r : Room k A) : A.units + 16 * k + 200 < cLine := r.l2.un
theorem Room.units {k : Nat} {A : Around} (r : Room k A) : A.units + 64 < cLine := r.l2.units
theorem Room.mono {j k : Nat} {A : Around} (r : Room k A) (h : j ≤ k) : Room j A := ⟨r.l2.mono h, r.gu⟩
theorem Room.in1 {k : Nat} {A : Around} (r : Room (k + 1) A) : Room k A.in1 := ⟨r.l2.in1, r.gu⟩
theorem Room.deeper {k : Nat} {A : Around} (r : Room (k + 1) A) (env : Env) : Room k (A.deeper env) := ⟨r.l2.deeper env, r.gu⟩
theorem Room.make {k : Nat} {A : Around} (r : Room (k + 1) A) (C : Addr) (us : List Value) (kw : List (Str × Value)) : Room k (A.under (.builtin "type.__call__" ⟨.ref C :: us, kw⟩)) :=
  ⟨r.l2.make C us kw, by
    have h := r.gu
    simp [Around.under, Code.guards, Code.isGuard, guardIds, pushGuards, h]⟩

/-- a value without addresses: what is never changed any more stands in it whole -/
inductive D where
  | non | bl (b : Bool) | int (i : Int) | str (x : Str) | ty (n : String)
  | lst (xs : List D) | tup (xs : List D) | dic (ks : List Key) (vs : List D)
  | ref (i : Nat) | glb (a : Addr)
  deriving Inhabited

/-- an object that may change -/
inductive DO where
  | lst (xs : List D) | dic (kvs : List (Key × D)) | ins (c : Nat) (fs : List (Option D)) | dead
  deriving Inhabited
abbrev Mem := List DO
structure Exn where
  cls : Nat
  fs : Option (List (Str × D))
inductive R (α : Type) where
  | ok (a : α) (M : Mem) | er (x : Exn) (M : Mem) | bad
def R.bind {α β : Type} (r : R α) (f : α → Mem → R β) : R β := match r with
  | .ok a M => f a M
  | .er x M => .er x M
  | .bad => .bad
@[simp] theorem R.bind_ok {α β : Type} {a : α} {M : Mem} {f : α → Mem → R β} : (R.ok a M).bind f = f a M := rfl
@[simp] theorem R.bind_er {α β : Type} {x : Exn} {M : Mem} {f : α → Mem → R β} : (R.er x M : R α).bind f = .er x M := rfl
@[simp] theorem R.bind_bad {α β : Type} {f : α → Mem → R β} : (R.bad : R α).bind f = .bad := rfl

/-- the classes and the exceptions' classes by number -/
structure Tab where
  ct : List (Addr × List Str)
  et : List Value
structure KX where
  fr : PySem.W.Frag
  tb : Tab
section
variable (K : KX) (ι : List Addr) (F : Hp)
mutual
def Rep : D → V → Prop
  | .non, v => v = .non
  | .bl b, v => v = .bl b
  | .int i, v => v = .int i
  | .str x, v => v = .str x
  | .ty n, v => v = .ty n
  | .lst xs, v => ∃ a vs, v = .ref a ∧ SqL K.fr F a vs ∧ RepL xs vs
  | .tup xs, v => ∃ a vs, v = .ref a ∧ SqT K.fr F a vs ∧ RepL xs vs
  | .dic ks ds, v => ∃ a vs, v = .ref a ∧ Rd F a (.dK vs) ∧ vs.map (·.1) = ks ∧ RepL ds (vs.map (·.2))
  | .ref i, v => ∃ a, v = .ref a ∧ ι[i]? = some a
  | .glb a, v => v = .ref a
def RepL : List D → List V → Prop
  | [], vs => vs = []
  | d :: ds, vs => ∃ v r, vs = v :: r ∧ Rep d v ∧ RepL ds r
end
def RepO (H : Hp) (a : Addr) : DO → Prop
  | .lst xs => ∃ vs, H a = some (.lst vs) ∧ RepL K ι F xs vs
  | .dic kvs => ∃ vs, H a = some (.dK vs) ∧ vs.map (·.1) = kvs.map (·.1) ∧ RepL K ι F (kvs.map (·.2)) (vs.map (·.2))
  | .ins c fs => ∃ C ly dx vs, K.tb.ct[c]? = some (C, ly) ∧ H a = some (.ins C dx vs) ∧ (vs.map (·.1)).Nodup ∧ (∀ f ∈ vs.map (·.1), f ∈ ly) ∧ fs.length = ly.length ∧
      ∀ (j : Nat) f, ly[j]? = some f → ∀ d, fs[j]? = some (some d) → ∃ v, vs.lookup f = some v ∧ Rep K ι F d v
  | .dead => True
def DO.live : DO → Bool
  | .dead => false
  | _ => true
structure Rel (rs : List (Addr × HO)) (H : Hp) (M : Mem) : Prop where
  len : ι.length = M.length
  sub : ∀ b o, F b = some o → H b = some o
  obj : ∀ (i : Nat) o a, M[i]? = some o → ι[i]? = some a → o.live = true → F a = none ∧ RepO K ι F H a o
  inj : ∀ (i j : Nat) a, ι[i]? = some a → ι[j]? = some a → i = j
  there : ∀ (i : Nat) a, ι[i]? = some a → ∃ u, H a = some u
  rsv : ∀ p ∈ rs, H p.1 = some p.2 ∧ F p.1 = none ∧ ∀ i : Nat, ι[i]? ≠ some p.1
def RepS (s : List (Option D)) (σ : St) : Prop := σ.length = s.length ∧ ∀ (i : Nat) d, s[i]? = some (some d) → ∃ v, σ[i]? = some (some v) ∧ Rep K ι F d v
def RepX (x : Exn) (cls : Value) (dx : Option Addr) : Prop := K.tb.et[x.cls]? = some cls ∧ match x.fs, dx with
  | none, none => True
  | some fs, some d => ∃ vs, F d = some (.xd vs) ∧ vs.map (·.1) = fs.map (·.1) ∧ RepL K ι F (fs.map (·.2)) (vs.map (·.2))
  | _, _ => False
/-- what was a value stays one -/
def Le (ι' : List Addr) (F' : Hp) : Prop := ∀ d v, Rep K ι F d v → Rep K ι' F' d v
end

section
variable {K : KX} {ι ι' ι'' : List Addr} {F F' F'' H H' : Hp} {M M' : Mem} {rs : List (Addr × HO)}
theorem Le.refl : Le K ι F ι F := fun _ _ h => h
theorem Le.trans (a : Le K ι F ι' F') (b : Le K ι' F' ι'' F'') : Le K ι F ι'' F'' := fun d v h => b d v (a d v h)
theorem RepL.le (e : Le K ι F ι' F') : ∀ {ds : List D} {vs : List V}, RepL K ι F ds vs → RepL K ι' F' ds vs
  | [], vs, h => h
  | d :: ds, vs, h => by
    obtain ⟨v, r, e1, h1, h2⟩ := h
    exact ⟨v, r, e1, e d v h1, RepL.le e h2⟩
theorem RepS.le (e : Le K ι F ι' F') {s : List (Option D)} {σ : St} (h : RepS K ι F s σ) : RepS K ι' F' s σ :=
  ⟨h.1, fun i d q => by
    obtain ⟨v, h1, h2⟩ := h.2 i d q
    exact ⟨v, h1, e _ _ h2⟩⟩
theorem RepO.le (e : Le K ι F ι' F') {a : Addr} {o : DO} (h : RepO K ι F H a o) : RepO K ι' F' H a o := by
  cases o with
  | lst xs => obtain ⟨vs, h1, h2⟩ := h; exact ⟨vs, h1, h2.le e⟩
  | dic kvs => obtain ⟨vs, h1, h2, h3⟩ := h; exact ⟨vs, h1, h2, h3.le e⟩
  | ins C fs =>
    obtain ⟨C, ly, dx, vs, h0, h1, h2, h3, h4, h5⟩ := h
    refine ⟨C, ly, dx, vs, h0, h1, h2, h3, h4, fun j f e1 d e2 => ?_⟩
    obtain ⟨v, h6, h7⟩ := h5 j f e1 d e2
    exact ⟨v, h6, e _ _ h7⟩
  | dead => trivial
theorem RepO.at {a : Addr} {o : DO} (h : RepO K ι F H a o) (e : H' a = H a) : RepO K ι F H' a o := by
  cases o with
  | lst xs => obtain ⟨vs, h1, h2⟩ := h; exact ⟨vs, e.trans h1, h2⟩
  | dic kvs => obtain ⟨vs, h1, h2, h3⟩ := h; exact ⟨vs, e.trans h1, h2, h3⟩
  | ins C fs => obtain ⟨C, ly, dx, vs, h0, h1, h2, h3, h4⟩ := h; exact ⟨C, ly, dx, vs, h0, e.trans h1, h2, h3, h4⟩
  | dead => trivial
theorem RepO.some {a : Addr} {o : DO} (h : RepO K ι F H a o) (l : o.live = true) : ∃ u, H a = some u := by
  cases o with
  | lst xs => obtain ⟨vs, h1, h2⟩ := h; exact ⟨_, h1⟩
  | dic kvs => obtain ⟨vs, h1, h2, h3⟩ := h; exact ⟨_, h1⟩
  | ins C fs => obtain ⟨C, ly, dx, vs, h0, h1, _⟩ := h; exact ⟨_, h1⟩
  | dead => cases l
theorem RepL.length : ∀ {ds : List D} {vs : List V}, RepL K ι F ds vs → vs.length = ds.length
  | [], vs, h => by
    have e : vs = [] := h
    rw [e] <;> rfl
  | d :: ds, vs, h => by
    obtain ⟨v, r, e, h1, h2⟩ := h
    rw [e, List.length_cons, List.length_cons, h2.length]
theorem RepL.get : ∀ {ds : List D} {vs : List V} {i : Nat} {d : D}, RepL K ι F ds vs → ds[i]? = some d → ∃ v, vs[i]? = some v ∧ Rep K ι F d v
  | [], vs, i, d, h, e => by simp at e
  | d0 :: ds, vs, 0, d, h, e => by
    obtain ⟨v, r, e1, h1, h2⟩ := h
    have q : d0 = d := by simpa using e
    subst q
    exact ⟨v, by rw [e1] <;> rfl, h1⟩
  | d0 :: ds, vs, i + 1, d, h, e => by
    obtain ⟨v, r, e1, h1, h2⟩ := h
    obtain ⟨v', h3, h4⟩ := h2.get (i := i) (d := d) (by simpa using e)
    exact ⟨v', by rw [e1]; simpa using h3, h4⟩
theorem RepL.append : ∀ {ds es : List D} {vs us : List V}, RepL K ι F ds vs → RepL K ι F es us → RepL K ι F (ds ++ es) (vs ++ us)
  | [], es, vs, us, h, h' => by
    have e : vs = [] := h
    rw [e]; exact h'
  | d :: ds, es, vs, us, h, h' => by
    obtain ⟨v, r, e, h1, h2⟩ := h
    exact ⟨v, r ++ us, by rw [e] <;> rfl, h1, h2.append h'⟩
theorem RepL.one {d : D} {v : V} (h : Rep K ι F d v) : RepL K ι F [d] [v] := ⟨v, [], rfl, h, rfl⟩
theorem RepL.set : ∀ {ds : List D} {vs : List V} {i : Nat} {d : D} {v : V}, RepL K ι F ds vs → Rep K ι F d v → RepL K ι F (ds.set i d) (vs.set i v)
  | [], vs, i, d, v, h, _ => by
    have e : vs = [] := h
    rw [e]; exact rfl
  | d0 :: ds, vs, 0, d, v, h, h' => by
    obtain ⟨v0, r, e, h1, h2⟩ := h
    exact ⟨v, r, by rw [e] <;> rfl, h', h2⟩
  | d0 :: ds, vs, i + 1, d, v, h, h' => by
    obtain ⟨v0, r, e, h1, h2⟩ := h
    exact ⟨v0, r.set i v, by rw [e] <;> rfl, h1, h2.set h'⟩
theorem RepL.take : ∀ {ds : List D} {vs : List V} (n : Nat), RepL K ι F ds vs → RepL K ι F (ds.take n) (vs.take n)
  | ds, vs, 0, h => by
    show vs.take 0 = []
    simp
  | [], vs, n + 1, h => by
    have e : vs = [] := h
    rw [e]; exact rfl
  | d :: ds, vs, n + 1, h => by
    obtain ⟨v0, r, e, h1, h2⟩ := h
    exact ⟨v0, r.take n, by rw [e] <;> rfl, h1, h2.take n⟩
theorem RepL.drop : ∀ {ds : List D} {vs : List V} (n : Nat), RepL K ι F ds vs → RepL K ι F (ds.drop n) (vs.drop n)
  | ds, vs, 0, h => by simpa using h
  | [], vs, n + 1, h => by
    have e : vs = [] := h
    rw [e]; exact rfl
  | d :: ds, vs, n + 1, h => by
    obtain ⟨v0, r, e, h1, h2⟩ := h
    rw [e]
    exact h2.drop n
theorem RepL.reverse : ∀ {ds : List D} {vs : List V}, RepL K ι F ds vs → RepL K ι F ds.reverse vs.reverse
  | [], vs, h => by
    have e : vs = [] := h
    rw [e]; exact rfl
  | d :: ds, vs, h => by
    obtain ⟨v0, r, e, h1, h2⟩ := h
    rw [e, List.reverse_cons, List.reverse_cons]
    exact h2.reverse.append (.one h1)

/-- the known part grows (or what it knows is locked) and addresses are added -/
theorem Le.of (hF : ∀ b u, (∃ xs, u = HO.lst xs) ∨ (∃ xs, u = HO.tup xs) ∨ (∃ kvs, u = HO.dK kvs) → Rd F b u → Rd F' b u) (hi : ∀ (i : Nat) a, ι[i]? = some a → ι'[i]? = some a) : Le K ι F ι' F' := by
  have main : ∀ n, (∀ d v, sizeOf d < n → Rep K ι F d v → Rep K ι' F' d v) ∧ (∀ ds vs, sizeOf ds < n → RepL K ι F ds vs → RepL K ι' F' ds vs) := by
    intro n
    induction n with
    | zero => exact ⟨fun _ _ h => absurd h (Nat.not_lt_zero _), fun _ _ h => absurd h (Nat.not_lt_zero _)⟩
    | succ n ih =>
      refine ⟨fun d v hn h => ?_, fun ds vs hn h => ?_⟩
      · cases d with
        | non => exact h
        | bl b => exact h
        | int i => exact h
        | str x => exact h
        | ty n => exact h
        | glb a => exact h
        | ref i =>
          obtain ⟨a, e, q⟩ := h
          exact ⟨a, e, hi i a q⟩
        | lst xs =>
          obtain ⟨a, us, e, q, r⟩ := h
          refine ⟨a, us, e, ?_, ih.2 _ _ (by simp at hn; omega) r⟩
          rcases q with q | q
          · exact .inl (hF _ _ (.inl ⟨_, rfl⟩) q)
          · exact .inr q
        | tup xs =>
          obtain ⟨a, us, e, q, r⟩ := h
          refine ⟨a, us, e, ?_, ih.2 _ _ (by simp at hn; omega) r⟩
          rcases q with q | q
          · exact .inl (hF _ _ (.inr (.inl ⟨_, rfl⟩)) q)
          · exact .inr q
        | dic ks xs =>
          obtain ⟨a, us, e, q, e2, r⟩ := h
          exact ⟨a, us, e, hF _ _ (.inr (.inr ⟨_, rfl⟩)) q, e2, ih.2 _ _ (by simp at hn; omega) r⟩
      · cases ds with
        | nil => exact h
        | cons d ds =>
          obtain ⟨v, r, e, h1, h2⟩ := h
          exact ⟨v, r, e, ih.1 _ _ (by simp at hn; omega) h1, ih.2 _ _ (by simp at hn; omega) h2⟩
  exact fun d v h => (main (sizeOf d + 1)).1 d v (Nat.lt_succ_self _) h
theorem Le.grow (hF : ∀ b o, F b = some o → F' b = some o) : Le K ι F ι F' := Le.of (fun b u _ h => by
  rcases h with h | ⟨o, h⟩
  · exact .inl (hF _ _ h)
  · exact .inr ⟨o, hF _ _ h⟩) fun _ _ h => h
theorem Le.new {p : Addr} {o : HO} (h : F p = none) : Le K ι F ι (upd F p o) := Le.grow fun b u e => by
  rw [upd_ne (ne_of_none e h)]; exact e
theorem Le.push {a : Addr} : Le K ι F (ι ++ [a]) F := Le.of (fun _ _ _ h => h) fun i b h => by
  rw [List.getElem?_append_left (List.getElem?_eq_some_iff.mp h).1]; exact h
theorem Rel.free (r : Rel K ι F rs H M) {p : Addr} (h : H p = none) : F p = none := by
  cases e : F p with
  | none => rfl
  | some o =>
    rw [r.sub _ _ e] at h
    cases h
theorem Rel.le (r : Rel K ι F rs H M) (e : Le K ι F ι F') (hs : ∀ b o, F' b = some o → H b = some o) (hn : ∀ (i : Nat) o a, M[i]? = some o → ι[i]? = some a → o.live = true → F' a = none) (hr : ∀ p ∈ rs, F' p.1 = none) : Rel K ι F' rs H M :=
  ⟨r.len, hs, fun i o a h1 h2 h3 => ⟨hn i o a h1 h2 h3, (r.obj i o a h1 h2 h3).2.le e⟩, r.inj, r.there, fun p hp => ⟨(r.rsv p hp).1, hr p hp, (r.rsv p hp).2.2⟩⟩
/-- a new object that will not change -/
theorem Rel.frozen (r : Rel K ι F rs H M) {p : Addr} {o : HO} (h : H p = none) : Rel K ι (upd F p o) rs (upd H p o) M where
  len := r.len
  sub := fun b u e => by
    by_cases hb : b = p
    · subst hb; rw [upd_same] at e ⊢; exact e
    · rw [upd_ne hb] at e ⊢; exact r.sub _ _ e
  obj := fun i u a h1 h2 h3 => by
    obtain ⟨f0, ro⟩ := r.obj i u a h1 h2 h3
    have hap : a ≠ p := fun e => by
      obtain ⟨x, hx⟩ := ro.some h3
      rw [e, h] at hx
      cases hx
    refine ⟨by rw [upd_ne hap]; exact f0, (ro.le (Le.new (r.free h))).at (upd_ne hap)⟩
  inj := r.inj
  there := fun i a e => by
    obtain ⟨x, hx⟩ := r.there i a e
    exact ⟨x, by rw [upd_ne (ne_of_none hx h)]; exact hx⟩
  rsv := fun q hq => by
    obtain ⟨r1, r2, r3⟩ := r.rsv q hq
    have ne := ne_of_none r1 h
    exact ⟨by rw [upd_ne ne]; exact r1, by rw [upd_ne ne]; exact r2, r3⟩
/-- a new object that may change -/
theorem Rel.fresh (r : Rel K ι F rs H M) {p : Addr} {o : HO} {u : DO} (h : H p = none) (hu : u.live = true) (ho : RepO K (ι ++ [p]) F (upd H p o) p u) : Rel K (ι ++ [p]) F rs (upd H p o) (M ++ [u]) where
  len := by rw [List.length_append, List.length_append, r.len] <;> rfl
  sub := fun b v e => by
    have hb : b ≠ p := ne_of_none (r.sub _ _ e) h
    rw [upd_ne hb]; exact r.sub _ _ e
  obj := fun i v a h1 h2 h3 => by
    by_cases hi : i < M.length
    · rw [List.getElem?_append_left hi] at h1
      rw [List.getElem?_append_left (by rw [r.len]; exact hi)] at h2
      obtain ⟨f0, ro⟩ := r.obj i v a h1 h2 h3
      have hap : a ≠ p := fun e => by
        obtain ⟨x, hx⟩ := ro.some h3
        rw [e, h] at hx
        cases hx
      exact ⟨f0, (ro.le Le.push).at (upd_ne hap)⟩
    · have hl : i < (M ++ [u]).length := (List.getElem?_eq_some_iff.mp h1).1
      have hi' : i = M.length := by rw [List.length_append, List.length_singleton] at hl; omega
      subst hi'
      have e1 : u = v := by simpa using h1
      rw [← r.len] at h2
      have e2 : p = a := by simpa using h2
      subst e1; subst e2
      exact ⟨r.free h, ho⟩
  inj := fun i j a h1 h2 => by
    have old : ∀ (k : Nat), k < M.length → (ι ++ [p])[k]? = some a → ι[k]? = some a ∧ a ≠ p := fun k hk q => by
      rw [List.getElem?_append_left (by rw [r.len]; exact hk)] at q
      obtain ⟨x, hx⟩ := r.there k a q
      exact ⟨q, ne_of_none hx h⟩
    have last : ∀ (k : Nat), ¬ k < M.length → (ι ++ [p])[k]? = some a → k = M.length ∧ a = p := fun k hk q => by
      have hl : k < (ι ++ [p]).length := (List.getElem?_eq_some_iff.mp q).1
      have hk' : k = M.length := by rw [List.length_append, List.length_singleton, r.len] at hl; omega
      rw [hk', ← r.len] at q
      have q' : p = a := by simpa using q
      exact ⟨hk', q'.symm⟩
    by_cases hi : i < M.length
    · obtain ⟨q1, na⟩ := old i hi h1
      by_cases hj : j < M.length
      · exact r.inj i j a q1 (old j hj h2).1
      · exact absurd (last j hj h2).2 na
    · obtain ⟨ei, ea⟩ := last i hi h1
      by_cases hj : j < M.length
      · exact absurd ea (old j hj h2).2
      · rw [ei, (last j hj h2).1]
  there := fun i a e => by
    by_cases hi : i < M.length
    · rw [List.getElem?_append_left (by rw [r.len]; exact hi)] at e
      obtain ⟨x, hx⟩ := r.there i a e
      exact ⟨x, by rw [upd_ne (ne_of_none hx h)]; exact hx⟩
    · have hl : i < (ι ++ [p]).length := (List.getElem?_eq_some_iff.mp e).1
      have hk' : i = M.length := by rw [List.length_append, List.length_singleton, r.len] at hl; omega
      rw [hk', ← r.len] at e
      have q' : p = a := by simpa using e
      exact ⟨o, by rw [← q', upd_same]⟩
  rsv := fun q hq => by
    obtain ⟨r1, r2, r3⟩ := r.rsv q hq
    have ne := ne_of_none r1 h
    refine ⟨by rw [upd_ne ne]; exact r1, r2, fun i e => ?_⟩
    by_cases hi : i < M.length
    · rw [List.getElem?_append_left (by rw [r.len]; exact hi)] at e
      exact r3 i e
    · have hl : i < (ι ++ [p]).length := (List.getElem?_eq_some_iff.mp e).1
      have hk' : i = M.length := by rw [List.length_append, List.length_singleton, r.len] at hl; omega
      rw [hk', ← r.len] at e
      have q' : p = q.1 := by simpa using e
      exact ne q'.symm
/-- an object that may change is changed -/
theorem Rel.write (r : Rel K ι F rs H M) {i : Nat} {a : Addr} {u v : DO} {o : HO} (hM : M[i]? = some u) (hi : ι[i]? = some a) (hu : u.live = true) (ho : RepO K ι F (upd H a o) a v) : Rel K ι F rs (upd H a o) (M.set i v) where
  len := by rw [List.length_set]; exact r.len
  sub := fun b x e => by
    have hb : b ≠ a := fun q => by
      rw [q, (r.obj i u a hM hi hu).1] at e
      cases e
    rw [upd_ne hb]; exact r.sub _ _ e
  obj := fun j x c h1 h2 h3 => by
    by_cases hj : i = j
    · subst hj
      rw [hi] at h2
      cases h2
      have hl : i < M.length := (List.getElem?_eq_some_iff.mp hM).1
      rw [List.getElem?_set_self hl] at h1
      cases h1
      exact ⟨(r.obj i u a hM hi hu).1, ho⟩
    · rw [List.getElem?_set_ne hj] at h1
      obtain ⟨f0, ro⟩ := r.obj j x c h1 h2 h3
      have hc : c ≠ a := fun q => hj (r.inj i j a hi (by rw [← q]; exact h2))
      exact ⟨f0, ro.at (upd_ne hc)⟩
  inj := r.inj
  there := fun j c e => by
    by_cases hc : c = a
    · exact ⟨o, by rw [hc, upd_same]⟩
    · obtain ⟨x, hx⟩ := r.there j c e
      exact ⟨x, by rw [upd_ne hc]; exact hx⟩
  rsv := fun q hq => by
    obtain ⟨r1, r2, r3⟩ := r.rsv q hq
    have ne : q.1 ≠ a := fun z => r3 i (by rw [z]; exact hi)
    exact ⟨by rw [upd_ne ne]; exact r1, r2, r3⟩
/-- an object that may change is known from now on as it stands -/
theorem Rel.freeze (r : Rel K ι F rs H M) {i : Nat} {a : Addr} {u : DO} {o : HO} (hM : M[i]? = some u) (hi : ι[i]? = some a) (hu : u.live = true) (ho : H a = some o) : Rel K ι (upd F a o) rs H (M.set i .dead) where
  len := by rw [List.length_set]; exact r.len
  sub := fun b x e => by
    by_cases hb : b = a
    · rw [hb, upd_same] at e
      rw [hb, ho, e]
    · rw [upd_ne hb] at e
      exact r.sub _ _ e
  obj := fun j x c h1 h2 h3 => by
    by_cases hj : i = j
    · subst hj
      have hl : i < M.length := (List.getElem?_eq_some_iff.mp hM).1
      rw [List.getElem?_set_self hl] at h1
      cases h1
      cases h3
    · rw [List.getElem?_set_ne hj] at h1
      obtain ⟨f0, ro⟩ := r.obj j x c h1 h2 h3
      have hc : c ≠ a := fun q => hj (r.inj i j a hi (by rw [← q]; exact h2))
      exact ⟨by rw [upd_ne hc]; exact f0, ro.le (Le.new (r.obj i u a hM hi hu).1)⟩
  inj := r.inj
  there := r.there
  rsv := fun q hq => by
    obtain ⟨r1, r2, r3⟩ := r.rsv q hq
    have ne : q.1 ≠ a := fun z => r3 i (by rw [z]; exact hi)
    exact ⟨r1, by rw [upd_ne ne]; exact r2, r3⟩
/-! ### what follows -/
def Post {α β : Type} (K : KX) (rs : List (Addr × HO)) (rep : List Addr → Hp → α → β → Prop) (ι : List Addr) (F : Hp) (W : Value → Option Addr → Hp → Prop) (Q : β → Hp → Prop) : R α → Prop
  | .ok a M' => ∀ ι' F' H' v, Le K ι F ι' F' → Rel K ι' F' rs H' M' → rep ι' F' a v → Q v H'
  | .er x M' => ∀ ι' F' H' cls dx, Le K ι F ι' F' → Rel K ι' F' rs H' M' → RepX K ι' F' x cls dx → W cls dx H'
  | .bad => False
theorem Post.le {α β : Type} {rep : List Addr → Hp → α → β → Prop} {W : Value → Option Addr → Hp → Prop} {Q : β → Hp → Prop} {r : R α} (e : Le K ι F ι' F') (h : Post K rs rep ι F W Q r) : Post K rs rep ι' F' W Q r := by
  cases r with
  | ok a M' => exact fun ι2 F2 H2 v l => h ι2 F2 H2 v (e.trans l)
  | er x M' => exact fun ι2 F2 H2 c d l => h ι2 F2 H2 c d (e.trans l)
  | bad => exact h
abbrev repD (K : KX) : List Addr → Hp → D → V → Prop := fun ι F d v => Rep K ι F d v
abbrev repA (K : KX) : List Addr → Hp → List D → List V → Prop := fun ι F d v => RepL K ι F d v
abbrev repB : List Addr → Hp → Bool → Bool → Prop := fun _ _ a b => b = a
abbrev DS := List (Option D)
abbrev Sem1 (α : Type) := DS → Mem → R α
/-- the reading of a semantics -/
def LG {α β : Type} (K : KX) (rs : List (Addr × HO)) (rep : List Addr → Hp → α → β → Prop) (W : WX) (φ : Sem1 α) : St → Hp → (β → Hp → Prop) → Prop := fun σ H Q =>
  ∃ ι F s M, Rel K ι F rs H M ∧ RepS K ι F s σ ∧ Post K rs rep ι F (fun c d => W c d σ) Q (φ s M)
abbrev LE (K : KX) (rs : List (Addr × HO)) (W : WX) (φ : Sem1 D) : TE := LG K rs (repD K) W φ
abbrev LA (K : KX) (rs : List (Addr × HO)) (W : WX) (φ : Sem1 (List D)) : TA := LG K rs (repA K) W φ
abbrev LT (K : KX) (rs : List (Addr × HO)) (W : WX) (φ : Sem1 Bool) : TT := LG K rs repB W φ
/-- first this, then that -/
theorem LG.bind {α β γ δ : Type} {rep : List Addr → Hp → α → β → Prop} {rep2 : List Addr → Hp → γ → δ → Prop} {W : WX} {φ : Sem1 α} {f : α → Sem1 γ} {σ : St} {Q : δ → Hp → Prop}
    (h : LG K rs rep2 W (fun s M => (φ s M).bind fun a M1 => f a s M1) σ H Q) : LG K rs rep W φ σ H fun v H1 => ∃ ι F s M a, Rel K ι F rs H1 M ∧ RepS K ι F s σ ∧ rep ι F a v ∧ Post K rs rep2 ι F (fun c d => W c d σ) Q (f a s M) := by
  obtain ⟨ι, F, s, M, r, rs, p⟩ := h
  refine ⟨ι, F, s, M, r, rs, ?_⟩
  dsimp only at p
  cases e : φ s M with
  | ok a M1 =>
    rw [e] at p
    exact fun ι1 F1 H1 v l r1 ra => ⟨ι1, F1, s, M1, a, r1, rs.le l, ra, p.le l⟩
  | er x M1 =>
    rw [e] at p
    exact p
  | bad =>
    rw [e] at p
    exact p
theorem LG.imp {α β : Type} {rep : List Addr → Hp → α → β → Prop} {W : WX} {φ : Sem1 α} {σ : St} {Q Q' : β → Hp → Prop} (h : LG K rs rep W φ σ H Q) (hq : ∀ v H', Q v H' → Q' v H') : LG K rs rep W φ σ H Q' := by
  obtain ⟨ι, F, s, M, r, rs, p⟩ := h
  refine ⟨ι, F, s, M, r, rs, ?_⟩
  cases e : φ s M with
  | ok a M1 =>
    rw [e] at p
    exact fun ι1 F1 H1 v l r1 ra => hq _ _ (p ι1 F1 H1 v l r1 ra)
  | er x M1 =>
    rw [e] at p
    exact p
  | bad =>
    rw [e] at p
    exact p
end
end LD
namespace LD
open PySem PySem.Spec PyProof.Rows L2

/-! ### plain functions on values -/
abbrev O1 := D → Mem → Option (D × Mem)
abbrev O2 := D → D → Mem → Option (D × Mem)
def LINE : Nat := 16777216
def lsOf (M : Mem) : D → Option (List D)
  | .lst xs => some xs
  | .ref i => match M[i]? with
    | some (.lst xs) => some xs
    | _ => none
  | _ => none
def dcOf (M : Mem) : D → Option (List (Key × D))
  | .dic ks vs => if ks.length = vs.length then some (ks.zip vs) else none
  | .ref i => match M[i]? with
    | some (.dic kvs) => some kvs
    | _ => none
  | _ => none
def truD (M : Mem) : D → Option Bool
  | .non => some false
  | .bl b => some b
  | .int i => some (i != 0)
  | .str x => if x.length ≤ LINE then some ((x.length : Int) != 0) else none
  | .lst xs => some (!xs.isEmpty)
  | .tup xs => some (!xs.isEmpty)
  | .dic ks _ => none
  | .ref i => match M[i]? with
    | some (.lst xs) => some (!xs.isEmpty)
    | some (.dic kvs) => some (!kvs.isEmpty)
    | _ => none
  | _ => none
mutual
def pyD : D → Option PyData
  | .non => some .none
  | .bl b => some (.bool b)
  | .int i => some (.int i)
  | .str x => some (.str x)
  | .lst xs => (pyL xs).map .list
  | .tup xs => (pyL xs).map .tuple
  | _ => none
def pyL : List D → Option (List PyData)
  | [] => some []
  | d :: ds => (pyD d).bind fun p => (pyL ds).map fun ps => p :: ps
end
def pyOf (M : Mem) (d : D) : Option PyData := match d with
  | .ref i => match M[i]? with
    | some (.lst xs) => (pyL xs).map .list
    | _ => none
  | d => pyD d
def isF : D → Bool
  | .non => true | .bl _ => true | .int _ => true | .str _ => true | _ => false
def eqF : D → D → Bool
  | .non, .non => true
  | .bl a, .bl b => a == b
  | .bl a, .int b => (if a then 1 else 0) == b
  | .int a, .bl b => a == (if b then 1 else 0)
  | .int a, .int b => a == b
  | .str a, .str b => a == b
  | _, _ => false
def eqD (M : Mem) (x y : D) : Option Bool :=
  if isF x && isF y then some (eqF x y)
  else (pyOf M x).bind fun p => (pyOf M y).bind fun q => if SeqAt.shaped p && SeqAt.shaped q then some (PyData.eqv p q) else none
def keyOf : D → Option Key
  | .int i => some (.inl i)
  | .str x => some (.inr x)
  | _ => none
def getK {α : Type} (kvs : List (Key × α)) (k : Key) : Option α := (kvs.find? fun kv => decide (kv.1 = k)).map (·.2)
def inD (M : Mem) (x y : D) : Option Bool :=
  match dcOf M y with
  | some kvs => (keyOf x).map fun k => (getK kvs k).isSome
  | none => match y with
    | .str b => match x with
      | .str a => some (!(Builtin.Str.occurrences b a 0 b.length 1).isEmpty)
      | _ => none
    | .tup xs => if isF x && xs.all isF then some (xs.any fun z => eqF z x) else none
    | y => match lsOf M y with
      | some xs => if isF x && xs.all isF then some (xs.any fun z => eqF z x)
        else (pyOf M x).bind fun p => (pyL xs).bind fun ps => if SeqAt.shaped p && SeqAt.shaped (.list ps) then some (ps.any fun z => PyData.eqv z p) else none
      | none => none
/-! ### readings of operators -/
def RO1 (K : KX) (rs : List (Addr × HO)) (g : O1) : V → Hp → VK → Prop := fun v H Q => ∃ ι F M x z M', Rel K ι F rs H M ∧ Rep K ι F x v ∧ g x M = some (z, M') ∧ ∀ ι' F' H' u, Le K ι F ι' F' → Rel K ι' F' rs H' M' → Rep K ι' F' z u → Q u H'
def RO2 (K : KX) (rs : List (Addr × HO)) (g : O2) : R2 := fun v w H Q => ∃ ι F M x y z M', Rel K ι F rs H M ∧ Rep K ι F x v ∧ Rep K ι F y w ∧ g x y M = some (z, M') ∧ ∀ ι' F' H' u, Le K ι F ι' F' → Rel K ι' F' rs H' M' → Rep K ι' F' z u → Q u H'

section
variable {K : KX} {ι ι' : List Addr} {F F' H H' : Hp} {M M' : Mem} {d x y : D} {v w : V} {rs : List (Addr × HO)}
theorem rd_sub (r : Rel K ι F rs H M) {a : Addr} {u : HO} (h : Rd F a u) : Rd H a u := by
  rcases h with h | ⟨o, h⟩
  · exact .inl (r.sub _ _ h)
  · exact .inr ⟨o, r.sub _ _ h⟩
theorem sql_sub (r : Rel K ι F rs H M) {a : Addr} {xs : List V} (h : SqL K.fr F a xs) : SqL K.fr H a xs := by
  rcases h with h | h
  · exact .inl (rd_sub r h)
  · exact .inr h
theorem sqt_sub (r : Rel K ι F rs H M) {a : Addr} {xs : List V} (h : SqT K.fr F a xs) : SqT K.fr H a xs := by
  rcases h with h | h
  · exact .inl (rd_sub r h)
  · exact .inr h
theorem lsOf_at {xs : List D} (r : Rel K ι F rs H M) (e : lsOf M d = some xs) (h : Rep K ι F d v) : ∃ a vs, v = .ref a ∧ SqL K.fr H a vs ∧ RepL K ι F xs vs := by
  cases d with
  | lst ys =>
    have q : ys = xs := Option.some.inj e
    subst q
    obtain ⟨a, vs, e1, h1, h2⟩ := h
    exact ⟨a, vs, e1, sql_sub r h1, h2⟩
  | ref i =>
    obtain ⟨a, e1, h1⟩ := h
    simp only [lsOf] at e
    split at e
    · rename_i ys hM
      cases e
      obtain ⟨_, vs, h2, h3⟩ := r.obj i _ a hM h1 rfl
      exact ⟨a, vs, e1, .inl (.inl h2), h3⟩
    · cases e
  | _ => cases e
theorem dcOf_at {kvs : List (Key × D)} (r : Rel K ι F rs H M) (e : dcOf M d = some kvs) (h : Rep K ι F d v) : ∃ a vs, v = .ref a ∧ Rd H a (.dK vs) ∧ vs.map (·.1) = kvs.map (·.1) ∧ RepL K ι F (kvs.map (·.2)) (vs.map (·.2)) := by
  cases d with
  | dic ks ds =>
    simp only [dcOf] at e
    split at e
    · rename_i hl
      cases e
      obtain ⟨a, vs, e1, h1, h2, h3⟩ := h
      refine ⟨a, vs, e1, rd_sub r h1, ?_, ?_⟩
      · rw [h2, List.map_fst_zip (Nat.le_of_eq hl)]
      · rw [List.map_snd_zip (Nat.le_of_eq hl.symm)]; exact h3
    · cases e
  | ref i =>
    obtain ⟨a, e1, h1⟩ := h
    simp only [dcOf] at e
    split at e
    · rename_i ys hM
      cases e
      obtain ⟨_, vs, h2, h3, h4⟩ := r.obj i _ a hM h1 rfl
      exact ⟨a, vs, e1, .inl h2, h3, h4⟩
    · cases e
  | _ => cases e
theorem valV_rep {k : Key} : ∀ {kvs : List (Key × D)} {vs : List (Key × V)}, vs.map (·.1) = kvs.map (·.1) → RepL K ι F (kvs.map (·.2)) (vs.map (·.2)) →
    match getK kvs k with
    | some d => ∃ u, valV vs k = some u ∧ Rep K ι F d u
    | none => valV vs k = none
  | [], [], _, _ => rfl
  | [], _ :: _, e, _ => by cases e
  | _ :: _, [], e, _ => by cases e
  | (k1, d1) :: kvs, (k2, v2) :: vs, e, h => by
    obtain ⟨v, r, e1, h1, h2⟩ := h
    have e' : k2 = k1 ∧ vs.map (·.1) = kvs.map (·.1) := List.cons.inj e
    obtain ⟨rfl, e2⟩ := e'
    have e3 : v2 = v ∧ vs.map (·.2) = r := List.cons.inj e1
    obtain ⟨rfl, rfl⟩ := e3
    unfold getK valV
    by_cases hk : k2 = k
    · rw [List.find?_cons_of_pos (by simpa using hk), List.find?_cons_of_pos (by simpa using hk)]
      exact ⟨v2, rfl, h1⟩
    · rw [List.find?_cons_of_neg (by simpa using hk), List.find?_cons_of_neg (by simpa using hk)]
      exact valV_rep e2 h2
theorem rep_flat (hf : isF d = true) (h : Rep K ι F d v) : flatV v = true ∧ ∀ {e : D} {w : V}, isF e = true → Rep K ι F e w → eqV v w = eqF d e := by
  cases d with
  | non =>
    cases h
    refine ⟨rfl, fun {e w} he hw => ?_⟩
    cases e <;> first | (cases hw; rfl) | cases he
  | bl b =>
    cases h
    refine ⟨rfl, fun {e w} he hw => ?_⟩
    cases e <;> first | (cases hw; rfl) | cases he
  | int b =>
    cases h
    refine ⟨rfl, fun {e w} he hw => ?_⟩
    cases e <;> first | (cases hw; rfl) | cases he
  | str b =>
    cases h
    refine ⟨rfl, fun {e w} he hw => ?_⟩
    cases e <;> first | (cases hw; rfl) | cases he
  | _ => cases hf
theorem rep_flats : ∀ {ds : List D} {vs : List V}, ds.all isF = true → RepL K ι F ds vs → vs.all flatV = true ∧ ∀ {e : D} {w : V}, isF e = true → Rep K ι F e w → inV w vs = ds.any fun z => eqF z e
  | [], vs, _, h => by
    have e : vs = [] := h
    rw [e]
    exact ⟨rfl, fun _ _ => rfl⟩
  | d :: ds, vs, hf, h => by
    obtain ⟨v, r, e1, h1, h2⟩ := h
    rw [List.all_cons, Bool.and_eq_true] at hf
    obtain ⟨a1, a2⟩ := rep_flat hf.1 h1
    obtain ⟨b1, b2⟩ := rep_flats hf.2 h2
    subst e1
    refine ⟨by rw [List.all_cons, a1, b1] <;> rfl, fun {e w} he hw => ?_⟩
    unfold inV at b2 ⊢
    rw [List.any_cons, List.any_cons, a2 he hw, b2 he hw]
mutual
theorem pyD_dp (r : Rel K ι F rs H M) : ∀ (d : D) (p : PyData) (v : V), pyD d = some p → Rep K ι F d v → Dp K.fr H v p
  | .non, p, v, e, h => by
    have e' : PyData.none = p := Option.some.inj (by simpa only [pyD] using e)
    cases h; subst e'; exact .non
  | .bl b, p, v, e, h => by
    have e' : PyData.bool b = p := Option.some.inj (by simpa only [pyD] using e)
    cases h; subst e'; exact .bl b
  | .int b, p, v, e, h => by
    have e' : PyData.int b = p := Option.some.inj (by simpa only [pyD] using e)
    cases h; subst e'; exact .int b
  | .str b, p, v, e, h => by
    have e' : PyData.str b = p := Option.some.inj (by simpa only [pyD] using e)
    cases h; subst e'; exact .str b
  | .lst xs, p, v, e, h => by
    rw [pyD] at e
    obtain ⟨ps, h1, rfl⟩ := Option.map_eq_some_iff.mp e
    obtain ⟨a, vs, rfl, h2, h3⟩ := h
    exact .lst (sql_sub r h2) (pyL_dp r xs ps vs h1 h3)
  | .tup xs, p, v, e, h => by
    rw [pyD] at e
    obtain ⟨ps, h1, rfl⟩ := Option.map_eq_some_iff.mp e
    obtain ⟨a, vs, rfl, h2, h3⟩ := h
    exact .tup (sqt_sub r h2) (pyL_dp r xs ps vs h1 h3)
  | .ty _, p, v, e, h => by rw [pyD] at e <;> first | cases e | (intros; intro q; cases q)
  | .dic _ _, p, v, e, h => by rw [pyD] at e <;> first | cases e | (intros; intro q; cases q)
  | .ref _, p, v, e, h => by rw [pyD] at e <;> first | cases e | (intros; intro q; cases q)
  | .glb _, p, v, e, h => by rw [pyD] at e <;> first | cases e | (intros; intro q; cases q)
theorem pyL_dp (r : Rel K ι F rs H M) : ∀ (ds : List D) (ps : List PyData) (vs : List V), pyL ds = some ps → RepL K ι F ds vs → DpAll K.fr H vs ps
  | [], ps, vs, e, h => by
    have e' : [] = ps := Option.some.inj (by simpa only [pyL] using e)
    have e2 : vs = [] := h
    subst e'; subst e2; exact .nil
  | d :: ds, ps, vs, e, h => by
    rw [pyL] at e
    obtain ⟨p, h1, e⟩ := Option.bind_eq_some_iff.mp e
    obtain ⟨qs, h2, rfl⟩ := Option.map_eq_some_iff.mp e
    obtain ⟨v, us, rfl, h3, h4⟩ := h
    exact .cons (pyD_dp r d p v h1 h3) (pyL_dp r ds qs us h2 h4)
end
theorem pyOf_dp {p : PyData} (r : Rel K ι F rs H M) (e : pyOf M d = some p) (h : Rep K ι F d v) : Dp K.fr H v p := by
  unfold pyOf at e
  split at e
  · rename_i i
    obtain ⟨a, rfl, h1⟩ := h
    split at e
    · rename_i xs hM
      obtain ⟨ps, h2, rfl⟩ := Option.map_eq_some_iff.mp e
      obtain ⟨_, vs, h3, h4⟩ := r.obj i _ a hM h1 rfl
      exact .lst (.inl (.inl h3)) (pyL_dp r _ _ _ h2 h4)
    · cases e
  · exact pyD_dp r _ _ _ e h
end
end LD
namespace LD
open PySem PySem.Spec PyProof.Rows L2

def ofO {α : Type} : Option (α × Mem) → R α
  | some (a, M) => .ok a M
  | none => .bad
theorem Post.step {α β γ δ : Type} {K : KX} {rs : List (Addr × HO)} {rep : List Addr → Hp → α → β → Prop} {rep2 : List Addr → Hp → γ → δ → Prop} {ι : List Addr} {F : Hp} {W : Value → Option Addr → Hp → Prop} {Q : δ → Hp → Prop} {Q' : β → Hp → Prop} {r : R α} {f : α → Mem → R γ}
    (h : Post K rs rep2 ι F W Q (r.bind f)) (k : ∀ v H' ι' F' M' a, Le K ι F ι' F' → Rel K ι' F' rs H' M' → rep ι' F' a v → Post K rs rep2 ι' F' W Q (f a M') → Q' v H') : Post K rs rep ι F W Q' r := by
  cases r with
  | ok a M1 => exact fun ι1 F1 H1 v l r1 ra => k v H1 ι1 F1 M1 a l r1 ra (Post.le l h)
  | er x M1 => exact h
  | bad => exact h
theorem Post.stepE {α β γ δ : Type} {K : KX} {rs : List (Addr × HO)} {rep : List Addr → Hp → α → β → Prop} {rep2 : List Addr → Hp → γ → δ → Prop} {ι : List Addr} {F : Hp} {W : Value → Option Addr → Hp → Prop} {Q : δ → Hp → Prop} {Q' : β → Hp → Prop} {r : R α} {f : α → Mem → R γ}
    (h : Post K rs rep2 ι F W Q (r.bind f)) (k : ∀ v H' ι' F' M' a, r = .ok a M' → Le K ι F ι' F' → Rel K ι' F' rs H' M' → rep ι' F' a v → Post K rs rep2 ι' F' W Q (f a M') → Q' v H') : Post K rs rep ι F W Q' r := by
  cases r with
  | ok a M1 => exact fun ι1 F1 H1 v l r1 ra => k v H1 ι1 F1 M1 a rfl l r1 ra (Post.le l h)
  | er x M1 => exact h
  | bad => exact h
theorem Post.fin {α β : Type} {K : KX} {rs : List (Addr × HO)} {rep : List Addr → Hp → α → β → Prop} {ι : List Addr} {F H : Hp} {W : Value → Option Addr → Hp → Prop} {Q : β → Hp → Prop} {a : α} {M : Mem} {v : β} (h : Post K rs rep ι F W Q (.ok a M)) (r : Rel K ι F rs H M) (q : rep ι F a v) : Q v H := h ι F H v Le.refl r q

abbrev kx (X : Cx) (T : Tab) : KX := ⟨X.K, T⟩
def KE (X : Cx) (T : Tab) (W : WX) (e : Expr) (φ : Sem1 D) : Prop := ∀ rs, PE X e (LE (kx X T) rs W φ)
def KT (X : Cx) (T : Tab) (W : WX) (e : Expr) (φ : Sem1 Bool) : Prop := ∀ rs, PT X e (LT (kx X T) rs W φ)
def KWt (X : Cx) (T : Tab) (W : WX) (e : Expr) (φ : Sem1 Bool) : Prop := ∀ rs, PW X e (LT (kx X T) rs W φ)
/-- the lists that it gives have this length -/
def AL (φ : Sem1 (List D)) (n : Nat) : Prop := ∀ s M xs M', φ s M = .ok xs M' → xs.length = n
structure KA (X : Cx) (T : Tab) (W : WX) (es : List Expr) (φ : Sem1 (List D)) : Prop where
  pa : ∀ rs, PA X es (LA (kx X T) rs W φ)
  al : AL φ es.length
theorem PE.imp {X : Cx} {e : Expr} {t t' : TE} (h : PE X e t) (i : ∀ σ H Q, t' σ H Q → t σ H Q) : PE X e t' := ⟨fun pins s σ H Q I q => h.run pins s σ H Q I (i σ H Q q)⟩
theorem PT.imp {X : Cx} {e : Expr} {t t' : TT} (h : PT X e t) (i : ∀ σ H Q, t' σ H Q → t σ H Q) : PT X e t' := ⟨fun pins s σ H Q I q => h.run pins s σ H Q I (i σ H Q q)⟩
theorem PW.imp {X : Cx} {e : Expr} {t t' : TT} (h : PW X e t) (i : ∀ σ H Q, t' σ H Q → t σ H Q) : PW X e t' := ⟨fun w pins s σ H Q I q => h.run w pins s σ H Q I (i σ H Q q)⟩
theorem PA.imp {X : Cx} {e : List Expr} {t t' : TA} (h : PA X e t) (i : ∀ σ H Q, t' σ H Q → t σ H Q) : PA X e t' := ⟨fun p pins s σ H Q I q => h.run p pins s σ H Q I (i σ H Q q)⟩
theorem PS.imp {X : Cx} {e : Stmt} {t t' : TS} (h : PS X e t) (i : ∀ D σ H, t' D σ H → t D σ H) : PS X e t' := ⟨fun pins s σ H Q I q => h.run pins s σ H Q I (i Q σ H q)⟩
theorem PSs.imp {X : Cx} {e : List Stmt} {t t' : TS} (h : PSs X e t) (i : ∀ D σ H, t' D σ H → t D σ H) : PSs X e t' := ⟨fun pins s σ H Q I q => h.run pins s σ H Q I (i Q σ H q)⟩

/-! ### the semantics of expressions -/
def eC (d : D) : Sem1 D := fun _ M => .ok d M
def eVar (i : Nat) : Sem1 D := fun s M => match s[i]? with
  | some (some d) => .ok d M
  | _ => .bad
def eBin (g : O2) (a b : Sem1 D) : Sem1 D := fun s M => (a s M).bind fun x M1 => (b s M1).bind fun y M2 => ofO (g x y M2)
def eUn (g : O1) (a : Sem1 D) : Sem1 D := fun s M => (a s M).bind fun x M1 => ofO (g x M1)
def eOf (t : Sem1 Bool) : Sem1 D := fun s M => (t s M).bind fun b M1 => .ok (.bl b) M1
def tOf (a : Sem1 D) : Sem1 Bool := fun s M => (a s M).bind fun x M1 => match truD M1 x with
  | some b => .ok b M1
  | none => .bad
def tCmp (g : O2) (a b : Sem1 D) : Sem1 Bool := fun s M => (eBin g a b s M).bind fun z M1 => match z with
  | .bl k => .ok k M1
  | _ => .bad
def tAnd (a b : Sem1 Bool) : Sem1 Bool := fun s M => (a s M).bind fun k M1 => if k then b s M1 else .ok false M1
def tOr (a b : Sem1 Bool) : Sem1 Bool := fun s M => (a s M).bind fun k M1 => if k then .ok true M1 else b s M1
def tNot (a : Sem1 Bool) : Sem1 Bool := fun s M => (a s M).bind fun k M1 => .ok (!k) M1
def eAnd (a b : Sem1 D) : Sem1 D := fun s M => (a s M).bind fun x M1 => match truD M1 x with
  | some k => if k then b s M1 else .ok x M1
  | none => .bad
def eOr (a b : Sem1 D) : Sem1 D := fun s M => (a s M).bind fun x M1 => match truD M1 x with
  | some k => if k then .ok x M1 else b s M1
  | none => .bad
def eNot (a : Sem1 D) : Sem1 D := fun s M => (a s M).bind fun x M1 => match truD M1 x with
  | some k => .ok (.bl (!k)) M1
  | none => .bad
def eIf (t : Sem1 Bool) (a b : Sem1 D) : Sem1 D := fun s M => (t s M).bind fun k M1 => if k then a s M1 else b s M1
def aNil : Sem1 (List D) := fun _ M => .ok [] M
def aCons (a : Sem1 D) (r : Sem1 (List D)) : Sem1 (List D) := fun s M => (a s M).bind fun x M1 => (r s M1).bind fun xs M2 => .ok (x :: xs) M2
def eTup (a : Sem1 (List D)) : Sem1 D := fun s M => (a s M).bind fun xs M1 => if xs.length ≤ LINE then .ok (.tup xs) M1 else .bad
/-- a new list: one that will not change, or one that may -/
def eLst (mu : Bool) (a : Sem1 (List D)) : Sem1 D := fun s M => (a s M).bind fun xs M1 => if xs.length ≤ LINE then (if mu then .ok (.ref M1.length) (M1 ++ [.lst xs]) else .ok (.lst xs) M1) else .bad
def eChain (g g' : O2) (a b c : Sem1 D) : Sem1 D := fun s M => (a s M).bind fun x M1 => (b s M1).bind fun y M2 => (ofO (g x y M2)).bind fun z M3 => match z with
  | .bl true => (c s M3).bind fun w M4 => ofO (g' y w M4)
  | .bl false => .ok (.bl false) M3
  | _ => .bad

section
variable {X : Cx} {T : Tab} {W : WX} {a b c : Expr} {rest : List Expr} {pos : Pos} {φ ψ χ : Sem1 D} {τ υ : Sem1 Bool}
theorem line_eq : LINE = sizeLine := by rw [sizeLine_eq] <;> rfl
theorem d_c_int {i : Int} {j : Nat} : KE X T W (.Constant (.int i) j pos) (eC (.int i)) := fun rs => PE.imp pe_int fun σ H Q h => by
  obtain ⟨ι, F, s, M, r, rS, p⟩ := h
  exact p.fin r rfl
theorem d_c_str {i : Str} {j : Nat} : KE X T W (.Constant (.str i) j pos) (eC (.str i)) := fun rs => PE.imp pe_str fun σ H Q h => by
  obtain ⟨ι, F, s, M, r, rS, p⟩ := h
  exact p.fin r rfl
theorem d_c_bl {i : Bool} {j : Nat} : KE X T W (.Constant (.bool i) j pos) (eC (.bl i)) := fun rs => PE.imp pe_bl fun σ H Q h => by
  obtain ⟨ι, F, s, M, r, rS, p⟩ := h
  exact p.fin r rfl
theorem d_c_non {j : Nat} : KE X T W (.Constant .none j pos) (eC .non) := fun rs => PE.imp pe_non fun σ H Q h => by
  obtain ⟨ι, F, s, M, r, rS, p⟩ := h
  exact p.fin r rfl
theorem d_var {i : Nat} {x : Str} (hN : X.N[i]? = some x) (hv : Vis X.env.scope x) (hd : (x == ("__debug__" : Str)) = false) (hcd : (x == ("__classdict__" : Str)) = false) : KE X T W (.Name x pos) (eVar i) := fun rs => PE.imp (pe_var hN hv hd hcd) fun σ H Q h => by
  obtain ⟨ι, F, s, M, r, rS, p⟩ := h
  unfold eVar at p
  split at p
  · rename_i d e
    obtain ⟨v, h1, h2⟩ := rS.2 i d e
    exact ⟨v, h1, p.fin r h2⟩
  · exact p.elim
/-- a name of the module whose value is known -/
theorem d_glob {x : Str} {v : V} {u : Value} {d : D} (hg : Gl X x) (hm : X.mg x = some u) (rv : RelV v u) (hd : (x == ("__debug__" : Str)) = false) (hr : ∀ ι F, Rep (kx X T) ι F d v) : KE X T W (.Name x pos) (eC d) := fun rs => PE.imp (pe_glob hg hm rv hd) fun σ H Q h => by
  obtain ⟨ι, F, s, M, r, rS, p⟩ := h
  exact p.fin r (hr ι F)
theorem ro2 {σ : L2.St} {H : Hp} {Q : VK} {g : O2} {x y : D} {v w : V} {ι : List Addr} {F : Hp} {M : Mem} {K : KX} {rs : List (Addr × HO)} {W' : Value → Option Addr → Hp → Prop} (r : Rel K ι F rs H M) (h1 : Rep K ι F x v) (h2 : Rep K ι F y w) (p : Post K rs (repD K) ι F W' Q (ofO (g x y M))) : RO2 K rs g v w H Q := by
  cases e : g x y M with
  | none => rw [e] at p; exact p.elim
  | some z =>
    obtain ⟨z, M'⟩ := z
    rw [e] at p
    exact ⟨ι, F, M, x, y, z, M', r, h1, h2, e, p⟩
theorem ro1 {σ : L2.St} {H : Hp} {Q : VK} {g : O1} {x : D} {v : V} {ι : List Addr} {F : Hp} {M : Mem} {K : KX} {rs : List (Addr × HO)} {W' : Value → Option Addr → Hp → Prop} (r : Rel K ι F rs H M) (h1 : Rep K ι F x v) (p : Post K rs (repD K) ι F W' Q (ofO (g x M))) : RO1 K rs g v H Q := by
  cases e : g x M with
  | none => rw [e] at p; exact p.elim
  | some z =>
    obtain ⟨z, M'⟩ := z
    rw [e] at p
    exact ⟨ι, F, M, x, z, M', r, h1, e, p⟩
theorem lg_op {rs : List (Addr × HO)} {g : O2} {σ : L2.St} {H : Hp} {Q : VK} (h : LE (kx X T) rs W (eBin g φ ψ) σ H Q) : tOp (RO2 (kx X T) rs g) (LE (kx X T) rs W φ) (LE (kx X T) rs W ψ) σ H Q := by
  obtain ⟨ι, F, s, M, r, rS, p⟩ := h
  refine ⟨ι, F, s, M, r, rS, p.step fun v H1 ι1 F1 M1 x l1 r1 rv p1 => ?_⟩
  refine ⟨ι1, F1, s, M1, r1, rS.le l1, p1.step fun w H2 ι2 F2 M2 y l2 r2 rw2 p2 => ?_⟩
  exact ro2 (σ := σ) r2 (l2 _ _ rv) rw2 p2
theorem d_bin {op : Operator} {g : O2} (ho : ∀ rs, OpR X (binaryOp op) (RO2 (kx X T) rs g)) (ha : KE X T W a φ) (hb : KE X T W b ψ) : KE X T W (.BinOp a op b pos) (eBin g φ ψ) := fun rs => PE.imp (pe_op (ho rs) (ha rs) (hb rs)) fun _ _ _ h => lg_op h
theorem d_un {op : UnaryOp} {g : O1} (ho : ∀ rs, UnR X (unaryOp op) (RO1 (kx X T) rs g)) (ha : KE X T W a φ) : KE X T W (.UnaryOp op a pos) (eUn g φ) := fun rs => PE.imp (pe_un (ho rs) (ha rs)) fun σ H Q h => by
  obtain ⟨ι, F, s, M, r, rS, p⟩ := h
  exact ⟨ι, F, s, M, r, rS, p.step fun v H1 ι1 F1 M1 x l1 r1 rv p1 => ro1 (σ := σ) r1 rv p1⟩
theorem d_cmp {op : CmpOp} {g : O2} (ho : ∀ rs, OpR X (compareOp op) (RO2 (kx X T) rs g)) (ha : KE X T W a φ) (hb : KE X T W b ψ) (hm : behindInMarks op b = false) : KE X T W (.Compare a [op] [b] pos) (eBin g φ ψ) := fun rs => PE.imp (pe_cmpR (ho rs) (ha rs) (hb rs) hm) fun _ _ _ h => lg_op h
theorem t_cmp {op : CmpOp} {g : O2} (ho : ∀ rs, OpR X (compareOp op) (RO2 (kx X T) rs g)) (ha : KE X T W a φ) (hb : KE X T W b ψ) (hm : behindInMarks op b = false) : KT X T W (.Compare a [op] [b] pos) (tCmp g φ ψ) := fun rs => PT.imp (pt_cmpR (ho rs) (ha rs) (hb rs) hm) fun σ H Q h => by
  refine lg_op (rs := rs) (W := W) (φ := φ) (ψ := ψ) (g := g) ?_
  obtain ⟨ι, F, s, M, r, rS, p⟩ := h
  refine ⟨ι, F, s, M, r, rS, p.step fun v H1 ι1 F1 M1 z l1 r1 rv p1 => ?_⟩
  cases z with
  | bl k => exact ⟨k, rv, p1.fin r1 rfl⟩
  | _ => exact p1.elim
theorem d_chain {op op' : CmpOp} {g g' : O2} (ho : ∀ rs, OpR X (compareOp op) (RO2 (kx X T) rs g)) (ho' : ∀ rs, OpR X (compareOp op') (RO2 (kx X T) rs g')) (ha : KE X T W a φ) (hb : KE X T W b ψ) (hc : KE X T W c χ) (hm : lastMarks [op, op'] [b, c] = false) :
    KE X T W (.Compare a [op, op'] [b, c] pos) (eChain g g' φ ψ χ) := fun rs => PE.imp (pe_chain (ho rs) (ho' rs) (ha rs) (hb rs) (hc rs) hm) fun σ H Q h => by
  obtain ⟨ι, F, s, M, r, rS, p⟩ := h
  refine ⟨ι, F, s, M, r, rS, p.step fun v H1 ι1 F1 M1 x l1 r1 rv p1 => ?_⟩
  refine ⟨ι1, F1, s, M1, r1, rS.le l1, p1.step fun w H2 ι2 F2 M2 y l2 r2 rw2 p2 => ?_⟩
  refine ro2 (σ := σ) (W' := fun c d => W c d σ) (g := g) (M := M2) r2 (l2 _ _ rv) rw2 (p2.step fun u H3 ι3 F3 M3 z l3 r3 ru p3 => ?_)
  cases z with
  | bl k =>
    refine ⟨k, ru, ?_⟩
    cases k with
    | true => exact iteT ⟨ι3, F3, s, M3, r3, ((rS.le l1).le l2).le l3, p3.step fun u2 H4 ι4 F4 M4 z2 l4 r4 ru2 p4 => ro2 (σ := σ) r4 (l4 _ _ (l3 _ _ rw2)) ru2 p4⟩
    | false => exact iteF (p3.fin r3 rfl)
  | _ => exact p3.elim
theorem truD_at {M : Mem} {x : D} {v : V} {k : Bool} {ι : List Addr} {F H : Hp} {K : KX} {rs : List (Addr × HO)} (r : Rel K ι F rs H M) (h : Rep K ι F x v) (e : truD M x = some k) : TruV K.fr v H k := by
  have emp : ∀ {ds : List D} {vs : List V}, RepL K ι F ds vs → (!ds.isEmpty) = !vs.isEmpty := fun {ds vs} q => by
    cases ds with
    | nil => have e : vs = [] := q; rw [e] <;> rfl
    | cons d ds => obtain ⟨v, u, e, _⟩ := q; rw [e] <;> rfl
  cases x with
  | non => cases h; exact (Option.some.inj e).symm
  | bl b => cases h; exact (Option.some.inj e).symm
  | int i => cases h; exact (Option.some.inj e).symm
  | str x =>
    cases h
    simp only [truD] at e
    split at e
    · rename_i hl
      exact ⟨by rw [← line_eq]; exact hl, (Option.some.inj e).symm⟩
    · cases e
  | lst xs =>
    obtain ⟨a, vs, rfl, h1, h2⟩ := h
    exact .inl ⟨vs, sql_sub r h1, by rw [← emp h2]; exact (Option.some.inj e).symm⟩
  | tup xs =>
    obtain ⟨a, vs, rfl, h1, h2⟩ := h
    exact .inr (.inl ⟨vs, sqt_sub r h1, by rw [← emp h2]; exact (Option.some.inj e).symm⟩)
  | ref i =>
    obtain ⟨a, rfl, h1⟩ := h
    simp only [truD] at e
    split at e
    · rename_i xs hM
      obtain ⟨_, vs, h2, h3⟩ := r.obj i _ a hM h1 rfl
      exact .inl ⟨vs, .inl (.inl h2), by rw [← emp h3]; exact (Option.some.inj e).symm⟩
    · rename_i kvs hM
      obtain ⟨_, vs, h2, h3, h4⟩ := r.obj i _ a hM h1 rfl
      refine .inr (.inr ⟨vs, h2, ?_⟩)
      have q := congrArg List.isEmpty h3
      cases vs <;> cases kvs <;> first | exact (Option.some.inj e).symm | cases q
    · cases e
  | _ => cases e
theorem t_val (ha : KE X T W a φ) (he : ∀ whole, isTrue a X.env whole = (do let v ← whole; standAt a.pos; holding [v] (truthy v))) : KT X T W a (tOf φ) := fun rs => PT.imp (pt_truth (ha rs) he) fun σ H Q h => by
  obtain ⟨ι, F, s, M, r, rS, p⟩ := h
  refine ⟨ι, F, s, M, r, rS, p.step fun v H1 ι1 F1 M1 x l1 r1 rv p1 => ?_⟩
  cases e : truD M1 x with
  | none => rw [e] at p1; exact p1.elim
  | some k => rw [e] at p1; exact ⟨k, truD_at r1 rv e, p1.fin r1 rfl⟩
theorem t_and1 (ha : KT X T W a τ) : KWt X T W (.BoolOp .And [a] pos) τ := fun rs => pw_and1 (ha rs)
theorem t_or1 (ha : KT X T W a τ) : KWt X T W (.BoolOp .Or [a] pos) τ := fun rs => pw_or1 (ha rs)
theorem t_and (ha : KT X T W a τ) (hb : KWt X T W (.BoolOp .And (b :: rest) pos) υ) : KWt X T W (.BoolOp .And (a :: b :: rest) pos) (tAnd τ υ) := fun rs => PW.imp (pw_and (ha rs) (hb rs)) fun σ H Q h => by
  obtain ⟨ι, F, s, M, r, rS, p⟩ := h
  refine ⟨ι, F, s, M, r, rS, p.step fun v H1 ι1 F1 M1 k l1 r1 rv p1 => ?_⟩
  have rv' : v = k := rv
  subst rv'
  cases v with
  | true => exact iteT ⟨ι1, F1, s, M1, r1, rS.le l1, p1⟩
  | false => exact iteF (p1.fin r1 rfl)
theorem t_or (ha : KT X T W a τ) (hb : KWt X T W (.BoolOp .Or (b :: rest) pos) υ) : KWt X T W (.BoolOp .Or (a :: b :: rest) pos) (tOr τ υ) := fun rs => PW.imp (pw_or (ha rs) (hb rs)) fun σ H Q h => by
  obtain ⟨ι, F, s, M, r, rS, p⟩ := h
  refine ⟨ι, F, s, M, r, rS, p.step fun v H1 ι1 F1 M1 k l1 r1 rv p1 => ?_⟩
  have rv' : v = k := rv
  subst rv'
  cases v with
  | false => exact iteF ⟨ι1, F1, s, M1, r1, rS.le l1, p1⟩
  | true => exact iteT (p1.fin r1 rfl)
theorem t_not (ha : KT X T W a τ) : KT X T W (.UnaryOp .Not a pos) (tNot τ) := fun rs => PT.imp (pt_not (ha rs)) fun σ H Q h => by
  obtain ⟨ι, F, s, M, r, rS, p⟩ := h
  refine ⟨ι, F, s, M, r, rS, p.step fun v H1 ι1 F1 M1 k l1 r1 rv p1 => ?_⟩
  have rv' : v = k := rv
  subst rv'
  exact p1.fin r1 rfl
theorem d_one {op : BoolOp} (h : KE X T W a φ) : KE X T W (.BoolOp op [a] pos) φ := fun rs => pe_one (h rs)
theorem d_and (ha : KE X T W a φ) (hb : KE X T W (.BoolOp .And (b :: rest) pos) ψ) : KE X T W (.BoolOp .And (a :: b :: rest) pos) (eAnd φ ψ) := fun rs => PE.imp (pe_andT (ha rs) (hb rs)) fun σ H Q h => by
  obtain ⟨ι, F, s, M, r, rS, p⟩ := h
  refine ⟨ι, F, s, M, r, rS, p.step fun v H1 ι1 F1 M1 x l1 r1 rv p1 => ?_⟩
  cases e : truD M1 x with
  | none => rw [e] at p1; exact p1.elim
  | some k =>
    rw [e] at p1
    refine ⟨k, truD_at r1 rv e, ?_⟩
    cases k with
    | true => exact iteT ⟨ι1, F1, s, M1, r1, rS.le l1, p1⟩
    | false => exact iteF (p1.fin r1 rv)
theorem d_or (ha : KE X T W a φ) (hb : KE X T W (.BoolOp .Or (b :: rest) pos) ψ) : KE X T W (.BoolOp .Or (a :: b :: rest) pos) (eOr φ ψ) := fun rs => PE.imp (pe_orT (ha rs) (hb rs)) fun σ H Q h => by
  obtain ⟨ι, F, s, M, r, rS, p⟩ := h
  refine ⟨ι, F, s, M, r, rS, p.step fun v H1 ι1 F1 M1 x l1 r1 rv p1 => ?_⟩
  cases e : truD M1 x with
  | none => rw [e] at p1; exact p1.elim
  | some k =>
    rw [e] at p1
    refine ⟨k, truD_at r1 rv e, ?_⟩
    cases k with
    | false => exact iteF ⟨ι1, F1, s, M1, r1, rS.le l1, p1⟩
    | true => exact iteT (p1.fin r1 rv)
theorem d_not (ha : KE X T W a φ) : KE X T W (.UnaryOp .Not a pos) (eNot φ) := fun rs => PE.imp (pe_notT (ha rs)) fun σ H Q h => by
  obtain ⟨ι, F, s, M, r, rS, p⟩ := h
  refine ⟨ι, F, s, M, r, rS, p.step fun v H1 ι1 F1 M1 x l1 r1 rv p1 => ?_⟩
  cases e : truD M1 x with
  | none => rw [e] at p1; exact p1.elim
  | some k =>
    rw [e] at p1
    exact ⟨k, truD_at r1 rv e, p1.fin r1 rfl⟩
theorem d_if (hc : KT X T W c τ) (ha : KE X T W a φ) (hb : KE X T W b ψ) : KE X T W (.IfExp c a b pos) (eIf τ φ ψ) := fun rs => PE.imp (pe_ifExp (hc rs) (ha rs) (hb rs)) fun σ H Q h => by
  obtain ⟨ι, F, s, M, r, rS, p⟩ := h
  refine ⟨ι, F, s, M, r, rS, p.step fun v H1 ι1 F1 M1 k l1 r1 rv p1 => ?_⟩
  have rv' : v = k := rv
  subst rv'
  cases v with
  | true => exact iteT ⟨ι1, F1, s, M1, r1, rS.le l1, p1⟩
  | false => exact iteF ⟨ι1, F1, s, M1, r1, rS.le l1, p1⟩
theorem R.bind_eq_ok {α β : Type} {r : R α} {f : α → Mem → R β} {b : β} {M : Mem} (h : r.bind f = .ok b M) : ∃ a M1, r = .ok a M1 ∧ f a M1 = .ok b M := by
  cases r with
  | ok a M1 => exact ⟨a, M1, rfl, h⟩
  | er x M1 => cases h
  | bad => cases h
theorem al_nil : AL aNil 0 := fun s M xs M' h => by
  cases h; rfl
theorem al_cons {φ : Sem1 D} {α : Sem1 (List D)} {n : Nat} (h : AL α n) : AL (aCons φ α) (n + 1) := fun s M xs M' e => by
  obtain ⟨x, M1, e1, e⟩ := R.bind_eq_ok e
  obtain ⟨ys, M2, e2, e⟩ := R.bind_eq_ok e
  cases e
  rw [List.length_cons, h _ _ _ _ e2]
theorem a_nil : KA X T W [] aNil := ⟨fun rs => PA.imp pa_nil fun σ H Q h => by
  obtain ⟨ι, F, s, M, r, rS, p⟩ := h
  exact p.fin r rfl, al_nil⟩
theorem a_cons {α : Sem1 (List D)} (ha : KE X T W a φ) (hr : KA X T W rest α) (hs : starEach (a :: rest) X.env = (false, eval a X.env) :: starEach rest X.env) : KA X T W (a :: rest) (aCons φ α) := ⟨fun rs => PA.imp (pa_cons (ha rs) (hr.pa rs) hs) fun σ H Q h => by
  obtain ⟨ι, F, s, M, r, rS, p⟩ := h
  refine ⟨ι, F, s, M, r, rS, p.step fun v H1 ι1 F1 M1 x l1 r1 rv p1 => ?_⟩
  refine ⟨ι1, F1, s, M1, r1, rS.le l1, p1.step fun ws H2 ι2 F2 M2 xs l2 r2 rw2 p2 => ?_⟩
  exact p2.fin r2 ⟨v, ws, rfl, l2 _ _ rv, rw2⟩, al_cons hr.al⟩
theorem d_tup {k : Nat} {α : Sem1 (List D)} (h : KA X T W rest α) : KE X T W (.Tuple rest k pos) (eTup α) := fun rs => PE.imp (pe_tup (h.pa rs)) fun σ H Q h => by
  obtain ⟨ι, F, s, M, r, rS, p⟩ := h
  refine ⟨ι, F, s, M, r, rS, p.step fun vs H1 ι1 F1 M1 xs l1 r1 rv p1 => ?_⟩
  have hl : vs.length = xs.length := RepL.length rv
  by_cases hz : xs.length ≤ LINE
  · rw [if_pos hz] at p1
    refine ⟨by rw [hl, ← line_eq]; exact hz, fun q hq => ?_⟩
    exact p1 ι1 (upd F1 q (.tup vs)) _ _ (Le.new (r1.free hq)) (r1.frozen hq) ⟨q, vs, rfl, .inl (.inl upd_same), RepL.le (Le.new (r1.free hq)) rv⟩
  · rw [if_neg hz] at p1; exact p1.elim
theorem newList {mu : Bool} {xs : List D} {vs : List V} {ι : List Addr} {F H : Hp} {M : Mem} {K : KX} {rs : List (Addr × HO)} {Q : VK} {W' : Value → Option Addr → Hp → Prop} (r : Rel K ι F rs H M) (rv : RepL K ι F xs vs)
    (p : Post K rs (repD K) ι F W' Q (if mu then .ok (.ref M.length) (M ++ [.lst xs]) else .ok (.lst xs) M)) : ∀ q, H q = none → Q (.ref q) (upd H q (.lst vs)) := fun q hq => by
  cases mu with
  | true =>
    exact p (ι ++ [q]) F _ _ Le.push (r.fresh hq rfl ⟨vs, upd_same, RepL.le Le.push rv⟩) ⟨q, rfl, by rw [← r.len]; simp⟩
  | false =>
    exact p ι (upd F q (.lst vs)) _ _ (Le.new (r.free hq)) (r.frozen hq) ⟨q, vs, rfl, .inl (.inl upd_same), RepL.le (Le.new (r.free hq)) rv⟩
theorem d_lst {mu : Bool} {α : Sem1 (List D)} (h : KA X T W rest α) : KE X T W (.List rest pos) (eLst mu α) := fun rs => PE.imp (pe_lst (h.pa rs)) fun σ H Q h => by
  obtain ⟨ι, F, s, M, r, rS, p⟩ := h
  refine ⟨ι, F, s, M, r, rS, p.step fun vs H1 ι1 F1 M1 xs l1 r1 rv p1 => ?_⟩
  have hl : vs.length = xs.length := RepL.length rv
  by_cases hz : xs.length ≤ LINE
  · rw [if_pos hz] at p1
    exact ⟨by rw [hl, ← line_eq]; exact hz, newList r1 rv p1⟩
  · rw [if_neg hz] at p1; exact p1.elim
end
end LD
namespace LD
open PySem PySem.Spec PyProof.Rows L2

/-! ### the operators on values -/
def addD : O2 := fun x y M => match x, y with
  | .int i, .int j => some (.int (i + j), M)
  | .str a, .str b => if a.length + b.length ≤ LINE then some (.str (a ++ b), M) else none
  | .tup a, .tup b => if a.length + b.length ≤ LINE then some (.tup (a ++ b), M) else none
  | x, y => match lsOf M x, lsOf M y with
    | some a, some b => if a.length + b.length ≤ LINE then some (.lst (a ++ b), M) else none
    | _, _ => none
def intD (c : Int → Int → Bool) (f : Int → Int → Int) : O2 := fun x y M => match x, y with
  | .int i, .int j => if c i j then some (.int (f i j), M) else none
  | _, _ => none
/-- written so that the kernel stops at a variable -/
def small (i : Int) : Bool := Nat.ble (i.natAbs + 1) 18446744073709551616
theorem small_iff {i : Int} : small i = true ↔ -(2 ^ 64) < i ∧ i < 2 ^ 64 := by
  unfold small
  rw [Nat.ble_eq]
  omega
def subD : O2 := intD (fun _ _ => true) (· - ·)
def mulD : O2 := intD (fun i j => small i || small j) (· * ·)
def fdok (j : Int) : Bool := match j with
  | .ofNat n => Nat.ble 1 n && Nat.ble (n + 1) 1073741824
  | .negSucc _ => false
theorem fdok_iff {j : Int} : fdok j = true ↔ 0 < j ∧ j < 1073741824 := by
  unfold fdok
  cases j with
  | ofNat n =>
    simp only [Bool.and_eq_true, Nat.ble_eq, Int.ofNat_eq_natCast]
    omega
  | negSucc n =>
    simp only [Int.negSucc_eq]
    constructor
    · intro h; cases h
    · intro h; omega
def fdivD : O2 := intD (fun _ j => fdok j) (· / ·)
def modD : O2 := intD (fun _ j => decide (0 < j)) (· % ·)
def powD : O2 := intD (fun i j => decide (0 ≤ j) && decide (j ≤ 1000000) && decide (i.natAbs < 2 ^ 64)) fun i j => i ^ j.toNat
def negD : O1 := fun x M => match x with
  | .int i => some (.int (-i), M)
  | _ => none
def boD (f : Mem → D → D → Option Bool) : O2 := fun x y M => (f M x y).map fun k => (.bl k, M)
def intsOf : List D → Option (List Int)
  | [] => some []
  | .int i :: r => (intsOf r).map fun is => i :: is
  | _ => none
def ltB : Mem → D → D → Option Bool := fun _ x y => match x, y with
  | .int i, .int j => some (decide (i < j))
  | .str a, .str b => some (decide (a.cps.toList < b.cps.toList))
  | .tup xs, .tup ys => (intsOf xs).bind fun ns => (intsOf ys).map fun ms => HT.lexLt ns ms
  | _, _ => none
def leB : Mem → D → D → Option Bool := fun _ x y => match x, y with
  | .int i, .int j => some (decide (i ≤ j))
  | .str a, .str b => some (!decide (b.cps.toList < a.cps.toList))
  | _, _ => none
def gtB : Mem → D → D → Option Bool := fun _ x y => match x, y with
  | .int i, .int j => some (decide (j < i))
  | .str a, .str b => some (decide (b.cps.toList < a.cps.toList))
  | _, _ => none
def geB : Mem → D → D → Option Bool := fun _ x y => match x, y with
  | .int i, .int j => some (decide (j ≤ i))
  | .str a, .str b => some (!decide (a.cps.toList < b.cps.toList))
  | _, _ => none
def isNon : D → Bool
  | .non => true
  | _ => false
def isB : Mem → D → D → Option Bool := fun _ x y => match y with
  | .non => some (isNon x)
  | .bl b => match x with
    | .bl a => some (a == b)
    | _ => none
  | _ => none
def notB (f : Mem → D → D → Option Bool) : Mem → D → D → Option Bool := fun M x y => (f M x y).map fun k => !k
/-- an item -/
def ixD : O2 := fun x y M => match x with
  | .str z => match y with
    | .int i => if z.length ≤ LINE then (atI z.cps.toList i).map fun c => (.str ⟨#[c]⟩, M) else none
    | _ => none
  | .tup xs => match y with
    | .int i => (atI xs i).map fun d => (d, M)
    | _ => none
  | x => match dcOf M x with
    | some kvs => (keyOf y).bind fun k => (getK kvs k).map fun d => (d, M)
    | none => match lsOf M x with
      | some xs => match y with
        | .int i => (atI xs i).map fun d => (d, M)
        | _ => none
      | none => none

section
variable {X : Cx} {T : Tab} {rs : List (Addr × HO)}
theorem OpR.imp {f : Value → Value → Sem Value} {r r' : R2} (h : OpR X f r) (i : ∀ x y H Q, r' x y H Q → r x y H Q) : OpR X f r' :=
  fun pins s σ H x y v u Q I rx ry q => h pins s σ H x y v u Q I rx ry (i _ _ _ _ q)
theorem IxR.imp {r r' : R2} (h : IxR X r) (i : ∀ x y H Q, r' x y H Q → r x y H Q) : IxR X r' :=
  fun va sl pins s σ H x y v u Q I rx ry q hs => h va sl pins s σ H x y v u Q I rx ry (i _ _ _ _ q) hs
theorem RO2.int {K : KX} {c : Int → Int → Bool} {f : Int → Int → Int} {x y : V} {H : Hp} {Q : VK} (h : RO2 K rs (intD c f) x y H Q) : ∃ i j, x = .int i ∧ y = .int j ∧ c i j = true ∧ Q (.int (f i j)) H := by
  obtain ⟨ι, F, M, d, e, z, M', r, h1, h2, g, q⟩ := h
  unfold intD at g
  split at g
  · rename_i i j
    split at g
    · rename_i hc
      cases g
      exact ⟨i, j, h1, h2, hc, q ι F H _ Le.refl r rfl⟩
    · cases g
  · cases g
theorem o_sub : OpR X (binaryOp .Sub) (RO2 (kx X T) rs subD) := OpR.imp op_sub fun x y H Q h => by
  obtain ⟨i, j, e1, e2, _, q⟩ := h.int
  exact ⟨i, j, e1, e2, q⟩
theorem o_mul : OpR X (binaryOp .Mult) (RO2 (kx X T) rs mulD) := OpR.imp op_mul fun x y H Q h => by
  obtain ⟨i, j, e1, e2, hc, q⟩ := h.int
  refine ⟨i, j, e1, e2, ?_, q⟩
  simp only [small_iff, Bool.or_eq_true] at hc
  exact hc
theorem o_fdiv : OpR X (binaryOp .FloorDiv) (RO2 (kx X T) rs fdivD) := OpR.imp op_fdiv fun x y H Q h => by
  obtain ⟨i, j, e1, e2, hc, q⟩ := h.int
  refine ⟨i, j, e1, e2, ?_, q⟩
  rw [fdok_iff] at hc
  exact hc
theorem o_mod : OpR X (binaryOp .Mod) (RO2 (kx X T) rs modD) := OpR.imp op_mod fun x y H Q h => by
  obtain ⟨i, j, e1, e2, hc, q⟩ := h.int
  exact ⟨i, j, e1, e2, of_decide_eq_true hc, q⟩
theorem o_pow : OpR X (binaryOp .Pow) (RO2 (kx X T) rs powD) := OpR.imp op_pow fun x y H Q h => by
  obtain ⟨i, j, e1, e2, hc, q⟩ := h.int
  refine ⟨i, j, e1, e2, ?_, q⟩
  simp only [Bool.and_eq_true, decide_eq_true_eq] at hc
  exact ⟨hc.1.1, hc.1.2, hc.2⟩
theorem o_neg : UnR X (unaryOp .USub) (RO1 (kx X T) rs negD) := fun pins s σ H x v Q I rx h => un_neg pins s σ H x v Q I rx (by
  obtain ⟨ι, F, M, d, z, M', r, h1, g, q⟩ := h
  unfold negD at g
  split at g
  · cases g
    exact ⟨_, h1, q ι F H _ Le.refl r rfl⟩
  · cases g)
/-- list + list, whatever is known of them -/
theorem op_catS : OpR X (binaryOp .Add) (fun x y H Q => ∃ a b xs ys, x = .ref a ∧ y = .ref b ∧ SqL X.K H a xs ∧ SqL X.K H b ys ∧ xs.length + ys.length ≤ sizeLine ∧ ∀ p, H p = none → Q (.ref p) (upd H p (.lst (xs ++ ys)))) := by
  intro pins s σ H x y v u Q I rx ry h
  obtain ⟨l, b, xs, ys, rfl, rfl, hx, hy, hz, q⟩ := h
  cases rx
  cases ry
  obtain ⟨vs, r1, p1, _⟩ := I.list hx
  obtain ⟨ws, r2, p2, _⟩ := I.list hy
  have l1 := r1.length
  have l2 := r2.length
  obtain ⟨⟨cls, dd, data, sl⟩, ho, hc, n, hd⟩ := p1.isList
  obtain ⟨⟨cls2, dd2, data2, sl2⟩, ho2, hc2, n2, hd2⟩ := p2.isList
  simp only at hc hd hc2 hd2
  subst hc hd hc2 hd2
  have e : vs.toArray ++ ws.toArray = (vs ++ ws).toArray := by simp
  refine concat_meets ⟨_, ho, rfl⟩ ⟨_, ho2, rfl⟩ noFill_list_add seq_list_add PySem.F.slot_list_add PySem.F.entry_list_add (PySem.F.args_list_add_2 _ _) (list_addW l b vs.toArray ws.toArray n n2 dd dd2 sl sl2 (by simp; omega)) ⟨ho, ho2, ?_⟩
  rw [e]
  refine ⟨.ref s.heap.objs.size, _, I.laid (t' := s.toks) (o := .lst (xs ++ ys)) (fun b ob q => Heap.get?_push_of_some _ q) (Nat.le_refl _) ?_, rfl, q _ (I.hok.fresh (Nat.le_refl _))⟩
  exact ⟨by rw [List.length_append]; exact hz, _, 0, r1.append r2, Heap.get?_push_size _ rfl⟩
theorem o_add : OpR X (binaryOp .Add) (RO2 (kx X T) rs addD) := OpR.imp (OpR.or op_add (OpR.or op_add_str (OpR.or op_catA op_catS))) fun x y H Q h => by
  obtain ⟨ι, F, M, d, e, z, M', r, h1, h2, g, q⟩ := h
  unfold addD at g
  split at g
  · cases g
    exact .inl ⟨_, _, h1, h2, q ι F H _ Le.refl r rfl⟩
  · split at g
    · rename_i hz
      cases g
      exact .inr (.inl ⟨_, _, h1, h2, by rw [← line_eq]; exact hz, q ι F H _ Le.refl r rfl⟩)
    · cases g
  · split at g
    · rename_i xs ys hz
      cases g
      obtain ⟨a, vs, rfl, s1, l1⟩ := h1
      obtain ⟨b, ws, rfl, s2, l2⟩ := h2
      refine .inr (.inr (.inl ⟨a, b, vs, ws, rfl, rfl, sqt_sub r s1, sqt_sub r s2, by rw [l1.length, l2.length, ← line_eq]; exact hz, fun e => ?_, fun _ e => ?_, fun _ _ p hp => ?_⟩))
      · subst e
        refine q ι F H _ Le.refl r ⟨b, ws, rfl, s2, ?_⟩
        cases xs with
        | nil => exact l2
        | cons d ds => obtain ⟨_, _, e, _⟩ := l1; cases e
      · subst e
        refine q ι F H _ Le.refl r ⟨a, vs, rfl, s1, ?_⟩
        cases ys with
        | nil => rw [List.append_nil]; exact l1
        | cons d ds => obtain ⟨_, _, e, _⟩ := l2; cases e
      · exact q ι (upd F p (.tup (vs ++ ws))) _ _ (Le.new (r.free hp)) (r.frozen hp) ⟨p, _, rfl, .inl (.inl upd_same), RepL.le (Le.new (r.free hp)) (l1.append l2)⟩
    · cases g
  · split at g
    · rename_i xs ys e1 e2
      split at g
      · rename_i hz
        cases g
        obtain ⟨a, vs, rfl, s1, l1⟩ := lsOf_at r e1 h1
        obtain ⟨b, ws, rfl, s2, l2⟩ := lsOf_at r e2 h2
        refine .inr (.inr (.inr ⟨a, b, vs, ws, rfl, rfl, s1, s2, by rw [l1.length, l2.length, ← line_eq]; exact hz, fun p hp => ?_⟩))
        exact q ι (upd F p (.lst (vs ++ ws))) _ _ (Le.new (r.free hp)) (r.frozen hp) ⟨p, _, rfl, .inl (.inl upd_same), RepL.le (Le.new (r.free hp)) (l1.append l2)⟩
      · cases g
    · cases g

theorem RO2.bo {K : KX} {f : Mem → D → D → Option Bool} {x y : V} {H : Hp} {Q : VK} (h : RO2 K rs (boD f) x y H Q) : ∃ ι F M d e k, Rel K ι F rs H M ∧ Rep K ι F d x ∧ Rep K ι F e y ∧ f M d e = some k ∧ Q (.bl k) H := by
  obtain ⟨ι, F, M, d, e, z, M', r, h1, h2, g, q⟩ := h
  unfold boD at g
  obtain ⟨k, g1, g2⟩ := Option.map_eq_some_iff.mp g
  cases g2
  exact ⟨ι, F, M, d, e, k, r, h1, h2, g1, q ι F H _ Le.refl r rfl⟩
theorem pyOf_flat {M : Mem} {d : D} (h : isF d = true) : pyOf M d = pyD d := by
  cases d <;> first | rfl | cases h
/-- what == comes to -/
theorem eqD_at {M : Mem} {d e : D} {k : Bool} {x y : V} {ι : List Addr} {F H : Hp} {K : KX} (r : Rel K ι F rs H M) (h1 : Rep K ι F d x) (h2 : Rep K ι F e y) (g : eqD M d e = some k) :
    (scal x y = true ∧ decide (x = y) = k) ∨ ∃ p q, Dp K.fr H x p ∧ Dp K.fr H y q ∧ SeqAt.shaped p = true ∧ SeqAt.shaped q = true ∧ PyData.eqv p q = k := by
  unfold eqD at g
  split at g
  · rename_i hf
    rw [Bool.and_eq_true] at hf
    obtain ⟨f1, f2⟩ := hf
    have g' : eqF d e = k := Option.some.inj g
    subst g'
    cases d <;> first
      | (cases f1; done)
      | (cases h1; cases e <;> first
        | (cases f2; done)
        | (cases h2; exact .inl ⟨rfl, by first | rfl | exact dec_int | exact dec_str | exact dec_bl⟩)
        | (cases h2; exact .inr ⟨_, _, .bl _, .int _, rfl, rfl, rfl⟩)
        | (cases h2; exact .inr ⟨_, _, .int _, .bl _, rfl, rfl, rfl⟩))
  · obtain ⟨p, p1, g⟩ := Option.bind_eq_some_iff.mp g
    obtain ⟨q, q1, g⟩ := Option.bind_eq_some_iff.mp g
    split at g
    · rename_i hs
      rw [Bool.and_eq_true] at hs
      exact .inr ⟨p, q, pyOf_dp r p1 h1, pyOf_dp r q1 h2, hs.1, hs.2, Option.some.inj g⟩
    · cases g
theorem o_eq (hu : X.A.units + 64 < cLine) : OpR X (compareOp .Eq) (RO2 (kx X T) rs (boD eqD)) := OpR.imp (OpR.or op_eq (op_eqD hu)) fun x y H Q h => by
  obtain ⟨ι, F, M, d, e, k, r, h1, h2, g, q⟩ := h.bo
  rcases eqD_at r h1 h2 g with ⟨a1, a2⟩ | ⟨p, p', a1, a2, a3, a4, a5⟩
  · exact .inl ⟨a1, by rw [a2]; exact q⟩
  · exact .inr ⟨p, p', a1, a2, a3, a4, by rw [a5]; exact q⟩
theorem o_ne (hu : X.A.units + 64 < cLine) : OpR X (compareOp .NotEq) (RO2 (kx X T) rs (boD (notB eqD))) := OpR.imp (OpR.or op_ne (op_neD hu)) fun x y H Q h => by
  obtain ⟨ι, F, M, d, e, k, r, h1, h2, g, q⟩ := h.bo
  obtain ⟨k', g1, g2⟩ := Option.map_eq_some_iff.mp g
  rcases eqD_at r h1 h2 g1 with ⟨a1, a2⟩ | ⟨p, p', a1, a2, a3, a4, a5⟩
  · exact .inl ⟨a1, by rw [a2, g2]; exact q⟩
  · exact .inr ⟨p, p', a1, a2, a3, a4, by rw [a5, g2]; exact q⟩
theorem intsOf_rep : ∀ {xs : List D} {ns : List Int} {vs : List V} {ι : List Addr} {F : Hp} {K : KX}, intsOf xs = some ns → RepL K ι F xs vs → vs = ns.map V.int
  | [], ns, vs, _, _, _, e, h => by
    cases e; exact h
  | d :: xs, ns, vs, ι, F, K, e, h => by
    obtain ⟨v, r, rfl, h1, h2⟩ := h
    cases d with
    | int i =>
      obtain ⟨is, e1, rfl⟩ := Option.map_eq_some_iff.mp (show (intsOf xs).map (fun is => i :: is) = some ns from e)
      cases h1
      rw [intsOf_rep e1 h2] <;> rfl
    | _ => cases e
theorem o_lt (hu : X.A.units < cLine) : OpR X (compareOp .Lt) (RO2 (kx X T) rs (boD ltB)) := OpR.imp (OpR.or op_lt (OpR.or op_lt_str (op_ltT hu))) fun x y H Q h => by
  obtain ⟨ι, F, M, d, e, k, r, h1, h2, g, q⟩ := h.bo
  unfold ltB at g
  split at g
  · cases g; exact .inl ⟨_, _, h1, h2, q⟩
  · cases g; exact .inr (.inl ⟨_, _, h1, h2, q⟩)
  · obtain ⟨ns, e1, g⟩ := Option.bind_eq_some_iff.mp g
    obtain ⟨ms, e2, rfl⟩ := Option.map_eq_some_iff.mp g
    obtain ⟨a, vs, rfl, s1, l1⟩ := h1
    obtain ⟨b, ws, rfl, s2, l2⟩ := h2
    have z1 := intsOf_rep e1 l1
    have z2 := intsOf_rep e2 l2
    subst z1 z2
    exact .inr (.inr ⟨a, b, ns, ms, rfl, rfl, sqt_sub r s1, sqt_sub r s2, q⟩)
  · cases g
theorem o_le : OpR X (compareOp .LtE) (RO2 (kx X T) rs (boD leB)) := OpR.imp (OpR.or op_le op_le_str) fun x y H Q h => by
  obtain ⟨ι, F, M, d, e, k, r, h1, h2, g, q⟩ := h.bo
  unfold leB at g
  split at g
  · cases g; exact .inl ⟨_, _, h1, h2, q⟩
  · cases g; exact .inr ⟨_, _, h1, h2, q⟩
  · cases g
theorem o_gt : OpR X (compareOp .Gt) (RO2 (kx X T) rs (boD gtB)) := OpR.imp (OpR.or op_gt op_gt_str) fun x y H Q h => by
  obtain ⟨ι, F, M, d, e, k, r, h1, h2, g, q⟩ := h.bo
  unfold gtB at g
  split at g
  · cases g; exact .inl ⟨_, _, h1, h2, q⟩
  · cases g; exact .inr ⟨_, _, h1, h2, q⟩
  · cases g
theorem o_ge : OpR X (compareOp .GtE) (RO2 (kx X T) rs (boD geB)) := OpR.imp (OpR.or op_ge op_ge_str) fun x y H Q h => by
  obtain ⟨ι, F, M, d, e, k, r, h1, h2, g, q⟩ := h.bo
  unfold geB at g
  split at g
  · cases g; exact .inl ⟨_, _, h1, h2, q⟩
  · cases g; exact .inr ⟨_, _, h1, h2, q⟩
  · cases g
theorem isnon_at {d : D} {v : V} {ι : List Addr} {F : Hp} {K : KX} (h : Rep K ι F d v) : decide (v = .non) = isNon d := by
  cases d with
  | non => cases h; rfl
  | bl b => cases h; rfl
  | int b => cases h; rfl
  | str b => cases h; rfl
  | ty b => cases h; rfl
  | lst xs => obtain ⟨a, vs, rfl, _⟩ := h; rfl
  | tup xs => obtain ⟨a, vs, rfl, _⟩ := h; rfl
  | dic xs ys => obtain ⟨a, vs, rfl, _⟩ := h; rfl
  | ref i => obtain ⟨a, rfl, _⟩ := h; rfl
  | glb a => cases h; rfl
theorem o_is : OpR X (compareOp .Is) (RO2 (kx X T) rs (boD isB)) := OpR.imp (OpR.or op_isN op_isBl) fun x y H Q h => by
  obtain ⟨ι, F, M, d, e, k, r, h1, h2, g, q⟩ := h.bo
  unfold isB at g
  split at g
  · cases g
    refine .inl ⟨h2, ?_⟩
    rw [isnon_at h1]; exact q
  · split at g
    · rename_i b _ a
      cases g
      exact .inr ⟨a, b, h1, h2, by rw [show decide (a = b) = (a == b) from by cases a <;> cases b <;> rfl]; exact q⟩
    · cases g
  · cases g
theorem o_isnot : OpR X (compareOp .IsNot) (RO2 (kx X T) rs (boD (notB isB))) := OpR.imp (OpR.or op_notN op_notBl) fun x y H Q h => by
  obtain ⟨ι, F, M, d, e, k, r, h1, h2, g, q⟩ := h.bo
  obtain ⟨k', g1, rfl⟩ := Option.map_eq_some_iff.mp g
  clear g
  unfold isB at g1
  split at g1
  · cases g1
    refine .inl ⟨h2, ?_⟩
    rw [isnon_at h1]; exact q
  · split at g1
    · rename_i b _ a
      cases g1
      exact .inr ⟨a, b, h1, h2, by rw [show decide (a = b) = (a == b) from by cases a <;> cases b <;> rfl]; exact q⟩
    · cases g1
  · cases g1
def rDIn (neg : Bool) : R2 := fun y x H Q => ∃ a o, x = .ref a ∧ DGet H a y o ∧ Q (.bl (if neg then !o.isSome else o.isSome)) H
theorem op_din (hu : X.A.units + 1 < cLine) : OpR X (compareOp .In) (rDIn false) := by
  intro pins s σ H y x v u Q I ry rx h
  obtain ⟨a, o, rfl, g, q⟩ := h
  cases rx
  exact d_in hu I g ry fun s3 I3 => ⟨.bl o.isSome, H, I3, rfl, q⟩
theorem op_dnin (hu : X.A.units + 1 < cLine) : OpR X (compareOp .NotIn) (rDIn true) := by
  intro pins s σ H y x v u Q I ry rx h
  obtain ⟨a, o, rfl, g, q⟩ := h
  cases rx
  exact d_notIn hu I g ry fun s3 I3 => ⟨.bl (!o.isSome), H, I3, rfl, q⟩
theorem keyOf_rep {d : D} {k : Key} {v : V} {ι : List Addr} {F : Hp} {K : KX} (e : keyOf d = some k) (h : Rep K ι F d v) : v = kV k := by
  cases d <;> first | (cases e; cases h; rfl) | cases e
/-- what «in» comes to, by cases -/
theorem inD_at {M : Mem} {d e : D} {k : Bool} {x y : V} {ι : List Addr} {F H : Hp} {K : KX} (r : Rel K ι F rs H M) (h1 : Rep K ι F d x) (h2 : Rep K ι F e y) (g : inD M d e = some k) :
    (∃ a o, y = .ref a ∧ DGet H a x o ∧ o.isSome = k) ∨ (∃ a b, x = .str a ∧ y = .str b ∧ (!(Builtin.Str.occurrences b a 0 b.length 1).isEmpty) = k) ∨
    (∃ p xs, y = .ref p ∧ (SqL K.fr H p xs ∨ SqT K.fr H p xs) ∧ flatV x = true ∧ xs.all flatV = true ∧ inV x xs = k) ∨
    ∃ d ds, Dp K.fr H x d ∧ Dp K.fr H y (.list ds) ∧ SeqAt.shaped d = true ∧ SeqAt.shaped (.list ds) = true ∧ (ds.any fun z => PyData.eqv z d) = k := by
  unfold inD at g
  split at g
  · rename_i kvs ek
    obtain ⟨q, e1, rfl⟩ := Option.map_eq_some_iff.mp g
    obtain ⟨a, vs, rfl, hr, m1, m2⟩ := dcOf_at r ek h2
    have hv := valV_rep (k := q) m1 m2
    refine .inl ⟨a, valV vs q, rfl, .inl ⟨vs, q, hr, keyOf_rep e1 h1, rfl⟩, ?_⟩
    split at hv
    · rename_i d' e2
      obtain ⟨u, e3, _⟩ := hv
      rw [e2, e3] <;> rfl
    · rename_i e2
      rw [e2, hv] <;> rfl
  · split at g
    · split at g
      · cases g
        exact .inr (.inl ⟨_, _, h1, h2, rfl⟩)
      · cases g
    · split at g
      · rename_i hf
        rw [Bool.and_eq_true] at hf
        cases g
        obtain ⟨a, vs, rfl, s1, l1⟩ := h2
        obtain ⟨b1, b2⟩ := rep_flats hf.2 l1
        exact .inr (.inr (.inl ⟨a, vs, rfl, .inr (sqt_sub r s1), (rep_flat hf.1 h1).1, b1, b2 hf.1 h1⟩))
      · cases g
    · split at g
      · rename_i xs e1
        obtain ⟨a, vs, rfl, s1, l1⟩ := lsOf_at r e1 h2
        split at g
        · rename_i hf
          rw [Bool.and_eq_true] at hf
          cases g
          obtain ⟨b1, b2⟩ := rep_flats hf.2 l1
          exact .inr (.inr (.inl ⟨a, vs, rfl, .inl s1, (rep_flat hf.1 h1).1, b1, b2 hf.1 h1⟩))
        · obtain ⟨p, p1, g⟩ := Option.bind_eq_some_iff.mp g
          obtain ⟨ps, p2, g⟩ := Option.bind_eq_some_iff.mp g
          split at g
          · rename_i hs
            rw [Bool.and_eq_true] at hs
            cases g
            exact .inr (.inr (.inr ⟨p, ps, pyOf_dp r p1 h1, .lst s1 (pyL_dp r _ _ _ p2 l1), hs.1, hs.2, rfl⟩))
          · cases g
      · cases g
theorem o_in (hu : X.A.units + 65 < cLine) : OpR X (compareOp .In) (RO2 (kx X T) rs (boD inD)) := OpR.imp (OpR.or (op_din (by omega)) (OpR.or op_in_str (OpR.or op_in_seq (op_inD hu)))) fun x y H Q h => by
  obtain ⟨ι, F, M, d, e, k, r, h1, h2, g, q⟩ := h.bo
  rcases inD_at r h1 h2 g with ⟨a, o, e1, e2, e3⟩ | ⟨a, b, e1, e2, e3⟩ | ⟨p, xs, e1, e2, e3, e4, e5⟩ | ⟨p, ds, e1, e2, e3, e4, e5⟩
  · exact .inl ⟨a, o, e1, e2, by rw [← e3] at q; exact q⟩
  · exact .inr (.inl ⟨a, b, e1, e2, by rw [e3]; exact q⟩)
  · exact .inr (.inr (.inl ⟨p, xs, e1, e2, e3, e4, by rw [← e5] at q; exact q⟩))
  · exact .inr (.inr (.inr ⟨p, ds, e1, e2, e3, e4, by rw [e5]; exact q⟩))
theorem o_notin (hu : X.A.units + 65 < cLine) : OpR X (compareOp .NotIn) (RO2 (kx X T) rs (boD (notB inD))) := OpR.imp (OpR.or (op_dnin (by omega)) (OpR.or op_notin_str (OpR.or op_notIn_seq (op_notInD hu)))) fun x y H Q h => by
  obtain ⟨ι, F, M, d, e, k, r, h1, h2, g, q⟩ := h.bo
  obtain ⟨k', g1, rfl⟩ := Option.map_eq_some_iff.mp g
  rcases inD_at r h1 h2 g1 with ⟨a, o, e1, e2, e3⟩ | ⟨a, b, e1, e2, e3⟩ | ⟨p, xs, e1, e2, e3, e4, e5⟩ | ⟨p, ds, e1, e2, e3, e4, e5⟩
  · exact .inl ⟨a, o, e1, e2, by rw [← e3] at q; exact q⟩
  · exact .inr (.inl ⟨a, b, e1, e2, by rw [e3]; exact q⟩)
  · exact .inr (.inr (.inl ⟨p, xs, e1, e2, e3, e4, by rw [← e5] at q; exact q⟩))
  · exact .inr (.inr (.inr ⟨p, ds, e1, e2, e3, e4, by rw [e5]; exact q⟩))
theorem ixN_of {n m : Nat} {i : Int} (e : n = m) : ixN n i = ixN m i := by rw [e]
theorem atI_rep {ds : List D} {vs : List V} {i : Int} {d : D} {ι : List Addr} {F : Hp} {K : KX} (h : RepL K ι F ds vs) (e : atI ds i = some d) : ∃ v, atI vs i = some v ∧ Rep K ι F d v := by
  unfold atI at e ⊢
  rw [h.length]
  obtain ⟨j, e1, e2⟩ := Option.bind_eq_some_iff.mp e
  rw [e1]
  exact h.get e2
theorem ix_dict (hu : X.A.units + 1 < cLine) : IxR X (fun x y H Q => ∃ a v, x = .ref a ∧ DGet H a y (some v) ∧ Q v H) := by
  intro value slice pins s σ H x y v u Q I rx ry h hs
  obtain ⟨a, z, rfl, g, q⟩ := h
  cases rx
  exact tail_any (dict_typeIs I g) PySem.F.slot_dict_getitem.lookup (d_getItem hu I g ry fun w' s3 I3 rw' => ⟨z, H, I3, rw', q⟩) hs
theorem i_ix (hu : X.A.units + 1 < cLine) : IxR X (RO2 (kx X T) rs ixD) := IxR.imp (IxR.or ix_list (IxR.or ix_tup (IxR.or ix_str (ix_dict hu)))) fun x y H Q h => by
  obtain ⟨ι, F, M, d, e, z, M', r, h1, h2, g, q⟩ := h
  unfold ixD at g
  split at g
  · split at g
    · split at g
      · rename_i hz
        obtain ⟨c, g1, g2⟩ := Option.map_eq_some_iff.mp g
        cases g2
        exact .inr (.inr (.inl ⟨_, _, c, h1, h2, by rw [← line_eq]; exact hz, g1, q ι F H _ Le.refl r rfl⟩))
      · cases g
    · cases g
  · split at g
    · obtain ⟨c, g1, g2⟩ := Option.map_eq_some_iff.mp g
      cases g2
      obtain ⟨a, vs, rfl, s1, l1⟩ := h1
      obtain ⟨v, a1, a2⟩ := atI_rep l1 g1
      exact .inr (.inl ⟨a, vs, _, v, rfl, h2, sqt_sub r s1, a1, q ι F H _ Le.refl r a2⟩)
    · cases g
  · split at g
    · rename_i kvs ek
      obtain ⟨k, e1, g⟩ := Option.bind_eq_some_iff.mp g
      obtain ⟨c, g1, g2⟩ := Option.map_eq_some_iff.mp g
      cases g2
      obtain ⟨a, vs, rfl, hr, m1, m2⟩ := dcOf_at r ek h1
      have hv := valV_rep (k := k) m1 m2
      rw [g1] at hv
      obtain ⟨u, e3, e4⟩ := hv
      exact .inr (.inr (.inr ⟨a, u, rfl, .inl ⟨vs, k, hr, keyOf_rep e1 h2, e3.symm⟩, q ι F H _ Le.refl r e4⟩))
    · split at g
      · rename_i xs e1
        split at g
        · obtain ⟨c, g1, g2⟩ := Option.map_eq_some_iff.mp g
          cases g2
          obtain ⟨a, vs, rfl, s1, l1⟩ := lsOf_at r e1 h1
          obtain ⟨v, a1, a2⟩ := atI_rep l1 g1
          exact .inl ⟨a, vs, _, v, rfl, h2, s1, a1, q ι F H _ Le.refl r a2⟩
        · cases g
      · cases g
end
end LD
namespace LD
open PySem PySem.Spec PyProof.Rows L2

/-! ### facts of the syntax, decided by computation -/
def isSup : Expr → Bool
  | .Call (.Name _ _) [] [] _ => true
  | _ => false
def isStar : Expr → Bool
  | .Starred _ _ => true
  | _ => false
theorem noSup {o : Expr} {m : Str} {env : Env} {t : Sem Value} (h : isSup o = false) : attributeBase o m env t = t := by
  unfold attributeBase
  split
  · cases h
  · rfl
theorem star_cons {e : Expr} {es : List Expr} {env : Env} (h : isStar e = false) : starEach (e :: es) env = (false, eval e env) :: starEach es env := by
  cases e <;> first | (simp only [starEach]; done) | cases h
theorem star_any {pos : Pos} {env : Env} : ∀ {es : List Expr}, es.any isStar = false → (backTo pos (starEach es env)).any (·.1) = false
  | [], _ => by simp only [starEach, backTo, List.map_nil, List.any_nil]
  | e :: es, h => by
    rw [List.any_cons, Bool.or_eq_false_iff] at h
    rw [star_cons h.1]
    have ih := star_any (pos := pos) (env := env) h.2
    unfold backTo at ih ⊢
    rw [List.map_cons, List.any_cons, ih] <;> rfl
theorem star_all {pos : Pos} {env : Env} : ∀ {es : List Expr}, es.any isStar = false → (backTo pos (starEach es env)).all (fun x => !x.1) = true
  | [], _ => by simp only [starEach, backTo, List.map_nil, List.all_nil]
  | e :: es, h => by
    rw [List.any_cons, Bool.or_eq_false_iff] at h
    rw [star_cons h.1]
    have ih := star_all (pos := pos) (env := env) h.2
    unfold backTo at ih ⊢
    rw [List.map_cons, List.all_cons, ih] <;> rfl
def kwN (k : Keyword) : Option Str := k.arg
theorem kw_map {pos : Pos} {env : Env} : ∀ {kws : List Keyword}, (backToKw pos (keywordEach kws env)).map (·.1) = kws.map kwN
  | [] => by simp only [keywordEach, backToKw, List.map_nil]
  | ⟨n, v, p⟩ :: kws => by
    have ih := kw_map (pos := pos) (env := env) (kws := kws)
    unfold backToKw at ih ⊢
    simp only [keywordEach, List.map_cons]
    rw [ih] <;> rfl
theorem kw_len {pos : Pos} {env : Env} {kws : List Keyword} : (backToKw pos (keywordEach kws env)).length = kws.length := by
  have h := congrArg List.length (kw_map (pos := pos) (env := env) (kws := kws))
  rw [List.length_map, List.length_map] at h
  exact h
theorem kw_all {pos : Pos} {env : Env} {kws : List Keyword} (h : kws.all (fun k => (kwN k).isSome) = true) : (backToKw pos (keywordEach kws env)).all (·.1.isSome) = true := by
  have e : (backToKw pos (keywordEach kws env)).all (·.1.isSome) = ((backToKw pos (keywordEach kws env)).map (·.1)).all (·.isSome) := by rw [List.all_map]; rfl
  rw [e, kw_map, List.all_map]
  exact h
theorem kw_none {pos : Pos} {env : Env} {kws : List Keyword} (h : kws.all (fun k => (kwN k).isSome) = true) : (backToKw pos (keywordEach kws env)).any (·.1.isNone) = false := by
  have e := kw_all (pos := pos) (env := env) h
  rw [List.all_eq_true] at e
  rw [List.any_eq_false]
  intro x hx
  have q := e x hx
  cases hq : x.1 with
  | none => rw [hq] at q; cases q
  | some n => simp [hq]
theorem kw_names {pos : Pos} {env : Env} {kws : List Keyword} : (backToKw pos (keywordEach kws env)).filterMap (·.1) = kws.filterMap kwN := by
  have e : (backToKw pos (keywordEach kws env)).filterMap (·.1) = ((backToKw pos (keywordEach kws env)).map (·.1)).filterMap id := by rw [List.filterMap_map]; rfl
  rw [e, kw_map, List.filterMap_map]
  rfl
theorem star_len {pos : Pos} {env : Env} : ∀ {es : List Expr}, es.any isStar = false → (starEach es env).length = es.length
  | [], _ => by simp only [starEach, List.length_nil]
  | e :: es, h => by
    rw [List.any_cons, Bool.or_eq_false_iff] at h
    rw [star_cons h.1, List.length_cons, List.length_cons, star_len (pos := pos) (env := env) h.2]
/-- o.m(..) as it is evaluated -/
theorem meth_eval {o : Expr} {m : Str} {apos pos : Pos} {es : List Expr} {kws : List Keyword} {env : Env} (h1 : isSup o = false) (h2 : es.any isStar = false) (h3 : kws.all (fun k => (kwN k).isSome) = true) (h4 : decide (es.length + kws.length < 29) = true)
    (h5 : (apos.endLine == pos.line) = true) : eval (.Call (.Attribute o m apos) es kws pos) env = (do
      let ov ← eval o env
      standAt apos.atName
      let (f, first) ← holding [ov] (getMethod ov m (do return (← importBound o env).getD true))
      callWith pos f first (backTo pos (starEach es env)) (backToKw pos (keywordEach kws env))) := by
  rw [arm_eval_Call, noSup h1]
  have few : methodCallForm (es.length + kws.length) (backTo pos (starEach es env)) (backToKw pos (keywordEach kws env)) = true := by
    unfold methodCallForm
    rw [star_all h2, kw_all h3]
    have := of_decide_eq_true h4
    simp only [Bool.true_and]
    apply decide_eq_true
    split <;> omega
  unfold methodCall calleeOf methodCallPos
  rw [few]
  simp only [h5, Bool.not_true, Bool.false_or, if_true, pure_bind]

/-! ### calls of the text's own defs -/
/-- what a def is worth: its arguments (the positional ones, then the written keywords'), the memory -/
abbrev FnD := List D → Mem → R D
def spD (K : KX) (rs : List (Addr × HO)) (φ : FnD) : Sp := fun vs H Q E => ∃ ι F ds M, Rel K ι F rs H M ∧ RepL K ι F ds vs ∧ Post K rs (repD K) ι F (fun c d => E c d) Q (φ ds M)
/-- the def at f may be called with n positional values and the keywords ks -/
structure Callee (P : Program) (w : World) (K : PySem.W.Frag) (mg : Str → Option Value) (base : Heap) (T : Tab) (k : Nat) (f : Addr) (n : Nat) (ks : List Str) (φ : FnD) : Prop where
  run : ∀ (rs : List (Addr × HO)) (A : Around) (outer : List Env) (s : Shared) (H : Hp) (us ws : List Value) (vs zs : List V) (Q : VK) (E : XK), Room k A → Env0 P w K mg base A outer s H → us.length = n → ws.length = ks.length → Vals vs us → Vals zs ws →
    spD ⟨K, T⟩ rs φ (vs ++ zs) H Q E → codeAny (model P w) A (.call (.ref f) ⟨us, ks.zip ws⟩) (CR (L2.CX P w) outer P w H s Q E) s
section
variable {X : Cx} {T : Tab} {W : WX} {n k : Nat} {ks : List Str} {φ : FnD} {f : Addr} {rs : List (Addr × HO)}
theorem run_callee {pins : List (Addr × Obj)} {σ : L2.St} {H : Hp} {s : Shared} {Q : VK} {us ws : List Value} {vs zs : List V} (c : Callee X.prog X.w X.K X.mg X.base T k f n ks φ) (hr : Room k X.A) (tk : Takes X W) (I : Inv X pins σ H s) (h1 : us.length = n) (h2 : ws.length = ks.length)
    (r1 : Vals vs us) (r2 : Vals zs ws) (h : spD (kx X T) rs φ (vs ++ zs) H Q (fun c d H => W c d σ H)) : wpAny (model X.prog X.w) X.A (call (.ref f) us (ks.zip ws)) (EP X pins σ Q) X.xe s := by
  refine wpAny_call (codeAny_mono (c.run rs X.A X.stack s H us ws vs zs Q _ hr I.env0 h1 h2 r1 r2 h) fun r s' hq => ?_)
  cases r with
  | error e => exact passAt tk σ pins H s e s' I hq
  | ok fl =>
    cases fl with
    | ret u => exact I.after hq
    | next => exact False.elim hq
    | brk => exact False.elim hq
    | cont => exact False.elim hq
end
structure KK (X : Cx) (T : Tab) (W : WX) (kws : List Keyword) (φ : Sem1 (List D)) : Prop where
  pk : ∀ rs, PK X kws (LA (kx X T) rs W φ)
  al : AL φ kws.length
def eCall (φ : FnD) (α κ : Sem1 (List D)) : Sem1 D := fun s M => (α s M).bind fun ds M1 => (κ s M1).bind fun zs M2 => φ (ds ++ zs) M2
theorem vals_of_repL {X : Cx} {T : Tab} {ι : List Addr} {F : Hp} {ds : List D} {vs : List V} {us : List Value} (r : RepL (kx X T) ι F ds vs) (h : Vals vs us) : us.length = ds.length := by
  rw [← h.length]; exact r.length
section
variable {X : Cx} {T : Tab} {W : WX} {n k : Nat} {ks : List Str} {φ : FnD} {f : Addr} {rs : List (Addr × HO)} {o : Expr} {es : List Expr} {kws : List Keyword} {α κ : Sem1 (List D)} {ψ : Sem1 D} {x m : Str} {p pos apos kpos : Pos}
theorem k_nil : KK X T W [] aNil := ⟨fun rs => ⟨fun pos pins s σ H Q I h => pk_nil.run pos pins s σ H Q I (by
  obtain ⟨ι, F, s, M, r, rS, p⟩ := h
  exact p.fin r rfl)⟩, al_nil⟩
theorem k_cons {nm : Option Str} {e : Expr} (ha : KE X T W e ψ) (hr : KK X T W kws κ) : KK X T W (⟨nm, e, kpos⟩ :: kws) (aCons ψ κ) := ⟨fun rs => ⟨fun pos pins s σ H Q I h => (pk_cons (ha rs) (hr.pk rs)).run pos pins s σ H Q I (by
  obtain ⟨ι, F, s, M, r, rS, p⟩ := h
  refine ⟨ι, F, s, M, r, rS, p.step fun v H1 ι1 F1 M1 x l1 r1 rv p1 => ?_⟩
  refine ⟨ι1, F1, s, M1, r1, rS.le l1, p1.step fun ws H2 ι2 F2 M2 xs l2 r2 rw2 p2 => ?_⟩
  exact p2.fin r2 ⟨v, ws, rfl, l2 _ _ rv, rw2⟩)⟩, al_cons hr.al⟩
/-- the arguments are evaluated, then g is called -/
theorem callArgs {e : Expr} {g : Value} {first : List Value} {pins : List (Addr × Obj)} {σ : L2.St} {H : Hp} {s : Shared} {Qv : Value → Shared → Prop} (hk : PySem.W.keepIn X.K g = true) (I : Inv X pins σ H s)
    (h2 : (e :: es).any isStar = false) (h3 : kws.all (fun k => (kwN k).isSome) = true) (ha : KA X T W (e :: es) α) (hkw : KK X T W kws κ) {Q2 : List V → List V → Hp → Prop}
    (h : LA (kx X T) rs W α σ H fun vs H1 => LA (kx X T) rs W κ σ H1 fun zs H2 => Q2 vs zs H2)
    (go : ∀ us ws vs zs H2 s2, Inv X pins σ H2 s2 → Vals vs us → Vals zs ws → Q2 vs zs H2 → wpAny (model X.prog X.w) X.A (call g (first ++ us) ((kws.filterMap kwN).zip ws)) Qv X.xe s2) :
    wpAny (model X.prog X.w) X.A (callWith pos g first (backTo pos (starEach (e :: es) X.env)) (backToKw pos (keywordEach kws X.env))) Qv X.xe s := by
  have h2' := h2
  rw [List.any_cons, Bool.or_eq_false_iff] at h2'
  refine PySem.W.callWith_KW (h₀ := X.base) I.ok.mod.kin hk (kw_all h3) (thn ((ha.pa rs).run pos pins s σ H _ I h) fun us s1 ⟨vs, H1, I1, r, q⟩ => ?_) (by rw [star_any h2, kw_none h3] <;> rfl) (star_cons h2'.1)
  refine thn ((hkw.pk rs).run pos pins s1 σ H1 _ I1 q) fun ws s2 ⟨zs, H2, I2, rz, q2⟩ => ⟨I2.kIn, ?_⟩
  rw [kw_names]
  exact go us ws vs zs H2 s2 I2 r rz q2
theorem callArgs0 {g : Value} {first : List Value} {pins : List (Addr × Obj)} {σ : L2.St} {H : Hp} {s : Shared} {Qv : Value → Shared → Prop} (hk : PySem.W.keepIn X.K g = true) (I : Inv X pins σ H s)
    (h3 : kws.all (fun k => (kwN k).isSome) = true) (hkw : KK X T W kws κ) {Q2 : List V → Hp → Prop}
    (h : LA (kx X T) rs W κ σ H fun zs H2 => Q2 zs H2)
    (go : ∀ ws zs H2 s2, Inv X pins σ H2 s2 → Vals zs ws → Q2 zs H2 → wpAny (model X.prog X.w) X.A (call g (first ++ []) ((kws.filterMap kwN).zip ws)) Qv X.xe s2) :
    wpAny (model X.prog X.w) X.A (callWith pos g first (backTo pos (starEach [] X.env)) (backToKw pos (keywordEach kws X.env))) Qv X.xe s := by
  refine PySem.W.callWith_KW0 (h₀ := X.base) I.ok.mod.kin hk (kw_all h3) ?_ (by rw [star_any rfl, kw_none h3] <;> rfl)
  refine thn ((hkw.pk rs).run pos pins s σ H _ I h) fun ws s2 ⟨zs, H2, I2, rz, q2⟩ => ⟨I2.kIn, ?_⟩
  rw [kw_names]
  exact go ws zs H2 s2 I2 rz q2
/-- both, at the level of plain values: f is g of a value known -/
theorem call_both {g : Value} {first : List Value} {fv : List V} {fd : List D} {pins : List (Addr × Obj)} {σ : L2.St} {H : Hp} {s : Shared} {Q : VK} {ds : DS} {M : Mem} {ι : List Addr} {F : Hp} (hk : PySem.W.keepIn X.K g = true) (I : Inv X pins σ H s)
    (hα : es = [] → α = aNil) (h2 : es.any isStar = false) (h3 : kws.all (fun k => (kwN k).isSome) = true) (ha : KA X T W es α) (hkw : KK X T W kws κ)
    (r : Rel (kx X T) ι F rs H M) (rS : RepS (kx X T) ι F ds σ) (rf : RepL (kx X T) ι F fd fv) (p : Post (kx X T) rs (repD (kx X T)) ι F (fun c d => W c d σ) Q ((α ds M).bind fun xs M1 => (κ ds M1).bind fun zs M2 => φ (fd ++ xs ++ zs) M2))
    (go : ∀ us ws vs zs H2 s2, Inv X pins σ H2 s2 → Vals vs us → Vals zs ws → us.length = es.length → ws.length = kws.length → spD (kx X T) rs φ (fv ++ vs ++ zs) H2 Q (fun c d H => W c d σ H) → wpAny (model X.prog X.w) X.A (call g (first ++ us) ((kws.filterMap kwN).zip ws)) (EP X pins σ Q) X.xe s2) :
    wpAny (model X.prog X.w) X.A (callWith pos g first (backTo pos (starEach es X.env)) (backToKw pos (keywordEach kws X.env))) (EP X pins σ Q) X.xe s := by
  have fin : ∀ {vs zs : List V} {H2 : Hp} {ι2 F2 M2 xs ys}, Le (kx X T) ι F ι2 F2 → Rel (kx X T) ι2 F2 rs H2 M2 → RepL (kx X T) ι2 F2 xs vs → RepL (kx X T) ι2 F2 ys zs → Post (kx X T) rs (repD (kx X T)) ι2 F2 (fun c d => W c d σ) Q (φ (fd ++ xs ++ ys) M2) → spD (kx X T) rs φ (fv ++ vs ++ zs) H2 Q (fun c d H => W c d σ H) :=
    fun l r2 a b q => ⟨_, _, _, _, r2, ((RepL.le l rf).append a).append b, q⟩
  cases es with
  | nil =>
    rw [hα rfl] at p
    refine callArgs0 (Q2 := fun zs H2 => zs.length = kws.length ∧ spD (kx X T) rs φ (fv ++ [] ++ zs) H2 Q (fun c d H => W c d σ H)) hk I h3 hkw ⟨ι, F, ds, M, r, rS, ?_⟩ fun ws zs H2 s2 I2 rz q => go [] ws [] zs H2 s2 I2 .nil rz rfl (by rw [← rz.length]; exact q.1) q.2
    refine Post.stepE (f := fun zs M2 => φ (fd ++ [] ++ zs) M2) p fun zs H2 ι2 F2 M2 ys e2 l2 r2 rz p2 => ⟨by rw [RepL.length rz]; exact hkw.al _ _ _ _ e2, fin (xs := []) l2 r2 rfl rz p2⟩
  | cons e es =>
    refine callArgs (Q2 := fun vs zs H2 => vs.length = (e :: es).length ∧ zs.length = kws.length ∧ spD (kx X T) rs φ (fv ++ vs ++ zs) H2 Q (fun c d H => W c d σ H)) hk I h2 h3 ha hkw ⟨ι, F, ds, M, r, rS, ?_⟩
      fun us ws vs zs H2 s2 I2 ru rz q => go us ws vs zs H2 s2 I2 ru rz (by rw [← ru.length]; exact q.1) (by rw [← rz.length]; exact q.2.1) q.2.2
    refine p.stepE fun vs H1 ι1 F1 M1 xs e1 l1 r1 rv p1 => ⟨ι1, F1, ds, M1, r1, rS.le l1, p1.stepE fun zs H2 ι2 F2 M2 ys e2 l2 r2 rz p2 => ⟨by rw [RepL.length rv]; exact ha.al _ _ _ _ e1, by rw [RepL.length rz]; exact hkw.al _ _ _ _ e2, ?_⟩⟩
    exact fin (l1.trans l2) r2 (RepL.le l2 rv) rz p2
end
end LD
namespace LD
open PySem PySem.Spec PyProof.Rows L2

section
variable {X : Cx} {T : Tab} {W : WX} {k : Nat} {φ : FnD} {f C : Addr} {o a b : Expr} {es : List Expr} {kws : List Keyword} {α κ : Sem1 (List D)} {ψ χ : Sem1 D} {x m : Str} {p pos apos kpos : Pos}
theorem kw_count (h3 : kws.all (fun k => (kwN k).isSome) = true) : (kws.filterMap kwN).length = kws.length := by
  induction kws with
  | nil => rfl
  | cons k ks ih =>
    rw [List.all_cons, Bool.and_eq_true] at h3
    obtain ⟨n, hn⟩ := Option.isSome_iff_exists.mp h3.1
    rw [List.filterMap_cons, hn]
    show _ + 1 = _ + 1
    rw [ih h3.2]
theorem d_call (c : Callee X.prog X.w X.K X.mg X.base T k f es.length (kws.filterMap kwN) φ) (hr : Room k X.A) (tk : Takes X W) (hg : Gl X x) (hm : X.mg x = some (.ref f)) (hk : PySem.W.keepIn X.K (.ref f) = true) (hdb : (x == ("__debug__" : Str)) = false)
    (hα : es = [] → α = aNil) (h2 : es.any isStar = false) (h3 : kws.all (fun k => (kwN k).isSome) = true) (ha : KA X T W es α) (hkw : KK X T W kws κ) : KE X T W (.Call (.Name x p) es kws pos) (eCall φ α κ) := by
  refine fun rs => ⟨fun pins s σ H Q I h => ?_⟩
  obtain ⟨ι, F, st, M, r, rS, q⟩ := h
  refine wpAny_Call_Name_kw (ld_glob I hg hm (call_both (first := []) (fv := []) (fd := []) hk I hα h2 h3 ha hkw r rS rfl q fun us ws vs zs H2 s2 I2 ru rz l1 l2 q2 => ?_) hdb)
  exact run_callee c hr tk I2 l1 (l2.trans (kw_count h3).symm) ru rz q2
/-- a new instance: the memory's next place, then __init__ -/
def mkF (c n : Nat) (φ : FnD) : FnD := fun xs M => (φ (.ref M.length :: xs) (M ++ [.ins c (List.replicate n none)])).bind fun v M' => match v with
  | .non => .ok (.ref M.length) M'
  | _ => .bad
theorem run_mk {rs : List (Addr × HO)} {c n nn : Nat} {ks : List Str} {ly : List Str} {pins : List (Addr × Obj)} {σ : L2.St} {H : Hp} {s : Shared} {Q : VK} {us ws : List Value} {vs zs : List V} (hc : T.ct[c]? = some (C, ly)) (hn : n = ly.length) (M : Mk X.K C f)
    (cl : Callee X.prog X.w X.K X.mg X.base T k f (nn + 1) ks φ) (hr : Room (k + 1) X.A) (tk : Takes X W) (I : Inv X pins σ H s) (h1 : us.length = nn) (h2 : ws.length = ks.length)
    (r1 : Vals vs us) (r2 : Vals zs ws) (h : spD (kx X T) rs (mkF c n φ) (vs ++ zs) H Q (fun c d H => W c d σ H)) : wpAny (model X.prog X.w) X.A (call (.ref C) us (ks.zip ws)) (EP X pins σ Q) X.xe s := by
  obtain ⟨ι, F, ds, Me, r, rd, p⟩ := h
  have nx : H (s.heap.objs.size + 1) = none := I.hok.fresh (Nat.le_succ _)
  have nd : H s.heap.objs.size = none := I.hok.fresh (Nat.le_refl _)
  have ne : s.heap.objs.size + 1 ≠ s.heap.objs.size := Nat.ne_of_gt (Nat.lt_succ_self _)
  have I2 := Inv.made (C := C) I
  have ra := r.frozen (p := s.heap.objs.size) (o := .own (s.heap.objs.size + 1)) nd
  have nx1 : (upd H s.heap.objs.size (.own (s.heap.objs.size + 1))) (s.heap.objs.size + 1) = none := by rw [upd_ne ne]; exact nx
  have rb := ra.fresh (p := s.heap.objs.size + 1) (o := .ins C s.heap.objs.size []) (u := .ins c (List.replicate n none)) nx1 rfl ⟨C, ly, _, [], hc, upd_same, List.Pairwise.nil, fun f hf => (by cases hf), (by rw [List.length_replicate, hn]), fun j f e1 d e2 => (by
    rw [List.getElem?_replicate] at e2
    split at e2 <;> cases e2)⟩
  have lb : Le (kx X T) ι F (ι ++ [s.heap.objs.size + 1]) (upd F s.heap.objs.size (.own (s.heap.objs.size + 1))) := (Le.new (r.free nd)).trans Le.push
  have sp : spD (kx X T) rs φ (V.ref (s.heap.objs.size + 1) :: vs ++ zs) (upd (upd H s.heap.objs.size (.own (s.heap.objs.size + 1))) (s.heap.objs.size + 1) (.ins C s.heap.objs.size [])) (fun v H2 => v = .non ∧ Q (.ref (s.heap.objs.size + 1)) H2) (fun c d H => W c d σ H) := by
    refine ⟨_, _, .ref Me.length :: ds, _, rb, ⟨_, _, rfl, ⟨_, rfl, by rw [← r.len]; simp⟩, RepL.le lb rd⟩, ?_⟩
    refine Post.step (rep2 := repD (kx X T)) (Q := Q) (Post.le lb p) fun v H' ι' F' M' d l' r' rv p' => ?_
    cases d with
    | non => exact ⟨rv, p'.fin r' (show Rep (kx X T) ι' F' (.ref Me.length) (V.ref (s.heap.objs.size + 1)) from l' (.ref Me.length) _ ⟨_, rfl, by rw [← r.len]; simp⟩)⟩
    | _ => exact p'.elim
  refine wpAny_call (make_map (f := f) I.kIn M.makes M.init (beq_iff_eq.mp M.fn) (codeAny_mono (cl.run rs _ X.stack _ _ (Value.ref (s.heap.objs.size + 1) :: us) ws (V.ref (s.heap.objs.size + 1) :: vs) zs _ (fun c d H => W c d σ H) (hr.make C us (ks.zip ws))
    (I2.env0.make C us (ks.zip ws)) (by rw [List.length_cons, h1]) h2 (.cons rfl r1) r2 sp) fun r s' hq' => ?_))
  cases r with
  | error e => exact passAt tk σ pins _ _ e s' I2 hq'
  | ok fl =>
    cases fl with
    | ret u =>
      obtain ⟨v, H', I3, rv, ev, q3⟩ := I2.after hq'
      subst ev
      exact ⟨rv, ⟨V.ref (s.heap.objs.size + 1), H', I3, rfl, q3⟩⟩
    | next => exact False.elim hq'
    | brk => exact False.elim hq'
    | cont => exact False.elim hq'
theorem d_make {c n : Nat} {ly : List Str} (hc : T.ct[c]? = some (C, ly)) (hn : n = ly.length) (M : Mk X.K C f) (cl : Callee X.prog X.w X.K X.mg X.base T k f (es.length + 1) (kws.filterMap kwN) φ) (hr : Room (k + 1) X.A) (tk : Takes X W) (hg : Gl X x)
    (hm : X.mg x = some (.ref C)) (hdb : (x == ("__debug__" : Str)) = false) (hα : es = [] → α = aNil) (h2 : es.any isStar = false) (h3 : kws.all (fun k => (kwN k).isSome) = true) (ha : KA X T W es α) (hkw : KK X T W kws κ) :
    KE X T W (.Call (.Name x p) es kws pos) (eCall (mkF c n φ) α κ) := by
  refine fun rs => ⟨fun pins s σ H Q I h => ?_⟩
  obtain ⟨ι, F, st, Me, r, rS, q⟩ := h
  refine wpAny_Call_Name_kw (ld_glob I hg hm (call_both (first := []) (fv := []) (fd := []) M.kp I hα h2 h3 ha hkw r rS rfl q fun us ws vs zs H2 s2 I2 ru rz l1 l2 q2 => ?_) hdb)
  exact run_mk hc hn M cl hr tk I2 l1 (l2.trans (kw_count h3).symm) ru rz q2
/-- o.m(..): by the class of o -/
def eMeth (tbl : List (Nat × FnD)) (o : Sem1 D) (α κ : Sem1 (List D)) : Sem1 D := fun s M => (o s M).bind fun x M0 => match x with
  | .ref i => match M0[i]? with
    | some (.ins c _) => match tbl.lookup c with
      | some φ => (α s M0).bind fun ds M1 => (κ s M1).bind fun zs M2 => φ ([.ref i] ++ ds ++ zs) M2
      | none => .bad
    | _ => .bad
  | _ => .bad
theorem lookup_none {β : Type} {f : Str} : ∀ {l : List (Str × β)}, f ∉ l.map (·.1) → l.lookup f = none
  | [], _ => rfl
  | (g, v) :: l, h => by
    rw [List.map_cons, List.mem_cons, not_or] at h
    rw [List.lookup_cons, show (f == g) = false from beq_eq_false_iff_ne.mpr h.1]
    exact lookup_none h.2
theorem d_meth {tbl : List (Nat × FnD)} (ht : ∀ c φ, tbl.lookup c = some φ → ∃ C ly g k, T.ct[c]? = some (C, ly) ∧ m ∉ ly ∧ Cls X.K C ∧ Meth X.K C m g ∧ Callee X.prog X.w X.K X.mg X.base T k g (es.length + 1) (kws.filterMap kwN) φ ∧ Room k X.A) (tk : Takes X W)
    (ho : KE X T W o ψ) (h1 : isSup o = false) (h4 : decide (es.length + kws.length < 29) = true) (h5 : (apos.endLine == pos.line) = true) (hα : es = [] → α = aNil) (h2 : es.any isStar = false) (h3 : kws.all (fun k => (kwN k).isSome) = true) (ha : KA X T W es α) (hkw : KK X T W kws κ) :
    KE X T W (.Call (.Attribute o m apos) es kws pos) (eMeth tbl ψ α κ) := by
  refine fun rs => ⟨fun pins s σ H Q I h => ?_⟩
  refine PySem.W.methodCall_KW (thn ((ho rs).run pins s σ H (fun v H1 => ∃ ι F st M i c fs φ, Rel (kx X T) ι F rs H1 M ∧ RepS (kx X T) ι F st σ ∧ Rep (kx X T) ι F (.ref i) v ∧ M[i]? = some (.ins c fs) ∧ tbl.lookup c = some φ ∧
    Post (kx X T) rs (repD (kx X T)) ι F (fun c d => W c d σ) Q ((α st M).bind fun ds M1 => (κ st M1).bind fun zs M2 => φ ([.ref i] ++ ds ++ zs) M2)) I ?_) fun u s1 ⟨v, H1, I1, rv, q⟩ => ?_) (meth_eval h1 h2 h3 h4 h5)
  · obtain ⟨ι, F, st, M, r, rS, q⟩ := h
    refine ⟨ι, F, st, M, r, rS, q.step fun v H1 ι1 F1 M1 x l1 r1 rv p1 => ?_⟩
    cases x with
    | ref i =>
      simp only at p1
      split at p1
      · rename_i c fs hM
        split at p1
        · rename_i φ hφ
          exact ⟨ι1, F1, st, M1, i, c, fs, φ, r1, rS.le l1, rv, hM, hφ, p1⟩
        · exact p1.elim
      · exact p1.elim
    | _ => exact p1.elim
  · obtain ⟨ι, F, st, M, i, c, fs, φ, r, rS, ri, hM, hφ, p⟩ := q
    obtain ⟨a, rfl, hi⟩ := ri
    obtain rfl : u = Value.ref a := rv
    obtain ⟨C, ly, g, k, hc, hml, cl, me, ce, hr⟩ := ht c φ hφ
    obtain ⟨_, C', ly', dx, vs, hc', hH, _, hly, _, _⟩ := r.obj i _ a hM hi rfl
    have e2 : (C, ly) = (C', ly') := Option.some.inj (hc.symm.trans hc')
    cases e2
    have hl : vs.lookup m = none := lookup_none fun z => hml (hly m z)
    refine getmeth_ok I1 hH cl me hl ?_
    refine call_both (first := [.ref a]) (fv := [.ref a]) (fd := [.ref i]) me.kp I1 hα h2 h3 ha hkw r rS (.one ⟨a, rfl, hi⟩) p fun us ws vs zs H2 s2 I2 ru rz l1 l2 q2 => ?_
    exact run_callee (vs := .ref a :: vs) ce hr tk I2 (us := .ref a :: us) (by rw [List.length_cons, l1]) (l2.trans (kw_count h3).symm) (.cons rfl ru) rz q2
/-- o.f: a property, or a field -/
def eAttr (tp : List (Nat × FnD)) (tf : List (Nat × Nat)) (o : Sem1 D) : Sem1 D := fun s M => (o s M).bind fun x M0 => match x with
  | .ref i => match M0[i]? with
    | some (.ins c fs) => match tp.lookup c with
      | some φ => match φ [.ref i] M0 with
        | .ok d M1 => .ok d M1
        | _ => .bad
      | none => match tf.lookup c with
        | some j => match fs[j]? with
          | some (some d) => .ok d M0
          | _ => .bad
        | none => .bad
    | _ => .bad
  | _ => .bad
theorem getprop_d {rs : List (Addr × HO)} {pins : List (Addr × Obj)} {σ : L2.St} {H : Hp} {s : Shared} {Q : VK} {bb : Bool} {E' : Value → Shared → Prop} {g pp dx : Addr} {fs : List (Str × V)} {a : Addr} (I : Inv X pins σ H s) (ea : H a = some (.ins C dx fs)) (c : Cls X.K C) (hp : PropOf X.K C m pp g)
    (cl : Callee X.prog X.w X.K X.mg X.base T k g 1 [] φ) (hr : Room (k + 1) X.A) (h : spD (kx X T) rs φ [.ref a] H Q (fun _ _ _ => False)) : wpAny (model X.prog X.w) X.A (getAttr (.ref a) m bb) (EP X pins σ Q) E' s := by
  obtain ⟨mA, O, _, _, _, _⟩ := ins_get I.hok ea
  obtain ⟨od, J, _⟩ := O.look
  obtain ⟨rest, hrec⟩ := hp.rec_
  have I1 := I.tok (s.toks + 1)
  have hc : (PySem.W.clsIn X.K C).isSome = true := by
    obtain ⟨cd, hc, _⟩ := PySem.W.any_some c.hd
    rw [hc]
    rfl
  refine PySem.W.get_bind I.kIn J (PySem.W.plainGet_of (c.get m)).1 (PySem.W.findObj_data hc hp.at_ hp.get hp.tak) (PySem.W.plainGet_of (c.get m)).2 (wpAny_call (PySem.W.prop_get (s := { s with toks := s.toks + 1 }) I.kIn hrec ?_))
  refine codeAny_mono (cl.run rs X.A.in1 X.stack { s with toks := s.toks + 1 } H [.ref a] [] [.ref a] [] Q _ hr.in1 I1.env0.in1 rfl rfl (.cons rfl .nil) .nil h) fun r s' hq => ?_
  cases r with
  | error er =>
    obtain ⟨a, B, H', cls, d, _, _, _, _, _, _, _, z⟩ := hq
    exact z.elim
  | ok fl =>
    cases fl with
    | ret u =>
      obtain ⟨v, H', I3, rv, q3⟩ := I1.after hq
      show wpAny _ _ (handedOut u) _ _ _
      rw [PySem.W.handedOut_of (handed_of rv)]
      exact wpAny_pure ⟨v, H', I3, rv, q3⟩
    | next => exact False.elim hq
    | brk => exact False.elim hq
    | cont => exact False.elim hq
theorem d_attr {tp : List (Nat × FnD)} {tf : List (Nat × Nat)} (ht : ∀ c φ, tp.lookup c = some φ → ∃ C ly pp g k, T.ct[c]? = some (C, ly) ∧ Cls X.K C ∧ PropOf X.K C m pp g ∧ Callee X.prog X.w X.K X.mg X.base T k g 1 [] φ ∧ Room (k + 1) X.A)
    (hf : ∀ c j, tp.lookup c = none → tf.lookup c = some j → ∃ C ly, T.ct[c]? = some (C, ly) ∧ Cls X.K C ∧ NoAttr X.K C m ∧ ly[j]? = some m) (ho : KE X T W o ψ) (h1 : isSup o = false) : KE X T W (.Attribute o m pos) (eAttr tp tf ψ) := by
  refine fun rs => ⟨fun pins s σ H Q I h => ?_⟩
  refine attr_of (noSup h1) (thn ((ho rs).run pins s σ H (fun v H1 => (∃ ι F M i c fs φ, Rel (kx X T) ι F rs H1 M ∧ Rep (kx X T) ι F (.ref i) v ∧ M[i]? = some (.ins c fs) ∧ tp.lookup c = some φ ∧ Post (kx X T) rs (repD (kx X T)) ι F (fun _ _ _ => False) Q (φ [.ref i] M)) ∨
    ∃ ι F M i c fs j d, Rel (kx X T) ι F rs H1 M ∧ Rep (kx X T) ι F (.ref i) v ∧ M[i]? = some (.ins c fs) ∧ tp.lookup c = none ∧ tf.lookup c = some j ∧ fs[j]? = some (some d) ∧ ∀ w, Rep (kx X T) ι F d w → Q w H1) I ?_) fun u s1 ⟨v, H1, I1, rv, q⟩ => ?_)
  · obtain ⟨ι, F, st, M, r, rS, q⟩ := h
    refine ⟨ι, F, st, M, r, rS, q.step fun v H1 ι1 F1 M1 x l1 r1 rv p1 => ?_⟩
    cases x with
    | ref i =>
      simp only at p1
      split at p1
      · rename_i c fs hM
        split at p1
        · rename_i φ hφ
          refine .inl ⟨ι1, F1, M1, i, c, fs, φ, r1, rv, hM, hφ, ?_⟩
          cases e : φ [.ref i] M1 with
          | ok d M2 => rw [e] at p1; exact p1
          | er x M2 => rw [e] at p1; exact p1.elim
          | bad => rw [e] at p1; exact p1.elim
        · rename_i hφ
          split at p1
          · rename_i j hj
            split at p1
            · rename_i d hd
              exact .inr ⟨ι1, F1, M1, i, c, fs, j, d, r1, rv, hM, hφ, hj, hd, fun w rw => p1.fin r1 rw⟩
            · exact p1.elim
          · exact p1.elim
      · exact p1.elim
    | _ => exact p1.elim
  · rcases q with ⟨ι, F, M, i, c, fs, φ, r, ri, hM, hφ, p⟩ | ⟨ι, F, M, i, c, fs, j, d, r, ri, hM, hφ, hj, hd, p⟩
    · obtain ⟨a, rfl, hi⟩ := ri
      obtain rfl : u = Value.ref a := rv
      obtain ⟨C, ly, pp, g, k, hc, cl, pr, ce, hr⟩ := ht c φ hφ
      obtain ⟨_, C', ly', dx, vs, hc', hH, _, hly, _, _⟩ := r.obj i _ a hM hi rfl
      have e2 : (C, ly) = (C', ly') := Option.some.inj (hc.symm.trans hc')
      cases e2
      exact getprop_d I1 hH cl pr ce hr ⟨ι, F, [.ref i], M, r, .one ⟨a, rfl, hi⟩, p⟩
    · obtain ⟨a, rfl, hi⟩ := ri
      obtain rfl : u = Value.ref a := rv
      obtain ⟨C, ly, hc, cl, na, hl⟩ := hf c j hφ hj
      obtain ⟨_, C', ly', dx, vs, hc', hH, _, hly, _, hg⟩ := r.obj i _ a hM hi rfl
      have e2 : (C, ly) = (C', ly') := Option.some.inj (hc.symm.trans hc')
      cases e2
      obtain ⟨w, hw, rw⟩ := hg j m hl d hd
      exact getattr_ok I1 hH cl na hw fun u2 s2 I2 ru2 => ⟨w, H1, I2, ru2, p w rw⟩
/-- C.f, a constant of the class at C -/
theorem d_ccon {mc : Value} {v : V} {u : Value} {d : D} {p2 : Pos} (hg : Gl X x) (hm : X.mg x = some (.ref C)) (hdb : (x == ("__debug__" : Str)) = false) (cr : ClX.CRead X.K C mc) (cv : ClX.CVal X.K C mc m v u) (hr : ∀ ι F, Rep (kx X T) ι F d v) :
    KE X T W (.Attribute (.Name x p2) m pos) (eC d) := fun rs => PE.imp (ClX.pe_cval (pe_glob (v := .ref C) hg hm rfl hdb) (noSup rfl)) fun σ H Q h => by
  obtain ⟨ι, F, s, M, r, rS, p⟩ := h
  exact ⟨C, mc, v, u, rfl, cr, cv, p.fin r (hr ι F)⟩
end
end LD
namespace LD
open PySem PySem.Spec PyProof.Rows L2

/-! ### items and slices -/
def cutL {α : Type} (xs : List α) (lo hi : Option Int) : List α := (xs.drop (HT.sIx xs.length 0 lo)).take (HT.sIx xs.length xs.length hi - HT.sIx xs.length 0 lo)
/-- a new list: one that may change (mu), or a value -/
def newL (mu : Bool) (xs : List D) (M : Mem) : D × Mem := if mu then (.ref M.length, M ++ [.lst xs]) else (.lst xs, M)
def newK (mu : Bool) (kvs : List (Key × D)) (M : Mem) : D × Mem := if mu then (.ref M.length, M ++ [.dic kvs]) else (.dic (kvs.map (·.1)) (kvs.map (·.2)), M)
def sliceD (mu : Bool) (x : D) (lo hi : Option Int) (M : Mem) : Option (D × Mem) := match x with
  | .str z => if z.length ≤ LINE then some (.str (cutS z lo hi), M) else none
  | .tup xs => some (.tup (cutL xs lo hi), M)
  | x => (lsOf M x).map fun xs => newL mu (cutL xs lo hi) M
abbrev SemO := Sem1 (Option Int)
def oNone : SemO := fun _ M => .ok none M
def oSome (a : Sem1 D) : SemO := fun s M => (a s M).bind fun x M1 => match x with
  | .int i => .ok (some i) M1
  | _ => .bad
def eSlice (mu : Bool) (a : Sem1 D) (lo hi : SemO) : Sem1 D := fun s M => (a s M).bind fun x M1 => (lo s M1).bind fun l M2 => (hi s M2).bind fun h M3 => ofO (sliceD mu x l h M3)
def eRev (mu : Bool) (a : Sem1 D) : Sem1 D := fun s M => (a s M).bind fun x M1 => match lsOf M1 x with
  | some xs => ofO (some (newL mu xs.reverse M1))
  | none => .bad
abbrev repOI : List Addr → Hp → Option Int → Option Int → Prop := fun _ _ a b => b = a
section
variable {X : Cx} {T : Tab} {W : WX} {a b o e : Expr} {es : List Expr} {α : Sem1 (List D)} {φ ψ : Sem1 D} {p2 pos : Pos} {K : KX} {ι : List Addr} {F H : Hp} {M : Mem} {rs : List (Addr × HO)}
theorem d_sub (hu : X.A.units + 1 < cLine) (ha : KE X T W a φ) (hb : KE X T W b ψ) (hs : PlainIx b) : KE X T W (.Subscript a b pos) (eBin ixD φ ψ) := fun rs => PE.imp (pe_ix (i_ix hu) (ha rs) (hb rs) hs) fun _ _ _ h => lg_op h
structure KO (X : Cx) (T : Tab) (W : WX) (e : Option Expr) (φ : SemO) : Prop where
  po : ∀ rs, PO X e (LG (kx X T) rs repOI W φ)
theorem ko_none : KO X T W none oNone := ⟨fun rs => ⟨fun pins s σ H Q I h => po_none.run pins s σ H Q I (by
  obtain ⟨ι, F, st, M, r, rS, p⟩ := h
  exact p.fin r rfl)⟩⟩
theorem ko_some (h : KE X T W e φ) : KO X T W (some e) (oSome φ) := ⟨fun rs => ⟨fun pins s σ H Q I hw => (po_some (h rs)).run pins s σ H Q I (by
  obtain ⟨ι, F, st, M, r, rS, p⟩ := hw
  refine ⟨ι, F, st, M, r, rS, p.step fun v H1 ι1 F1 M1 x l1 r1 rv p1 => ?_⟩
  cases x with
  | int i => exact ⟨i, rv, p1.fin r1 rfl⟩
  | _ => exact p1.elim)⟩⟩
theorem SlR.imp {r r' : V → Option Int → Option Int → Hp → VK → Prop} (h : SlR X r) (i : ∀ x lo hi H Q, r' x lo hi H Q → r x lo hi H Q) : SlR X r' :=
  fun pins s σ H x v vl vu lo hi sl Q I rx hs pl pu q => h pins s σ H x v vl vu lo hi sl Q I rx hs pl pu (i _ _ _ _ _ q)
theorem RepL.cut {ds : List D} {vs : List V} (h : RepL K ι F ds vs) (lo hi : Option Int) : RepL K ι F (cutL ds lo hi) (cutV vs lo hi) := by
  unfold cutL cutV
  rw [h.length]
  exact (h.drop _).take _
/-- a new list laid as newL says -/
theorem newL_at {mu : Bool} {xs : List D} {vs : List V} {z : D} {M' : Mem} {Q : VK} (r : Rel K ι F rs H M) (rv : RepL K ι F xs vs) (e : newL mu xs M = (z, M'))
    (q : ∀ ι' F' H' u, Le K ι F ι' F' → Rel K ι' F' rs H' M' → Rep K ι' F' z u → Q u H') : ∀ p, H p = none → Q (.ref p) (upd H p (.lst vs)) := fun p hp => by
  unfold newL at e
  cases mu with
  | true =>
    cases e
    exact q (ι ++ [p]) F _ _ Le.push (r.fresh hp rfl ⟨vs, upd_same, RepL.le Le.push rv⟩) ⟨p, rfl, by rw [← r.len]; simp⟩
  | false =>
    cases e
    exact q ι (upd F p (.lst vs)) _ _ (Le.new (r.free hp)) (r.frozen hp) ⟨p, vs, rfl, .inl (.inl upd_same), RepL.le (Le.new (r.free hp)) rv⟩
theorem newK_at {mu : Bool} {kvs : List (Key × D)} {vs : List (Key × V)} {z : D} {M' : Mem} {Q : VK} (r : Rel K ι F rs H M) (m : vs.map (·.1) = kvs.map (·.1)) (rv : RepL K ι F (kvs.map (·.2)) (vs.map (·.2))) (e : newK mu kvs M = (z, M'))
    (q : ∀ ι' F' H' u, Le K ι F ι' F' → Rel K ι' F' rs H' M' → Rep K ι' F' z u → Q u H') : ∀ p, H p = none → Q (.ref p) (upd H p (.dK vs)) := fun p hp => by
  unfold newK at e
  cases mu with
  | true =>
    cases e
    exact q (ι ++ [p]) F _ _ Le.push (r.fresh hp rfl ⟨vs, upd_same, m, RepL.le Le.push rv⟩) ⟨p, rfl, by rw [← r.len]; simp⟩
  | false =>
    cases e
    exact q ι (upd F p (.dK vs)) _ _ (Le.new (r.free hp)) (r.frozen hp) ⟨p, vs, rfl, .inl upd_same, m, RepL.le (Le.new (r.free hp)) rv⟩
def RSl (K : KX) (rs : List (Addr × HO)) (mu : Bool) : V → Option Int → Option Int → Hp → VK → Prop := fun v lo hi H Q => ∃ ι F M x z M', Rel K ι F rs H M ∧ Rep K ι F x v ∧ sliceD mu x lo hi M = some (z, M') ∧ ∀ ι' F' H' u, Le K ι F ι' F' → Rel K ι' F' rs H' M' → Rep K ι' F' z u → Q u H'
theorem s_slice {mu : Bool} : SlR X (RSl (kx X T) rs mu) := SlR.imp (SlR.or sl_list (SlR.or sl_str sl_tupA)) fun v lo hi H Q h => by
  obtain ⟨ι, F, M, x, z, M', r, rx, e, q⟩ := h
  unfold sliceD at e
  split at e
  · split at e
    · rename_i hz
      cases e
      exact .inr (.inl ⟨_, rx, by rw [← line_eq]; exact hz, q ι F H _ Le.refl r rfl⟩)
    · cases e
  · cases e
    obtain ⟨a, vs, rfl, s1, l1⟩ := rx
    refine .inr (.inr ⟨a, vs, rfl, sqt_sub r s1, fun hw => ?_, fun hw p hp => ?_⟩)
    · refine q ι F H _ Le.refl r ⟨a, vs, rfl, s1, ?_⟩
      have e1 := l1.cut lo hi
      have e2 : cutV vs lo hi = vs := by
        unfold cutV
        rw [hw.1, hw.2]
        simp
      rw [e2] at e1
      exact e1
    · exact q ι (upd F p (.tup (cutV vs lo hi))) _ _ (Le.new (r.free hp)) (r.frozen hp) ⟨p, _, rfl, .inl (.inl upd_same), RepL.le (Le.new (r.free hp)) (l1.cut lo hi)⟩
  · obtain ⟨xs, e1, e2⟩ := Option.map_eq_some_iff.mp e
    obtain ⟨a, vs, rfl, s1, l1⟩ := lsOf_at r e1 rx
    exact .inl ⟨a, vs, rfl, s1, newL_at r (l1.cut lo hi) e2 q⟩
theorem d_slice {mu : Bool} {lo hi : Option Expr} {ol oh : SemO} (ha : KE X T W a φ) (hl : KO X T W lo ol) (hh : KO X T W hi oh) : KE X T W (.Subscript a (.Slice lo hi none p2) pos) (eSlice mu φ ol oh) := fun rs => PE.imp (pe_slice (s_slice (mu := mu)) (ha rs) (hl.po rs) (hh.po rs)) fun σ H Q h => by
  obtain ⟨ι, F, st, M, r, rS, p⟩ := h
  refine ⟨ι, F, st, M, r, rS, p.step fun v H1 ι1 F1 M1 x l1 r1 rv p1 => ?_⟩
  refine ⟨ι1, F1, st, M1, r1, rS.le l1, p1.step fun lo' H2 ι2 F2 M2 lo'' l2 r2 e1 p2 => ?_⟩
  refine ⟨ι2, F2, st, M2, r2, (rS.le l1).le l2, p2.step fun hi' H3 ι3 F3 M3 hi'' l3 r3 e2 p3 => ?_⟩
  have e1 : lo' = lo'' := e1
  have e2 : hi' = hi'' := e2
  subst e1 e2
  cases e : sliceD mu x lo' hi' M3 with
  | none => rw [e] at p3; exact p3.elim
  | some z =>
    obtain ⟨z, M'⟩ := z
    rw [e] at p3
    exact ⟨ι3, F3, M3, x, z, M', r3, l3 _ _ (l2 _ _ rv), e, p3⟩
theorem d_rev {mu : Bool} {k : Nat} {p1 p3 : Pos} (ha : KE X T W a φ) : KE X T W (.Subscript a (.Slice none none (some (.UnaryOp .USub (.Constant (.int 1) k p1) p2)) p3) pos) (eRev mu φ) := fun rs => PE.imp (pe_revL (ha rs)) fun σ H Q h => by
  obtain ⟨ι, F, st, M, r, rS, p⟩ := h
  refine ⟨ι, F, st, M, r, rS, p.step fun v H1 ι1 F1 M1 x l1 r1 rv p1 => ?_⟩
  split at p1
  · rename_i xs e1
    obtain ⟨a, vs, rfl, s1, l1⟩ := lsOf_at r1 e1 rv
    exact ⟨a, vs, rfl, s1, newL_at (z := (newL mu xs.reverse M1).1) r1 l1.reverse rfl p1⟩
  · exact p1.elim

/-! ### built-in functions -/
abbrev OL := List D → Mem → Option (D × Mem)
def RC (K : KX) (rs : List (Addr × HO)) (g : OL) : List V → Hp → VK → Prop := fun vs H Q => ∃ ι F M ds z M', Rel K ι F rs H M ∧ RepL K ι F ds vs ∧ g ds M = some (z, M') ∧ ∀ ι' F' H' u, Le K ι F ι' F' → Rel K ι' F' rs H' M' → Rep K ι' F' z u → Q u H'
def eBlt (g : OL) (α : Sem1 (List D)) : Sem1 D := fun s M => (α s M).bind fun ds M1 => ofO (g ds M1)
theorem lg_blt {g : OL} {σ : L2.St} {Q : VK} (h : LE (kx X T) rs W (eBlt g α) σ H Q) : tCB (RC (kx X T) rs g) (LA (kx X T) rs W α) σ H Q := by
  obtain ⟨ι, F, st, M, r, rS, p⟩ := h
  refine ⟨ι, F, st, M, r, rS, p.step fun vs H1 ι1 F1 M1 ds l1 r1 rv p1 => ?_⟩
  cases e : g ds M1 with
  | none => rw [e] at p1; exact p1.elim
  | some z =>
    obtain ⟨z, M'⟩ := z
    rw [e] at p1
    exact ⟨ι1, F1, M1, ds, z, M', r1, rv, e, p1⟩
theorem d_blt {id : String} {x : Str} {p : Pos} {g : OL} (hc : ∀ rs, CallR X (.builtin id) (RC (kx X T) rs g)) (hg : Gl X x) (hm : X.mg x = none) (hv : bootBuiltins x = some (.builtin id)) (hn : x ≠ "__name__") (hdb : (x == ("__debug__" : Str)) = false) (ha : KA X T W (e :: es) α) (h2 : (e :: es).any isStar = false) :
    KE X T W (.Call (.Name x p) (e :: es) [] pos) (eBlt g α) := by
  rw [List.any_cons, Bool.or_eq_false_iff] at h2
  exact fun rs => PE.imp (pe_callB (hc rs) hg hm hv (ha.pa rs) hn hdb (star_cons h2.1) (star_any h2.2)) fun σ H Q h => lg_blt h
theorem d_bty {id : String} {x : Str} {p : Pos} {g : OL} (hc : ∀ rs, CallR X (.type id) (RC (kx X T) rs g)) (hg : Gl X x) (hm : X.mg x = none) (hv : bootBuiltins x = some (.type id)) (hn : x ≠ "__name__") (hdb : (x == ("__debug__" : Str)) = false) (ha : KA X T W (e :: es) α) (h2 : (e :: es).any isStar = false) :
    KE X T W (.Call (.Name x p) (e :: es) [] pos) (eBlt g α) := by
  rw [List.any_cons, Bool.or_eq_false_iff] at h2
  exact fun rs => PE.imp (pe_callTy (hc rs) hg hm hv (ha.pa rs) hn hdb (star_cons h2.1) (star_any h2.2)) fun σ H Q h => lg_blt h
theorem CallR.imp {f : Value} {r r' : List V → Hp → VK → Prop} (h : CallR X f r) (i : ∀ xs H Q, r' xs H Q → r xs H Q) : CallR X f r' := fun pins s σ H xs us Q I rv q => h pins s σ H xs us Q I rv (i _ _ _ q)
theorem one_of {d : D} {vs : List V} (h : RepL K ι F [d] vs) : ∃ v, vs = [v] ∧ Rep K ι F d v := by
  obtain ⟨v, r, rfl, h1, h2⟩ := h
  have e : r = [] := h2
  exact ⟨v, by rw [e], h1⟩
theorem two_of {d d' : D} {vs : List V} (h : RepL K ι F [d, d'] vs) : ∃ v w, vs = [v, w] ∧ Rep K ι F d v ∧ Rep K ι F d' w := by
  obtain ⟨v, r, rfl, h1, h2⟩ := h
  obtain ⟨w, rfl, h3⟩ := one_of h2
  exact ⟨v, w, rfl, h1, h3⟩
def lenC : OL := fun ds M => match ds with
  | [.str x] => if x.length ≤ LINE then some (.int x.length, M) else none
  | [.tup xs] => some (.int xs.length, M)
  | [.ref i] => match M[i]? with
    | some (.lst xs) => some (.int xs.length, M)
    | some (.dic kvs) => some (.int kvs.length, M)
    | _ => none
  | [.lst xs] => some (.int xs.length, M)
  | _ => none
theorem c_len : CallR X (.builtin "len") (RC (kx X T) rs lenC) := CallR.imp (CallR.or call_len_seq (CallR.or call_len_str call_lenD)) fun vs H Q h => by
  obtain ⟨ι, F, M, ds, z, M', r, rv, e, q⟩ := h
  unfold lenC at e
  split at e
  · split at e
    · rename_i hz
      cases e
      obtain ⟨v, rfl, h1⟩ := one_of rv
      have h1' := h1
      cases h1'
      exact .inr (.inl ⟨_, rfl, by rw [← line_eq]; exact hz, q ι F H _ Le.refl r rfl⟩)
    · cases e
  · cases e
    obtain ⟨v, rfl, a, ws, rfl, s1, l1⟩ := one_of rv
    exact .inl ⟨a, ws, rfl, .inr (sqt_sub r s1), q ι F H _ Le.refl r (by rw [l1.length] <;> rfl)⟩
  · rename_i i
    split at e
    · rename_i xs hM
      cases e
      obtain ⟨v, rfl, a, rfl, hi⟩ := one_of rv
      obtain ⟨_, ws, h2, h3⟩ := r.obj i _ a hM hi rfl
      exact .inl ⟨a, ws, rfl, .inl (.inl (.inl h2)), q ι F H _ Le.refl r (by rw [h3.length] <;> rfl)⟩
    · rename_i kvs hM
      cases e
      obtain ⟨v, rfl, a, rfl, hi⟩ := one_of rv
      obtain ⟨_, ws, h2, h3, h4⟩ := r.obj i _ a hM hi rfl
      have hl := congrArg List.length h3
      rw [List.length_map, List.length_map] at hl
      exact .inr (.inr ⟨a, ws, rfl, h2, q ι F H _ Le.refl r (by rw [hl] <;> rfl)⟩)
    · cases e
  · cases e
    obtain ⟨v, rfl, a, ws, rfl, s1, l1⟩ := one_of rv
    exact .inl ⟨a, ws, rfl, .inl (sql_sub r s1), q ι F H _ Le.refl r (by rw [l1.length] <;> rfl)⟩
  · cases e
def intC : OL := fun ds M => match ds with
  | [.int i] => some (.int i, M)
  | [.bl b] => some (.int (if b then 1 else 0), M)
  | _ => none
theorem c_int : CallR X (.type "int") (RC (kx X T) rs intC) := CallR.imp call_int1 fun vs H Q h => by
  obtain ⟨ι, F, M, ds, z, M', r, rv, e, q⟩ := h
  unfold intC at e
  split at e
  · cases e
    obtain ⟨v, rfl, h1⟩ := one_of rv
    cases h1
    exact .inl ⟨_, rfl, q ι F H _ Le.refl r rfl⟩
  · cases e
    obtain ⟨v, rfl, h1⟩ := one_of rv
    cases h1
    exact .inr ⟨_, rfl, q ι F H _ Le.refl r rfl⟩
  · cases e
def strC : OL := fun ds M => match ds with
  | [.int i] => if i.natAbs.log2 < 1920 then some (.str (toString i), M) else none
  | [.str x] => some (.str x, M)
  | _ => none
theorem c_str : CallR X (.type "str") (RC (kx X T) rs strC) := CallR.imp (CallR.or call_str_int SkE.call_str_str) fun vs H Q h => by
  obtain ⟨ι, F, M, ds, z, M', r, rv, e, q⟩ := h
  unfold strC at e
  split at e
  · split at e
    · rename_i hz
      cases e
      obtain ⟨v, rfl, h1⟩ := one_of rv
      cases h1
      exact .inl ⟨_, rfl, hz, q ι F H _ Le.refl r rfl⟩
    · cases e
  · cases e
    obtain ⟨v, rfl, h1⟩ := one_of rv
    cases h1
    exact .inr ⟨_, rfl, q ι F H _ Le.refl r rfl⟩
  · cases e
def absC : OL := fun ds M => match ds with
  | [.int i] => some (.int (if i < 0 then -i else i), M)
  | _ => none
theorem c_abs : CallR X (.builtin "abs") (RC (kx X T) rs absC) := CallR.imp call_abs fun vs H Q h => by
  obtain ⟨ι, F, M, ds, z, M', r, rv, e, q⟩ := h
  unfold absC at e
  split at e
  · cases e
    obtain ⟨v, rfl, h1⟩ := one_of rv
    cases h1
    exact ⟨_, rfl, q ι F H _ Le.refl r rfl⟩
  · cases e
def maxI : List Int → Int
  | [] => 0
  | [x] => x
  | x :: r => max x (maxI r)
def minI : List Int → Int
  | [] => 0
  | [x] => x
  | x :: r => min x (minI r)
theorem maxI_spec : ∀ {ns : List Int} {m : Int}, m ∈ ns → (∀ y ∈ ns, y ≤ m) → maxI ns = m
  | [], m, h, _ => by cases h
  | [x], m, h, _ => (List.mem_singleton.mp h).symm
  | x :: y :: r, m, h, hm => by
    show max x (maxI (y :: r)) = m
    have hx := hm x List.mem_cons_self
    rcases List.mem_cons.mp h with e | h
    · have hy : maxI (y :: r) ≤ m := by
        have key : ∀ (l : List Int), l ≠ [] → (∀ z ∈ l, z ≤ m) → maxI l ≤ m := by
          intro l
          induction l with
          | nil => intro h; exact absurd rfl h
          | cons a l ih =>
            intro _ hl
            cases l with
            | nil => exact hl a List.mem_cons_self
            | cons b l =>
              have := ih (by simp) fun z hz => hl z (List.mem_cons_of_mem _ hz)
              have := hl a List.mem_cons_self
              show max a (maxI (b :: l)) ≤ m
              omega
        exact key _ (by simp) fun z hz => hm z (List.mem_cons_of_mem _ hz)
      omega
    · have := maxI_spec (ns := y :: r) h fun z hz => hm z (List.mem_cons_of_mem _ hz)
      omega
theorem minI_spec : ∀ {ns : List Int} {m : Int}, m ∈ ns → (∀ y ∈ ns, m ≤ y) → minI ns = m
  | [], m, h, _ => by cases h
  | [x], m, h, _ => (List.mem_singleton.mp h).symm
  | x :: y :: r, m, h, hm => by
    show min x (minI (y :: r)) = m
    have hx := hm x List.mem_cons_self
    rcases List.mem_cons.mp h with e | h
    · have hy : m ≤ minI (y :: r) := by
        have key : ∀ (l : List Int), l ≠ [] → (∀ z ∈ l, m ≤ z) → m ≤ minI l := by
          intro l
          induction l with
          | nil => intro h; exact absurd rfl h
          | cons a l ih =>
            intro _ hl
            cases l with
            | nil => exact hl a List.mem_cons_self
            | cons b l =>
              have := ih (by simp) fun z hz => hl z (List.mem_cons_of_mem _ hz)
              have := hl a List.mem_cons_self
              show m ≤ min a (minI (b :: l))
              omega
        exact key _ (by simp) fun z hz => hm z (List.mem_cons_of_mem _ hz)
      omega
    · have := minI_spec (ns := y :: r) h fun z hz => hm z (List.mem_cons_of_mem _ hz)
      omega
def intK : List Key → Option (List Int)
  | [] => some []
  | .inl i :: r => (intK r).map fun is => i :: is
  | _ => none
theorem intK_map : ∀ {ks : List Key} {ns : List Int}, intK ks = some ns → ks = ns.map Sum.inl
  | [], ns, e => by cases e; rfl
  | .inl i :: r, ns, e => by
    obtain ⟨is, e1, rfl⟩ := Option.map_eq_some_iff.mp e
    rw [intK_map e1] <;> rfl
  | .inr x :: r, ns, e => by cases e
def maxC : OL := fun ds M => match ds with
  | [.int i, .int j] => some (.int (if j > i then j else i), M)
  | [x] => (lsOf M x).bind fun xs => (intsOf xs).bind fun ns => if ns.isEmpty then none else some (.int (maxI ns), M)
  | _ => none
def minC : OL := fun ds M => match ds with
  | [.int i, .int j] => some (.int (if j < i then j else i), M)
  | [x] => match (match x with | .ref i => M[i]? | _ => none) with
    | some (.dic kvs) => (intK (kvs.map (·.1))).bind fun ns => if ns.isEmpty then none else some (.int (minI ns), M)
    | _ => (lsOf M x).bind fun xs => (intsOf xs).bind fun ns => if ns.isEmpty then none else some (.int (minI ns), M)
  | _ => none
theorem pos_of {ns : List Int} (h : ¬ ns.isEmpty = true) : 0 < ns.length := by
  cases ns with
  | nil => exact absurd rfl h
  | cons _ _ => exact Nat.succ_pos _
theorem c_max (hc : X.calm = true) : CallR X (.builtin "max") (RC (kx X T) rs maxC) := CallR.imp (CallR.or (call_max2 hc) (cr_max hc)) fun vs H Q h => by
  obtain ⟨ι, F, M, ds, z, M', r, rv, e, q⟩ := h
  unfold maxC at e
  split at e
  · cases e
    obtain ⟨v, w, rfl, h1, h2⟩ := two_of rv
    cases h1; cases h2
    exact .inl ⟨_, _, rfl, q ι F H _ Le.refl r rfl⟩
  · obtain ⟨xs, e1, e⟩ := Option.bind_eq_some_iff.mp e
    obtain ⟨ns, e2, e⟩ := Option.bind_eq_some_iff.mp e
    split at e
    · cases e
    · rename_i hn
      cases e
      obtain ⟨v, rfl, h1⟩ := one_of rv
      obtain ⟨a, ws, rfl, s1, l1⟩ := lsOf_at r e1 h1
      have z1 := intsOf_rep e2 l1
      subst z1
      exact .inr ⟨a, ns, rfl, s1, pos_of hn, fun m hm hle => q ι F H _ Le.refl r (by rw [maxI_spec hm hle] <;> rfl)⟩
  · cases e
theorem c_min (hc : X.calm = true) : CallR X (.builtin "min") (RC (kx X T) rs minC) := CallR.imp (CallR.or (call_min2 hc) (CallR.or (cr_min hc) (cr_minK hc))) fun vs H Q h => by
  obtain ⟨ι, F, M, ds, z, M', r, rv, e, q⟩ := h
  unfold minC at e
  split at e
  · cases e
    obtain ⟨v, w, rfl, h1, h2⟩ := two_of rv
    cases h1; cases h2
    exact .inl ⟨_, _, rfl, q ι F H _ Le.refl r rfl⟩
  · rename_i x
    obtain ⟨v, rfl, h1⟩ := one_of rv
    split at e
    · rename_i kvs hd
      obtain ⟨ns, e2, e⟩ := Option.bind_eq_some_iff.mp e
      split at e
      · cases e
      · rename_i hn
        cases e
        cases x with
        | ref i =>
          obtain ⟨a, rfl, hi⟩ := h1
          obtain ⟨_, ws, h2, h3, h4⟩ := r.obj i _ a hd hi rfl
          exact .inr (.inr ⟨a, ws, ns, rfl, h2, by rw [h3]; exact intK_map e2, fun z => hn (by rw [z] <;> rfl), fun m hm hle => q ι F H _ Le.refl r (by rw [minI_spec hm hle] <;> rfl)⟩)
        | _ => cases hd
    · obtain ⟨xs, e1, e⟩ := Option.bind_eq_some_iff.mp e
      obtain ⟨ns, e2, e⟩ := Option.bind_eq_some_iff.mp e
      split at e
      · cases e
      · rename_i hn
        cases e
        obtain ⟨a, ws, rfl, s1, l1⟩ := lsOf_at r e1 h1
        have z1 := intsOf_rep e2 l1
        subst z1
        exact .inr (.inl ⟨a, ns, rfl, s1, pos_of hn, fun m hm hle => q ι F H _ Le.refl r (by rw [minI_spec hm hle] <;> rfl)⟩)
  · cases e
def sumC : OL := fun ds M => match ds with
  | [x] => (lsOf M x).bind fun xs => (intsOf xs).map fun ns => (.int ns.sum, M)
  | _ => none
theorem c_sum (hc : X.calm = true) : CallR X (.builtin "sum") (RC (kx X T) rs sumC) := CallR.imp (cr_sum hc) fun vs H Q h => by
  obtain ⟨ι, F, M, ds, z, M', r, rv, e, q⟩ := h
  unfold sumC at e
  split at e
  · obtain ⟨xs, e1, e⟩ := Option.bind_eq_some_iff.mp e
    obtain ⟨ns, e2, e⟩ := Option.map_eq_some_iff.mp e
    cases e
    obtain ⟨v, rfl, h1⟩ := one_of rv
    obtain ⟨a, ws, rfl, s1, l1⟩ := lsOf_at r e1 h1
    have z1 := intsOf_rep e2 l1
    subst z1
    exact ⟨a, ns, rfl, s1, q ι F H _ Le.refl r rfl⟩
  · cases e
def blsOf : List D → Option (List Bool)
  | [] => some []
  | .bl i :: r => (blsOf r).map fun is => i :: is
  | _ => none
theorem blsOf_rep : ∀ {xs : List D} {ns : List Bool} {vs : List V}, blsOf xs = some ns → RepL K ι F xs vs → vs = ns.map V.bl
  | [], ns, vs, e, h => by
    cases e; exact h
  | d :: xs, ns, vs, e, h => by
    obtain ⟨v, r, rfl, h1, h2⟩ := h
    cases d with
    | bl i =>
      obtain ⟨is, e1, rfl⟩ := Option.map_eq_some_iff.mp (show (blsOf xs).map (fun is => i :: is) = some ns from e)
      cases h1
      rw [blsOf_rep e1 h2] <;> rfl
    | _ => cases e
def anyC : OL := fun ds M => match ds with
  | [x] => (lsOf M x).bind fun xs => (blsOf xs).map fun ns => (.bl (ns.any id), M)
  | _ => none
def allC : OL := fun ds M => match ds with
  | [x] => (lsOf M x).bind fun xs => (blsOf xs).map fun ns => (.bl (ns.all id), M)
  | _ => none
theorem c_any (hc : X.calm = true) : CallR X (.builtin "any") (RC (kx X T) rs anyC) := CallR.imp (cr_any hc) fun vs H Q h => by
  obtain ⟨ι, F, M, ds, z, M', r, rv, e, q⟩ := h
  unfold anyC at e
  split at e
  · obtain ⟨xs, e1, e⟩ := Option.bind_eq_some_iff.mp e
    obtain ⟨ns, e2, e⟩ := Option.map_eq_some_iff.mp e
    cases e
    obtain ⟨v, rfl, h1⟩ := one_of rv
    obtain ⟨a, ws, rfl, s1, l1⟩ := lsOf_at r e1 h1
    have z1 := blsOf_rep e2 l1
    subst z1
    exact ⟨a, ns, rfl, s1, q ι F H _ Le.refl r rfl⟩
  · cases e
theorem c_all (hc : X.calm = true) : CallR X (.builtin "all") (RC (kx X T) rs allC) := CallR.imp (cr_all hc) fun vs H Q h => by
  obtain ⟨ι, F, M, ds, z, M', r, rv, e, q⟩ := h
  unfold allC at e
  split at e
  · obtain ⟨xs, e1, e⟩ := Option.bind_eq_some_iff.mp e
    obtain ⟨ns, e2, e⟩ := Option.map_eq_some_iff.mp e
    cases e
    obtain ⟨v, rfl, h1⟩ := one_of rv
    obtain ⟨a, ws, rfl, s1, l1⟩ := lsOf_at r e1 h1
    have z1 := blsOf_rep e2 l1
    subst z1
    exact ⟨a, ns, rfl, s1, q ι F H _ Le.refl r rfl⟩
  · cases e
def sqOf (M : Mem) : D → Option (List D)
  | .tup xs => some xs
  | x => lsOf M x
def listC (mu : Bool) : OL := fun ds M => match ds with
  | [x] => (sqOf M x).map fun xs => newL mu xs M
  | _ => none
theorem sqOf_at {d : D} {v : V} {xs : List D} (r : Rel K ι F rs H M) (e : sqOf M d = some xs) (h : Rep K ι F d v) : ∃ a vs, v = .ref a ∧ (SqL K.fr H a vs ∨ SqT K.fr H a vs) ∧ RepL K ι F xs vs := by
  unfold sqOf at e
  split at e
  · cases e
    obtain ⟨a, ws, rfl, s1, l1⟩ := h
    exact ⟨a, ws, rfl, .inr (sqt_sub r s1), l1⟩
  · obtain ⟨a, ws, rfl, s1, l1⟩ := lsOf_at r e h
    exact ⟨a, ws, rfl, .inl s1, l1⟩
theorem c_list {mu : Bool} : CallR X (.type "list") (RC (kx X T) rs (listC mu)) := CallR.imp call_list_of fun vs H Q h => by
  obtain ⟨ι, F, M, ds, z, M', r, rv, e, q⟩ := h
  unfold listC at e
  split at e
  · obtain ⟨xs, e1, e2⟩ := Option.map_eq_some_iff.mp e
    obtain ⟨v, rfl, h1⟩ := one_of rv
    obtain ⟨a, ws, rfl, s1, l1⟩ := sqOf_at r e1 h1
    exact ⟨a, ws, rfl, s1, newL_at r l1 e2 q⟩
  · cases e
def tupleC : OL := fun ds M => match ds with
  | [x] => (sqOf M x).map fun xs => (.tup xs, M)
  | _ => none
theorem c_tuple : CallR X (.type "tuple") (RC (kx X T) rs tupleC) := CallR.imp call_tuple_of fun vs H Q h => by
  obtain ⟨ι, F, M, ds, z, M', r, rv, e, q⟩ := h
  unfold tupleC at e
  split at e
  · rename_i x
    obtain ⟨xs, e1, e2⟩ := Option.map_eq_some_iff.mp e
    cases e2
    obtain ⟨v, rfl, h1⟩ := one_of rv
    unfold sqOf at e1
    split at e1
    · cases e1
      obtain ⟨a, ws, rfl, s1, l1⟩ := h1
      exact ⟨a, ws, rfl, .inr ⟨sqt_sub r s1, q ι F H _ Le.refl r ⟨a, ws, rfl, s1, l1⟩⟩⟩
    · obtain ⟨a, ws, rfl, s1, l1⟩ := lsOf_at r e1 h1
      exact ⟨a, ws, rfl, .inl ⟨s1, fun p hp => q ι (upd F p (.tup ws)) _ _ (Le.new (r.free hp)) (r.frozen hp) ⟨p, ws, rfl, .inl (.inl upd_same), RepL.le (Le.new (r.free hp)) l1⟩⟩⟩
  · cases e
def dictC (mu : Bool) : OL := fun ds M => match ds with
  | [x] => (dcOf M x).map fun kvs => newK mu kvs M
  | _ => none
theorem c_dict {mu : Bool} : CallR X (.type "dict") (RC (kx X T) rs (dictC mu)) := CallR.imp call_dictD fun vs H Q h => by
  obtain ⟨ι, F, M, ds, z, M', r, rv, e, q⟩ := h
  unfold dictC at e
  split at e
  · obtain ⟨kvs, e1, e2⟩ := Option.map_eq_some_iff.mp e
    obtain ⟨v, rfl, h1⟩ := one_of rv
    obtain ⟨a, ws, rfl, hr, m1, m2⟩ := dcOf_at r e1 h1
    exact ⟨a, ws, rfl, hr, newK_at r m1 m2 e2 q⟩
  · cases e
end
end LD
namespace LD
open PySem PySem.Spec PyProof.Rows L2

mutual
def eqb : D → D → Bool
  | .non, .non => true
  | .bl a, .bl b => a == b
  | .int a, .int b => a == b
  | .str a, .str b => a == b
  | .ty a, .ty b => a == b
  | .lst a, .lst b => eqbL a b
  | .tup a, .tup b => eqbL a b
  | .dic k a, .dic l b => decide (k = l) && eqbL a b
  | .ref a, .ref b => a == b
  | .glb a, .glb b => decide (a = b)
  | _, _ => false
def eqbL : List D → List D → Bool
  | [], [] => true
  | x :: xs, y :: ys => eqb x y && eqbL xs ys
  | _, _ => false
end
mutual
theorem eqb_eq : ∀ a b : D, eqb a b = true → a = b
  | .non, b, h => by cases b <;> first | rfl | (simp [eqb] at h)
  | .bl x, b, h => by cases b <;> first | (simp [eqb] at h; rw [h]) | (simp [eqb] at h)
  | .int x, b, h => by cases b <;> first | (simp [eqb] at h; rw [h]) | (simp [eqb] at h)
  | .str x, b, h => by cases b <;> first | (simp [eqb] at h; rw [h]) | (simp [eqb] at h)
  | .ty x, b, h => by cases b <;> first | (simp [eqb] at h; rw [h]) | (simp [eqb] at h)
  | .ref x, b, h => by cases b <;> first | (simp [eqb] at h; rw [h]) | (simp [eqb] at h)
  | .glb x, b, h => by cases b <;> first | (simp [eqb] at h; rw [h]) | (simp [eqb] at h)
  | .lst xs, b, h => by cases b <;> first | (simp only [eqb] at h; rw [eqbL_eq _ _ h]) | (simp [eqb] at h)
  | .tup xs, b, h => by cases b <;> first | (simp only [eqb] at h; rw [eqbL_eq _ _ h]) | (simp [eqb] at h)
  | .dic ks xs, b, h => by cases b <;> first | (simp only [eqb, Bool.and_eq_true, decide_eq_true_eq] at h; rw [h.1, eqbL_eq _ _ h.2]) | (simp [eqb] at h)
theorem eqbL_eq : ∀ a b : List D, eqbL a b = true → a = b
  | [], b, h => by cases b <;> first | rfl | (simp [eqbL] at h)
  | x :: xs, b, h => by cases b <;> first | (simp only [eqbL, Bool.and_eq_true] at h; rw [eqb_eq _ _ h.1, eqbL_eq _ _ h.2]) | (simp [eqbL] at h)
end
mutual
theorem eqb_refl : ∀ a : D, eqb a a = true
  | .non => rfl
  | .bl x => by simp [eqb]
  | .int x => by simp [eqb]
  | .str x => by simp [eqb]
  | .ty x => by simp [eqb]
  | .ref x => by simp [eqb]
  | .glb x => by simp [eqb]
  | .lst xs => by simp only [eqb]; exact eqbL_refl xs
  | .tup xs => by simp only [eqb]; exact eqbL_refl xs
  | .dic ks xs => by simp only [eqb, Bool.and_eq_true, decide_eq_true_eq]; exact ⟨trivial, eqbL_refl xs⟩
theorem eqbL_refl : ∀ a : List D, eqbL a a = true
  | [] => rfl
  | x :: xs => by simp only [eqbL, Bool.and_eq_true]; exact ⟨eqb_refl x, eqbL_refl xs⟩
end

/-! ### what is walked -/
/-- the items; what must hold of the memory at each turn (a list that may change stays as it is) -/
structure Src where
  xs : List D
  chk : Mem → Bool
structure WalkD (K : KX) (J : It) (src : Src) (okp : List Addr → Hp → Prop) : Prop where
  mono : ∀ {ι F ι' F'}, Le K ι F ι' F' → okp ι F → okp ι' F'
  go : ∀ {ι F rs H M} {i : Nat}, okp ι F → Rel K ι F rs H M → src.chk M = true → i < src.xs.length → J.go i H
  stop : ∀ {ι F rs H M}, okp ι F → Rel K ι F rs H M → src.chk M = true → J.stop src.xs.length H
  yld : ∀ {ι F rs H M} {i : Nat} {d x H'}, okp ι F → Rel K ι F rs H M → src.chk M = true → src.xs[i]? = some d → J.yld i H x H' → ∃ ι' F', Le K ι F ι' F' ∧ Rel K ι' F' rs H' M ∧ Rep K ι' F' d x
abbrev repI (K : KX) : List Addr → Hp → Src → It → Prop := fun ι F src J => ∃ okp, WalkD K J src okp ∧ okp ι F
structure KI (X : Cx) (T : Tab) (W : WX) (tg iter : Expr) (χ : Sem1 Src) : Prop where
  pi : ∀ rs, PI X tg iter (LG (kx X T) rs (repI (kx X T)) W χ)
theorem PI.imp {X : Cx} {tg e : Expr} {t t' : TI} (h : PI X tg e t) (i : ∀ σ H Q, t' σ H Q → t σ H Q) : PI X tg e t' := ⟨fun pins s σ H Q I q => h.run pins s σ H Q I (i σ H Q q)⟩
theorem PI.or {X : Cx} {tg e : Expr} {t t' : TI} (h : PI X tg e t) (h' : PI X tg e t') : PI X tg e (fun σ H R => t σ H R ∨ t' σ H R) := ⟨fun pins s σ H Q I q => q.elim (h.run pins s σ H Q I) (h'.run pins s σ H Q I)⟩
/-- the items of a list, a tuple, a text -/
def srcOf (M : Mem) : D → Option Src
  | .lst xs => some ⟨xs, fun _ => true⟩
  | .tup xs => some ⟨xs, fun _ => true⟩
  | .str x => some ⟨x.cps.toList.map fun c => .str ⟨#[c]⟩, fun _ => true⟩
  | .ref i => match M[i]? with
    | some (.lst xs) => some ⟨xs, fun M' => match M'[i]? with
      | some (.lst ys) => eqbL xs ys
      | _ => false⟩
    | _ => none
  | _ => none
def iOf (a : Sem1 D) : Sem1 Src := fun s M => (a s M).bind fun x M1 => match srcOf M1 x with
  | some src => .ok src M1
  | none => .bad
def rangeL (lo : Int) (n : Nat) (c : Int) : List D := (List.range n).map fun i : Nat => .int (lo + (i : Int) * c)
def mid (i : Int) : Bool := match i with
  | .ofNat n => Nat.ble (n + 1) 4611686018427387904
  | .negSucc n => Nat.ble (n + 1) 4611686018427387904
def iRange (a : Sem1 (List D)) : Sem1 Src := fun s M => (a s M).bind fun xs M1 => match xs with
  | [.int n] => if mid n then .ok ⟨rangeL 0 n.toNat 1, fun _ => true⟩ M1 else .bad
  | [.int m, .int n] => if mid m && mid n then .ok ⟨rangeL m (n - m).toNat 1, fun _ => true⟩ M1 else .bad
  | _ => .bad
/-- enumerate -/
def iEnm (a : Sem1 D) : Sem1 Src := fun s M => (a s M).bind fun x M1 => match x with
  | .tup _ => .bad
  | .str _ => .bad
  | x => match srcOf M1 x with
    | some src => .ok ⟨(List.range src.xs.length).zipWith (fun (i : Nat) d => .tup [.int (i : Int), d]) src.xs, src.chk⟩ M1
    | none => .bad
section
variable {X : Cx} {T : Tab} {W : WX} {tg a e : Expr} {es : List Expr} {α : Sem1 (List D)} {φ : Sem1 D} {pos p : Pos} {K : KX} {ι : List Addr} {F H : Hp} {M : Mem} {rs : List (Addr × HO)}
theorem sql_inj {H : Hp} {a : Addr} {xs ys : List V} (h : SqL K.fr H a xs) (h' : SqL K.fr H a ys) (hk : ∀ o, K.fr.lookup a = some o → H a = none) : xs = ys := by
  rcases h with (h | ⟨o, h⟩) | ⟨o, its, n, h1, h2, h3, h4, h5, h6⟩
  · rcases h' with (h' | ⟨o', h'⟩) | ⟨o', its', n', h1', _⟩
    · rw [h] at h'; cases h'; rfl
    · rw [h] at h'; cases h'
    · rw [hk _ h1'] at h; cases h
  · rcases h' with (h' | ⟨o', h'⟩) | ⟨o', its', n', h1', _⟩
    · rw [h] at h'; cases h'
    · rw [h] at h'; cases h'; rfl
    · rw [hk _ h1'] at h; cases h
  · rcases h' with (h' | ⟨o', h'⟩) | ⟨o', its', n', h1', h2', h3', h4', h5', h6'⟩
    · rw [hk _ h1] at h'; cases h'
    · rw [hk _ h1] at h'; cases h'
    · rw [h1] at h1'
      cases h1'
      rw [h4] at h4'
      injection h4' with e1 _
      subst e1
      exact h6.inj h6'
theorem walk_list {a : Addr} {xs : List D} : WalkD K (Itl K.fr a) ⟨xs, fun _ => true⟩ (fun ι F => Rep K ι F (.lst xs) (.ref a)) where
  mono := fun l h => l _ _ h
  go := fun {ι F rs H M i} h r _ hi => by
    obtain ⟨a', vs, e, s1, l1⟩ := h
    cases e
    have hl : i < vs.length := by rw [RepL.length l1]; exact hi
    exact ⟨vs, vs[i], sql_sub r s1, List.getElem?_eq_getElem hl⟩
  stop := fun {ι F rs H M} h r _ => by
    obtain ⟨a', vs, e, s1, l1⟩ := h
    cases e
    exact ⟨vs, sql_sub r s1, Nat.le_of_eq (RepL.length l1)⟩
  yld := fun {ι F rs H M i d x H'} h r _ e y => by
    obtain ⟨a', vs, e1, s1, l1⟩ := h
    cases e1
    obtain ⟨rfl, y⟩ := y
    obtain ⟨v, h1, h2⟩ := RepL.get l1 e
    have q := y vs (sql_sub r s1)
    rw [h1] at q
    cases q
    exact ⟨ι, F, Le.refl, r, h2⟩
theorem walk_tup {a : Addr} {xs : List D} : WalkD K (Itt K.fr a) ⟨xs, fun _ => true⟩ (fun ι F => Rep K ι F (.tup xs) (.ref a)) where
  mono := fun l h => l _ _ h
  go := fun {ι F rs H M i} h r _ hi => by
    obtain ⟨a', vs, e, s1, l1⟩ := h
    cases e
    have hl : i < vs.length := by rw [RepL.length l1]; exact hi
    exact ⟨vs, vs[i], sqt_sub r s1, List.getElem?_eq_getElem hl⟩
  stop := fun {ι F rs H M} h r _ => by
    obtain ⟨a', vs, e, s1, l1⟩ := h
    cases e
    exact ⟨vs, sqt_sub r s1, Nat.le_of_eq (RepL.length l1)⟩
  yld := fun {ι F rs H M i d x H'} h r _ e y => by
    obtain ⟨a', vs, e1, s1, l1⟩ := h
    cases e1
    obtain ⟨rfl, y⟩ := y
    obtain ⟨v, h1, h2⟩ := RepL.get l1 e
    have q := y vs (sqt_sub r s1)
    rw [h1] at q
    cases q
    exact ⟨ι, F, Le.refl, r, h2⟩
def mutChk (i : Nat) (xs : List D) : Mem → Bool := fun M' => match M'[i]? with
  | some (.lst ys) => eqbL xs ys
  | _ => false
theorem mutChk_at {i : Nat} {xs : List D} {M : Mem} (h : mutChk i xs M = true) : M[i]? = some (.lst xs) := by
  unfold mutChk at h
  split at h
  · rename_i ys e
    rw [e, eqbL_eq _ _ h]
  · cases h
theorem walk_mut {a : Addr} {i : Nat} {xs : List D} : WalkD K (Itl K.fr a) ⟨xs, mutChk i xs⟩ (fun ι F => Rep K ι F (.ref i) (.ref a)) where
  mono := fun l h => l _ _ h
  go := fun {ι F rs H M j} h r c hi => by
    obtain ⟨a', e, q⟩ := h
    cases e
    obtain ⟨_, vs, h2, h3⟩ := r.obj i _ a (mutChk_at c) q rfl
    have hl : j < vs.length := by rw [RepL.length h3]; exact hi
    exact ⟨vs, vs[j], .inl (.inl h2), List.getElem?_eq_getElem hl⟩
  stop := fun {ι F rs H M} h r c => by
    obtain ⟨a', e, q⟩ := h
    cases e
    obtain ⟨_, vs, h2, h3⟩ := r.obj i _ a (mutChk_at c) q rfl
    exact ⟨vs, .inl (.inl h2), Nat.le_of_eq (RepL.length h3)⟩
  yld := fun {ι F rs H M j d x H'} h r c e y => by
    obtain ⟨a', e1, q⟩ := h
    cases e1
    obtain ⟨_, vs, h2, h3⟩ := r.obj i _ a (mutChk_at c) q rfl
    obtain ⟨rfl, y⟩ := y
    obtain ⟨v, h1, h4⟩ := RepL.get h3 e
    have z := y vs (.inl (.inl h2))
    rw [h1] at z
    cases z
    exact ⟨ι, F, Le.refl, r, h4⟩
theorem walk_str {x : Str} : WalkD K (Its x) ⟨x.cps.toList.map fun c => .str ⟨#[c]⟩, fun _ => true⟩ (fun _ _ => True) where
  mono := fun _ _ => trivial
  go := fun {ι F rs H M i} _ _ _ hi => by
    rw [List.length_map, Array.length_toList] at hi
    exact hi
  stop := fun {ι F rs H M} _ _ _ => by
    show x.cps.size ≤ (x.cps.toList.map _).length
    rw [List.length_map, Array.length_toList]
    exact Nat.le_refl _
  yld := fun {ι F rs H M i d v H'} _ r _ e y => by
    obtain ⟨rfl, c, hc, rfl⟩ := y
    refine ⟨ι, F, Le.refl, r, ?_⟩
    have e : (x.cps.toList.map fun c => D.str ⟨#[c]⟩)[i]? = some d := e
    rw [List.getElem?_map, Array.getElem?_toList, hc] at e
    cases e
    rfl
theorem walk_range {lo : Int} {n : Nat} : WalkD K (Itr lo n) ⟨rangeL lo n 1, fun _ => true⟩ (fun _ _ => True) where
  mono := fun _ _ => trivial
  go := fun {ι F rs H M i} _ _ _ hi => by
    unfold rangeL at hi
    rw [List.length_map, List.length_range] at hi
    exact hi
  stop := fun {ι F rs H M} _ _ _ => by
    show n ≤ (rangeL lo n 1).length
    unfold rangeL
    rw [List.length_map, List.length_range]
    exact Nat.le_refl _
  yld := fun {ι F rs H M i d v H'} _ r _ e y => by
    obtain ⟨rfl, rfl⟩ := y
    refine ⟨ι, F, Le.refl, r, ?_⟩
    have e : (rangeL lo n 1)[i]? = some d := e
    unfold rangeL at e
    rw [List.getElem?_map] at e
    obtain ⟨j, h1, h2⟩ := Option.map_eq_some_iff.mp e
    have hj : j = i := by
      obtain ⟨h3, h4⟩ := List.getElem?_eq_some_iff.mp h1
      rw [← h4, List.getElem_range]
    subst hj
    rw [← h2, Int.mul_one]
    rfl
theorem ki_of (ha : KE X T W a φ) : KI X T W tg a (iOf φ) := ⟨fun rs => PI.imp (PI.or (pi_list (ha rs)) (PI.or (pi_tup (ha rs)) (pi_str (ha rs)))) fun σ H Q h => by
  obtain ⟨ι, F, st, M, r, rS, p⟩ := h
  cases e : φ st M with
  | ok d M1 =>
    unfold iOf at p
    rw [e] at p
    simp only [R.bind_ok] at p
    have base : ∀ {Q' : VK}, (∀ ι' F' H' v, Le (kx X T) ι F ι' F' → Rel (kx X T) ι' F' rs H' M1 → Rep (kx X T) ι' F' d v → Q' v H') → LE (kx X T) rs W φ σ H Q' := fun {Q'} q => ⟨ι, F, st, M, r, rS, by rw [e]; exact q⟩
    cases d with
    | lst xs =>
      refine .inl (base fun ι1 F1 H1 v l1 r1 rv => ?_)
      obtain ⟨a, vs, rfl, s1, ll⟩ := id rv
      exact ⟨a, rfl, ⟨vs, sql_sub r1 s1⟩, p ι1 F1 H1 _ l1 r1 ⟨_, walk_list, rv⟩⟩
    | tup xs =>
      refine .inr (.inl (base fun ι1 F1 H1 v l1 r1 rv => ?_))
      obtain ⟨a, vs, rfl, s1, ll⟩ := id rv
      exact ⟨a, rfl, ⟨vs, sqt_sub r1 s1⟩, p ι1 F1 H1 _ l1 r1 ⟨_, walk_tup, rv⟩⟩
    | str x =>
      refine .inr (.inr (base fun ι1 F1 H1 v l1 r1 rv => ?_))
      cases rv
      exact ⟨x, rfl, p ι1 F1 H1 _ l1 r1 ⟨_, walk_str, trivial⟩⟩
    | ref i =>
      simp only [srcOf] at p
      split at p
      · rename_i src hsrc
        split at hsrc
        · rename_i xs hM
          cases hsrc
          refine .inl (base fun ι1 F1 H1 v l1 r1 rv => ?_)
          obtain ⟨a, rfl, hi⟩ := id rv
          obtain ⟨_, vs, h2, h3⟩ := r1.obj i _ a hM hi rfl
          exact ⟨a, rfl, ⟨vs, .inl (.inl h2)⟩, p ι1 F1 H1 _ l1 r1 ⟨_, walk_mut, rv⟩⟩
        · cases hsrc
      · exact p.elim
    | _ => exact p.elim
  | er x M1 =>
    refine .inl ⟨ι, F, st, M, r, rS, ?_⟩
    unfold iOf at p
    rw [e] at p ⊢
    exact p
  | bad =>
    unfold iOf at p
    rw [e] at p
    exact p.elim⟩
theorem mid_iff {i : Int} : mid i = true ↔ -(2 ^ 62) ≤ i ∧ i < 2 ^ 62 := by
  unfold mid
  cases i with
  | ofNat n =>
    simp only [Nat.ble_eq, Int.ofNat_eq_natCast]
    omega
  | negSucc n =>
    simp only [Nat.ble_eq, Int.negSucc_eq]
    omega
theorem ki_range1 (hg : Gl X "range") (hm : X.mg "range" = none) (ha : KA X T W [a] α) (hs : isStar a = false) : KI X T W tg (.Call (.Name "range" p) [a] [] pos) (iRange α) := ⟨fun rs => PI.imp (pi_range1 hg hm (ha.pa rs) (by rw [star_cons hs]; rfl)) fun σ H Q h => by
  obtain ⟨ι, F, st, M, r, rS, p⟩ := h
  refine ⟨ι, F, st, M, r, rS, p.stepE fun vs H1 ι1 F1 M1 ds e l1 r1 rv p1 => ?_⟩
  have hl := ha.al _ _ _ _ e
  split at p1
  · split at p1
    · rename_i n hn
      obtain ⟨v, rfl, h1⟩ := one_of rv
      cases h1
      exact ⟨_, rfl, (mid_iff.mp hn).1, (mid_iff.mp hn).2, p1.fin r1 ⟨_, walk_range, trivial⟩⟩
    · exact p1.elim
  · cases hl
  · exact p1.elim⟩
theorem ki_range2 {b : Expr} (hg : Gl X "range") (hm : X.mg "range" = none) (ha : KA X T W [a, b] α) (hs : isStar a = false) (hs2 : isStar b = false) : KI X T W tg (.Call (.Name "range" p) [a, b] [] pos) (iRange α) := ⟨fun rs => PI.imp (pi_range2 hg hm (ha.pa rs) (by rw [star_cons hs, star_cons hs2]; rfl) (by rw [star_cons hs2]; rfl)) fun σ H Q h => by
  obtain ⟨ι, F, st, M, r, rS, p⟩ := h
  refine ⟨ι, F, st, M, r, rS, p.stepE fun vs H1 ι1 F1 M1 ds e l1 r1 rv p1 => ?_⟩
  have hl := ha.al _ _ _ _ e
  split at p1
  · cases hl
  · split at p1
    · rename_i m n hn
      rw [Bool.and_eq_true] at hn
      obtain ⟨v, w, rfl, h1, h2⟩ := two_of rv
      cases h1
      cases h2
      exact ⟨_, _, rfl, ⟨(mid_iff.mp hn.1).1, (mid_iff.mp hn.1).2, (mid_iff.mp hn.2).1, (mid_iff.mp hn.2).2⟩, p1.fin r1 ⟨_, walk_range, trivial⟩⟩
    · exact p1.elim
  · exact p1.elim⟩
end
end LD
namespace LD
open PySem PySem.Spec PyProof.Rows L2

/-! ### targets: names, a row of names -/
abbrev GSem := D → Mem → DS → Option DS
def gNm (i : Nat) : GSem := fun d _ s => some (s.set i (some d))
def setAll {α : Type} : List (Option α) → List Nat → List α → List (Option α)
  | s, i :: is, x :: xs => setAll (s.set i (some x)) is xs
  | s, _, _ => s
def gTp (is : List Nat) : GSem := fun d M s => match sqOf M d with
  | some xs => if xs.length = is.length then some (setAll s is xs) else none
  | none => none
def LGt (K : KX) (rs : List (Addr × HO)) (γ : GSem) (idx : List Nat) : TG := fun v σ H Q => ∃ ι F s M d s', Rel K ι F rs H M ∧ RepS K ι F s σ ∧ Rep K ι F d v ∧ γ d M s = some s' ∧
  ∀ σ', RepS K ι F s' σ' → (∀ vs, (∀ i ∈ idx, i ∈ vs) → wipe σ' vs = wipe σ vs) → Q σ' H
structure KG (X : Cx) (T : Tab) (tg : Expr) (γ : GSem) (idx : List Nat) : Prop where
  pg : ∀ rs, PG X tg (LGt (kx X T) rs γ idx)
theorem PG.imp {X : Cx} {tg : Expr} {t t' : TG} (h : PG X tg t) (i : ∀ v σ H Q, t' v σ H Q → t v σ H Q) : PG X tg t' := ⟨fun pins s σ H v u Q I r q => h.run pins s σ H v u Q I r (i v σ H Q q)⟩
theorem PG.or {X : Cx} {tg : Expr} {t t' : TG} (h : PG X tg t) (h' : PG X tg t') : PG X tg (fun v σ H Q => t v σ H Q ∨ t' v σ H Q) := ⟨fun pins s σ H v u Q I r q => q.elim (h.run pins s σ H v u Q I r) (h'.run pins s σ H v u Q I r)⟩
theorem wipe_in {σ : L2.St} {j : Nat} : ∀ {vs : List Nat}, j ∈ vs → (wipe σ vs)[j]? = (σ[j]?).map fun _ => none
  | v :: vs, h => by
    unfold wipe
    by_cases hv : v = j
    · subst hv
      rw [List.getElem?_set]
      rw [if_pos rfl, wipe_length]
      by_cases hl : v < σ.length
      · rw [if_pos hl, List.getElem?_eq_getElem hl] <;> rfl
      · rw [if_neg hl, List.getElem?_eq_none (Nat.not_lt.mp hl)] <;> rfl
    · rw [List.getElem?_set_ne hv]
      rcases List.mem_cons.mp h with e | h
      · exact absurd e.symm hv
      · exact wipe_in h
theorem wipe_set {σ : L2.St} {i : Nat} {x : Option V} {vs : List Nat} (h : i ∈ vs) : wipe (σ.set i x) vs = wipe σ vs := by
  apply List.ext_getElem?
  intro j
  by_cases hj : j ∈ vs
  · rw [wipe_in hj, wipe_in hj, List.getElem?_set]
    split
    · rename_i e
      subst e
      split
      · rename_i hl
        rw [List.getElem?_eq_getElem hl] <;> rfl
      · rename_i hl
        rw [List.getElem?_eq_none (Nat.not_lt.mp hl)]
    · rfl
  · rw [wipe_out hj, wipe_out hj, List.getElem?_set_ne (fun e => hj (by rw [← e]; exact h))]
section
variable {X : Cx} {T : Tab} {W : WX} {K : KX} {ι : List Addr} {F H : Hp} {M : Mem} {rs : List (Addr × HO)} {s : DS} {σ : L2.St}
theorem RepS.set {i : Nat} {d : D} {v : V} (h : RepS K ι F s σ) (r : Rep K ι F d v) : RepS K ι F (s.set i (some d)) (σ.set i (some v)) :=
  ⟨by rw [List.length_set, List.length_set]; exact h.1, fun j e q => by
    by_cases hj : i = j
    · subst hj
      have hl : i < s.length := by
        have := (List.getElem?_eq_some_iff.mp q).1
        rwa [List.length_set] at this
      rw [List.getElem?_set_self hl] at q
      cases q
      exact ⟨v, List.getElem?_set_self (by rw [h.1]; exact hl), r⟩
    · rw [List.getElem?_set_ne hj] at q
      obtain ⟨u, h1, h2⟩ := h.2 j e q
      exact ⟨u, by rw [List.getElem?_set_ne hj]; exact h1, h2⟩⟩
theorem RepS.setAll : ∀ {is : List Nat} {ds : List D} {vs : List V} {s : DS} {σ : L2.St}, RepS K ι F s σ → RepL K ι F ds vs → RepS K ι F (setAll s is ds) (LD.setAll σ is vs)
  | [], ds, vs, s, σ, h, _ => by
    cases ds <;> cases vs <;> exact h
  | i :: is, [], vs, s, σ, h, r => by
    have e : vs = [] := r
    rw [e]; exact h
  | i :: is, d :: ds, vs, s, σ, h, r => by
    obtain ⟨v, r', rfl, h1, h2⟩ := r
    exact RepS.setAll (is := is) (h.set h1) h2
theorem wipe_setAll : ∀ {is : List Nat} {vs : List V} {σ : L2.St} {ws : List Nat}, (∀ i ∈ is, i ∈ ws) → wipe (LD.setAll σ is vs) ws = wipe σ ws
  | [], vs, σ, ws, _ => by cases vs <;> rfl
  | i :: is, [], σ, ws, _ => rfl
  | i :: is, v :: vs, σ, ws, h => by
    show wipe (LD.setAll (σ.set i (some v)) is vs) ws = wipe σ ws
    rw [wipe_setAll fun j hj => h j (List.mem_cons_of_mem _ hj), wipe_set (h i List.mem_cons_self)]
theorem kg_name {i : Nat} {x : Str} {pos : Pos} (hN : X.N.Nodup) (hi : X.N[i]? = some x) (hx : Loc X.env.scope x) (hf : X.fn x = true ∨ X.env.scope.names.lookup x = some .local) : KG X T (.Name x pos) (gNm i) [i] := ⟨fun rs => PG.imp (pg_name hN hi hx hf) fun v σ H Q h => by
  obtain ⟨ι, F, s, M, d, s', r, rS, rd, e, q⟩ := h
  cases e
  exact q _ (rS.set rd) fun vs hv => wipe_set (hv i (List.mem_singleton.mpr rfl))⟩
/-- names at their places, ready to be stored -/
def NamesOk (X : Cx) : List Expr → List Nat → Prop
  | [], [] => True
  | .Name x _ :: es, i :: is => X.N[i]? = some x ∧ Loc X.env.scope x ∧ (X.fn x = true ∨ X.env.scope.names.lookup x = some .local) ∧ NamesOk X es is
  | _, _ => False
theorem assign_names {env : Env} : ∀ {es : List Expr} {is : List Nat}, NamesOk X es is → (assignEach es env).length = es.length ∧ (assignEach es env).findIdx? (·.1) = none ∧ es.length = is.length
  | [], [], _ => ⟨by simp only [assignEach, List.length_nil], by simp only [assignEach, List.findIdx?_nil], rfl⟩
  | .Name x p :: es, i :: is, h => by
    obtain ⟨a, b, c⟩ := assign_names (env := env) h.2.2.2
    have e : assignEach (.Name x p :: es) env = (false, assign (.Name x p) env) :: assignEach es env := by simp only [assignEach]
    refine ⟨by rw [e, List.length_cons, List.length_cons, a], ?_, by rw [List.length_cons, List.length_cons, c]⟩
    rw [e, List.findIdx?_cons]
    simp only [Bool.false_eq_true, if_false, b, Option.map_none]
  | [], _ :: _, h => h.elim
  | .Name _ _ :: _, [], h => h.elim
theorem pgs_names (hN : X.N.Nodup) : ∀ {es : List Expr} {is : List Nat}, NamesOk X es is → PGs X es (fun vs σ H Q => vs.length = is.length ∧ Q (LD.setAll σ is vs) H)
  | [], [], _ => ⟨fun pins s σ H vs us Q I r h => by
    obtain ⟨e, h⟩ := h
    have e : vs = [] := List.length_eq_zero_iff.mp e
    subst e
    exact pgs_nil.run pins s σ H [] us Q I r ⟨rfl, h⟩⟩
  | .Name x p :: es, i :: is, h => ⟨fun pins s σ H vs us Q I r q => by
    obtain ⟨e, q⟩ := q
    cases vs with
    | nil => cases e
    | cons v vs =>
      exact (pgs_cons (pg_name hN h.1 h.2.1 h.2.2.1) (pgs_names hN h.2.2.2) (by simp only [assignEach, List.map_cons])).run pins s σ H (v :: vs) us Q I r ⟨v, vs, rfl, Nat.succ.inj e, q⟩⟩
  | [], _ :: _, h => h.elim
  | .Name _ _ :: _, [], h => h.elim
theorem kg_tup {es : List Expr} {is : List Nat} {k : Nat} {pos : Pos} (hc : X.calm = true) (hN : X.N.Nodup) (h : NamesOk X es is) : KG X T (.Tuple es k pos) (gTp is) is := ⟨fun rs => by
  obtain ⟨a1, a2, a3⟩ := assign_names (env := X.env) h
  refine PG.imp (PG.or (pg_tup (n := es.length) hc (pgs_names hN h) a1 a2) (pg_lst (n := es.length) hc (pgs_names hN h) a1 a2)) fun v σ H Q h => ?_
  obtain ⟨ι, F, s, M, d, s', r, rS, rd, e, q⟩ := h
  unfold gTp at e
  split at e
  · rename_i xs e1
    split at e
    · rename_i hl
      cases e
      obtain ⟨a, vs, rfl, hs, ll⟩ := sqOf_at r e1 rd
      have z := q _ (rS.setAll (is := is) ll) fun ws hw => wipe_setAll hw
      rcases hs with hs | hs
      · exact .inr ⟨a, vs, rfl, hs, by rw [ll.length, a3]; exact hl, by rw [ll.length]; exact hl, z⟩
      · exact .inl ⟨a, vs, rfl, hs, by rw [ll.length, a3]; exact hl, by rw [ll.length]; exact hl, z⟩
    · cases e
  · cases e⟩
end

/-! ### statements -/
inductive RS where
  | nx (s : DS) (M : Mem) | rt (d : D) (M : Mem) | bk (s : DS) (M : Mem) | ct (s : DS) (M : Mem) | er (x : Exn) (s : DS) (M : Mem) | bad
abbrev SSem := DS → Mem → RS
def bindS {α : Type} (r : R α) (s : DS) (k : α → Mem → RS) : RS := match r with
  | .ok a M => k a M
  | .er x M => .er x s M
  | .bad => .bad
@[simp] theorem bindS_ok {α : Type} {a : α} {M : Mem} {s : DS} {k : α → Mem → RS} : bindS (.ok a M) s k = k a M := rfl
@[simp] theorem bindS_er {α : Type} {x : Exn} {M : Mem} {s : DS} {k : α → Mem → RS} : bindS (.er x M : R α) s k = .er x s M := rfl
def SPost (K : KX) (rs : List (Addr × HO)) (ι : List Addr) (F : Hp) (W : WX) (D : Ends) : RS → Prop
  | .nx s' M' => ∀ ι' F' H' σ', Le K ι F ι' F' → Rel K ι' F' rs H' M' → RepS K ι' F' s' σ' → D.nx σ' H'
  | .rt d M' => ∀ ι' F' H' v, Le K ι F ι' F' → Rel K ι' F' rs H' M' → Rep K ι' F' d v → D.rt v H'
  | .bk s' M' => ∀ ι' F' H' σ', Le K ι F ι' F' → Rel K ι' F' rs H' M' → RepS K ι' F' s' σ' → D.bk σ' H'
  | .ct s' M' => ∀ ι' F' H' σ', Le K ι F ι' F' → Rel K ι' F' rs H' M' → RepS K ι' F' s' σ' → D.ct σ' H'
  | .er x s' M' => ∀ ι' F' H' σ' cls dx, Le K ι F ι' F' → Rel K ι' F' rs H' M' → RepS K ι' F' s' σ' → RepX K ι' F' x cls dx → W cls dx σ' H'
  | .bad => False
def LS (K : KX) (rs : List (Addr × HO)) (W : WX) (ψ : SSem) : TS := fun D σ H => ∃ ι F s M, Rel K ι F rs H M ∧ RepS K ι F s σ ∧ SPost K rs ι F W D (ψ s M)
structure KS (X : Cx) (T : Tab) (W : WX) (st : Stmt) (ψ : SSem) : Prop where
  ps : ∀ rs, PS X st (LS (kx X T) rs W ψ)
structure KB (X : Cx) (T : Tab) (W : WX) (st : List Stmt) (ψ : SSem) : Prop where
  ps : ∀ rs, PSs X st (LS (kx X T) rs W ψ)
section
variable {X : Cx} {T : Tab} {W : WX} {K : KX} {ι ι' : List Addr} {F F' H : Hp} {M : Mem} {rs : List (Addr × HO)} {s : DS} {σ : L2.St} {D : Ends}
theorem SPost.le {r : RS} (l : Le K ι F ι' F') (h : SPost K rs ι F W D r) : SPost K rs ι' F' W D r := by
  cases r with
  | nx s' M' => exact fun a b c d l2 => h a b c d (l.trans l2)
  | rt s' M' => exact fun a b c d l2 => h a b c d (l.trans l2)
  | bk s' M' => exact fun a b c d l2 => h a b c d (l.trans l2)
  | ct s' M' => exact fun a b c d l2 => h a b c d (l.trans l2)
  | er x s' M' => exact fun a b c d e f l2 => h a b c d e f (l.trans l2)
  | bad => exact h
theorem SPost.step {α β : Type} {rep : List Addr → Hp → α → β → Prop} {Q : β → Hp → Prop} {r : R α} {k : α → Mem → RS} (h : SPost K rs ι F W D (bindS r s k)) (rS : RepS K ι F s σ)
    (f : ∀ v H' ι' F' M' a, r = .ok a M' → Le K ι F ι' F' → Rel K ι' F' rs H' M' → rep ι' F' a v → SPost K rs ι' F' W D (k a M') → Q v H') : Post K rs rep ι F (fun c d => W c d σ) Q r := by
  cases r with
  | ok a M1 => exact fun ι1 F1 H1 v l r1 ra => f v H1 ι1 F1 M1 a rfl l r1 ra (SPost.le l h)
  | er x M1 => exact fun ι1 F1 H1 c d l r1 rx => h ι1 F1 H1 σ c d l r1 (rS.le l) rx
  | bad => exact h
/-- the ends are changed -/
theorem SPost.ends {D' : Ends} {r : RS} {r' : RS} (h : SPost K rs ι F W D r') (f : SPost K rs ι F W D r' → SPost K rs ι F W D' r) : SPost K rs ι F W D' r := f h

/-! the statements -/
variable {e tg iter : Expr} {st : Stmt} {body rest orelse : List Stmt} {φ : Sem1 LD.D} {τ : Sem1 Bool} {γ : GSem} {ψ χ : SSem} {pos : Pos} {idx : List Nat}
def sNext : SSem := fun s M => .nx s M
def sSeq (a b : SSem) : SSem := fun s M => match a s M with
  | .nx s' M' => b s' M'
  | r => r
def sExpr (a : Sem1 LD.D) : SSem := fun s M => bindS (a s M) s fun _ M' => .nx s M'
def sRet (a : Sem1 LD.D) : SSem := fun s M => bindS (a s M) s fun d M' => .rt d M'
def sRetN : SSem := fun _ M => .rt .non M
def sIf (t : Sem1 Bool) (a b : SSem) : SSem := fun s M => bindS (t s M) s fun k M' => if k then a s M' else b s M'
def sBk : SSem := fun s M => .bk s M
def sCt : SSem := fun s M => .ct s M
def sAsg (γ : GSem) (a : Sem1 LD.D) : SSem := fun s M => bindS (a s M) s fun d M' => match γ d M' s with
  | some s' => .nx s' M'
  | none => .bad
theorem PS.run' {t : TS} (h : PS X st t) : PS X st t := h
theorem b_nil : KB X T W [] sNext := ⟨fun rs => PSs.imp pss_nil fun D σ H h => by
  obtain ⟨ι, F, s, M, r, rS, p⟩ := h
  exact p ι F H σ Le.refl r rS⟩
theorem b_cons (h1 : KS X T W st ψ) (h2 : KB X T W rest χ) : KB X T W (st :: rest) (sSeq ψ χ) := ⟨fun rs => PSs.imp (pss_cons (h1.ps rs) (h2.ps rs)) fun D σ H h => by
  obtain ⟨ι, F, s, M, r, rS, p⟩ := h
  refine ⟨ι, F, s, M, r, rS, ?_⟩
  unfold sSeq at p
  cases e : ψ s M with
  | nx s' M' =>
    rw [e] at p
    exact fun ι1 F1 H1 σ1 l1 r1 rs1 => ⟨ι1, F1, s', M', r1, rs1, SPost.le l1 p⟩
  | rt d M' => rw [e] at p; exact p
  | bk s' M' => rw [e] at p; exact p
  | ct s' M' => rw [e] at p; exact p
  | er x s' M' => rw [e] at p; exact p
  | bad => rw [e] at p; exact p⟩
theorem s_pass : KS X T W (.Pass pos) sNext := ⟨fun rs => PS.imp ps_pass fun D σ H h => by
  obtain ⟨ι, F, s, M, r, rS, p⟩ := h
  exact p ι F H σ Le.refl r rS⟩
theorem s_break : KS X T W (.Break pos) sBk := ⟨fun rs => PS.imp ps_break fun D σ H h => by
  obtain ⟨ι, F, s, M, r, rS, p⟩ := h
  exact p ι F H σ Le.refl r rS⟩
theorem s_continue : KS X T W (.Continue pos) sCt := ⟨fun rs => PS.imp ps_continue fun D σ H h => by
  obtain ⟨ι, F, s, M, r, rS, p⟩ := h
  exact p ι F H σ Le.refl r rS⟩
theorem s_expr (he : KE X T W e φ) (hs : swapsWith e none pos.line X.env = pure false) : KS X T W (.Expr e pos) (sExpr φ) := ⟨fun rs => PS.imp (ps_expr (he rs) hs) fun D σ H h => by
  obtain ⟨ι, F, s, M, r, rS, p⟩ := h
  exact ⟨ι, F, s, M, r, rS, p.step rS fun v H1 ι1 F1 M1 d _ l1 r1 rv p1 => p1 ι1 F1 H1 σ Le.refl r1 (rS.le l1)⟩⟩
theorem s_ret (he : KE X T W e φ) : KS X T W (.Return (some e) pos) (sRet φ) := ⟨fun rs => PS.imp (ps_ret (he rs)) fun D σ H h => by
  obtain ⟨ι, F, s, M, r, rS, p⟩ := h
  exact ⟨ι, F, s, M, r, rS, p.step rS fun v H1 ι1 F1 M1 d _ l1 r1 rv p1 => p1 ι1 F1 H1 v Le.refl r1 rv⟩⟩
theorem s_retN : KS X T W (.Return none pos) sRetN := ⟨fun rs => PS.imp ps_retN fun D σ H h => by
  obtain ⟨ι, F, s, M, r, rS, p⟩ := h
  exact p ι F H .non Le.refl r rfl⟩
theorem s_if (hc : KT X T W e τ) (ha : KB X T W body ψ) (hb : KB X T W orelse χ) : KS X T W (.If e body orelse pos) (sIf τ ψ χ) := ⟨fun rs => PS.imp (ps_if (hc rs) (ha.ps rs) (hb.ps rs)) fun D σ H h => by
  obtain ⟨ι, F, s, M, r, rS, p⟩ := h
  refine ⟨ι, F, s, M, r, rS, p.step rS fun v H1 ι1 F1 M1 k _ l1 r1 rv p1 => ?_⟩
  have rv' : v = k := rv
  subst rv'
  cases v with
  | true => exact iteT ⟨ι1, F1, s, M1, r1, rS.le l1, p1⟩
  | false => exact iteF ⟨ι1, F1, s, M1, r1, rS.le l1, p1⟩⟩
/-- what was told of the value, then its store -/
theorem asg_core (h : LS (kx X T) rs W (sAsg γ φ) D σ H) : LE (kx X T) rs W φ σ H fun v H1 => LGt (kx X T) rs γ idx v σ H1 D.nx := by
  obtain ⟨ι, F, s, M, r, rS, p⟩ := h
  refine ⟨ι, F, s, M, r, rS, p.step rS fun v H1 ι1 F1 M1 d _ l1 r1 rv p1 => ?_⟩
  split at p1
  · rename_i s' e
    exact ⟨ι1, F1, s, M1, d, s', r1, rS.le l1, rv, e, fun σ' rs' _ => p1 ι1 F1 H1 σ' Le.refl r1 rs'⟩
  · exact p1.elim
theorem s_asg (he : KE X T W e φ) (hg : KG X T tg γ idx) (hs : swapsWithSole [tg] e pos.line X.env = pure false) (hw : swappedStores [tg] e X.env = pure none) (h1 : (assignEach [tg] X.env).map (·.2) = [assign tg X.env]) :
    KS X T W (.Assign [tg] e pos) (sAsg γ φ) := ⟨fun rs => PS.imp (ps_asg (he rs) (hg.pg rs) hs hw h1) fun D σ H h => asg_core h⟩

/-! ### for -/
def forV (chk : Mem → Bool) (γ : GSem) (ψ : SSem) : List LD.D → SSem
  | [], s, M => if chk M then .nx s M else .bad
  | x :: xs, s, M => if chk M then (match γ x M s with
    | some s1 => match ψ s1 M with
      | .nx s2 M2 => forV chk γ ψ xs s2 M2
      | .ct s2 M2 => forV chk γ ψ xs s2 M2
      | .bk s2 M2 => .nx s2 M2
      | r => r
    | none => .bad) else .bad
def sFor (χ : Sem1 Src) (γ : GSem) (ψ : SSem) : SSem := fun s M => bindS (χ s M) s fun src M1 => forV src.chk γ ψ src.xs s M1
theorem s_for {χ : Sem1 Src} (hp : PassesOwn (model X.prog X.w) X.A X.env X.xe) (hc : X.calm = true) (hi : KI X T W tg iter χ) (hg : KG X T tg γ idx) (hb : KB X T W body ψ) (hs : ∀ x, foldedSetIterable iter X.env x = pure x) :
    KS X T W (.For tg iter body [] pos) (sFor χ γ ψ) := ⟨fun rs => PS.imp (ps_for hp hc (hi.pi rs) (hg.pg rs) (hb.ps rs) hs) fun D σ H h => by
  obtain ⟨ι, F, s, M, r, rS, p⟩ := h
  refine ⟨ι, F, s, M, r, rS, p.step rS fun J H1 ι1 F1 M1 src _ l1 r1 rj p1 => ?_⟩
  obtain ⟨okp, w, ok⟩ := rj
  refine ⟨fun i m σ' H' => m = src.xs.length - i ∧ i ≤ src.xs.length ∧ ∃ ι2 F2 s2 M2, okp ι2 F2 ∧ Rel (kx X T) ι2 F2 rs H' M2 ∧ RepS (kx X T) ι2 F2 s2 σ' ∧ SPost (kx X T) rs ι2 F2 W D (forV src.chk γ ψ (src.xs.drop i) s2 M2),
    ⟨_, rfl, Nat.zero_le _, ι1, F1, s, M1, ok, r1, rS.le l1, by rw [List.drop_zero]; exact p1⟩, ?_⟩
  rintro i m σ' H' ⟨rfl, hi, ι2, F2, s2, M2, ok2, r2, rS2, p2⟩
  by_cases hlt : i < src.xs.length
  · rw [List.drop_eq_getElem_cons hlt] at p2
    unfold forV at p2
    split at p2
    · rename_i hch
      refine .inr ⟨w.go ok2 r2 hch hlt, fun σ3 H3 => ∃ m', m' < src.xs.length - i ∧ (m' = src.xs.length - (i + 1) ∧ i + 1 ≤ src.xs.length ∧ ∃ ι4 F4 s4 M4, okp ι4 F4 ∧ Rel (kx X T) ι4 F4 rs H3 M4 ∧ RepS (kx X T) ι4 F4 s4 σ3 ∧ SPost (kx X T) rs ι4 F4 W D (forV src.chk γ ψ (src.xs.drop (i + 1)) s4 M4)),
        fun σ3 H3 ⟨m', hm, z⟩ => ⟨m', hm, z⟩, fun x H3 y => ?_⟩
      obtain ⟨ι3, F3, l3, r3, rx⟩ := w.yld ok2 r2 hch (List.getElem?_eq_getElem hlt) y
      split at p2
      · rename_i s3 eg
        refine ⟨ι3, F3, s2, M2, _, s3, r3, rS2.le l3, rx, eg, fun σ4 rs4 _ => ⟨ι3, F3, s3, M2, r3, rs4, ?_⟩⟩
        have go : ∀ {ι5 F5 H5 σ5 s5 M5}, Le (kx X T) ι3 F3 ι5 F5 → Rel (kx X T) ι5 F5 rs H5 M5 → RepS (kx X T) ι5 F5 s5 σ5 → SPost (kx X T) rs ι2 F2 W D (forV src.chk γ ψ (src.xs.drop (i + 1)) s5 M5) →
            ∃ m', m' < src.xs.length - i ∧ (m' = src.xs.length - (i + 1) ∧ i + 1 ≤ src.xs.length ∧ ∃ ι4 F4 s4 M4, okp ι4 F4 ∧ Rel (kx X T) ι4 F4 rs H5 M4 ∧ RepS (kx X T) ι4 F4 s4 σ5 ∧ SPost (kx X T) rs ι4 F4 W D (forV src.chk γ ψ (src.xs.drop (i + 1)) s4 M4)) :=
          fun l5 r5 rs5 p5 => ⟨src.xs.length - (i + 1), by omega, rfl, hlt, _, _, _, _, w.mono (l3.trans l5) ok2, r5, rs5, SPost.le (l3.trans l5) p5⟩
        cases eb : ψ s3 M2 with
        | nx s5 M5 => rw [eb] at p2; exact fun ι5 F5 H5 σ5 l5 r5 rs5 => go l5 r5 rs5 p2
        | ct s5 M5 => rw [eb] at p2; exact fun ι5 F5 H5 σ5 l5 r5 rs5 => go l5 r5 rs5 p2
        | bk s5 M5 => rw [eb] at p2; exact fun ι5 F5 H5 σ5 l5 r5 rs5 => p2 ι5 F5 H5 σ5 (l3.trans l5) r5 rs5
        | rt d M5 => rw [eb] at p2; exact fun ι5 F5 H5 v l5 r5 rv5 => p2 ι5 F5 H5 v (l3.trans l5) r5 rv5
        | er x s5 M5 => rw [eb] at p2; exact fun ι5 F5 H5 σ5 c d l5 r5 rs5 rx5 => p2 ι5 F5 H5 σ5 c d (l3.trans l5) r5 rs5 rx5
        | bad => rw [eb] at p2; exact p2
      · exact p2.elim
    · exact p2.elim
  · have ei : i = src.xs.length := by omega
    subst ei
    rw [List.drop_length] at p2
    unfold forV at p2
    split at p2
    · rename_i hch
      exact .inl ⟨w.stop ok2 r2 hch, p2 ι2 F2 H' σ' Le.refl r2 rS2⟩
    · exact p2.elim⟩

/-! ### while: at most n turns -/
def whileN (τ : Sem1 Bool) (ψ : SSem) : Nat → SSem
  | 0, _, _ => .bad
  | n + 1, s, M => bindS (τ s M) s fun k M1 => if k then (match ψ s M1 with
    | .nx s2 M2 => whileN τ ψ n s2 M2
    | .ct s2 M2 => whileN τ ψ n s2 M2
    | .bk s2 M2 => .nx s2 M2
    | r => r) else .nx s M1
theorem s_while {n : Nat} (hp : PassesOwn (model X.prog X.w) X.A X.env X.xe) (hc : KT X T W e τ) (hb : KB X T W body ψ) : KS X T W (.While e body [] pos) (whileN τ ψ n) := ⟨fun rs => PS.imp (ps_while hp (hc rs) (hb.ps rs)) fun D σ H h => by
  obtain ⟨ι, F, s, M, r, rS, p⟩ := h
  refine ⟨fun m σ' H' => ∃ ι2 F2 s2 M2, Rel (kx X T) ι2 F2 rs H' M2 ∧ RepS (kx X T) ι2 F2 s2 σ' ∧ SPost (kx X T) rs ι2 F2 W D (whileN τ ψ m s2 M2), ⟨n, ι, F, s, M, r, rS, p⟩, ?_⟩
  rintro m σ' H' ⟨ι2, F2, s2, M2, r2, rS2, p2⟩
  cases m with
  | zero => exact p2.elim
  | succ m =>
    unfold whileN at p2
    refine ⟨ι2, F2, s2, M2, r2, rS2, p2.step rS2 fun v H3 ι3 F3 M3 k _ l3 r3 rv p3 => ?_⟩
    have rv' : v = k := rv
    subst rv'
    cases v with
    | false => exact iteF (p3 ι3 F3 H3 σ' Le.refl r3 (rS2.le l3))
    | true =>
      refine iteT ⟨fun σ5 H5 => ∃ ι4 F4 s4 M4, Rel (kx X T) ι4 F4 rs H5 M4 ∧ RepS (kx X T) ι4 F4 s4 σ5 ∧ SPost (kx X T) rs ι4 F4 W D (whileN τ ψ m s4 M4), fun σ5 H5 z => ⟨m, Nat.lt_succ_self _, z⟩, ι3, F3, s2, M3, r3, rS2.le l3, ?_⟩
      rw [if_pos rfl] at p3
      cases eb : ψ s2 M3 with
      | nx s5 M5 => rw [eb] at p3; exact fun ι5 F5 H5 σ5 l5 r5 rs5 => ⟨ι5, F5, s5, M5, r5, rs5, SPost.le l5 p3⟩
      | ct s5 M5 => rw [eb] at p3; exact fun ι5 F5 H5 σ5 l5 r5 rs5 => ⟨ι5, F5, s5, M5, r5, rs5, SPost.le l5 p3⟩
      | bk s5 M5 => rw [eb] at p3; exact fun ι5 F5 H5 σ5 l5 r5 rs5 => p3 ι5 F5 H5 σ5 l5 r5 rs5
      | rt d M5 => rw [eb] at p3; exact fun ι5 F5 H5 v l5 r5 rv5 => p3 ι5 F5 H5 v l5 r5 rv5
      | er x s5 M5 => rw [eb] at p3; exact fun ι5 F5 H5 σ5 c d l5 r5 rs5 rx5 => p3 ι5 F5 H5 σ5 c d l5 r5 rs5 rx5
      | bad => rw [eb] at p3; exact p3⟩
end
end LD
namespace LD
open PySem PySem.Spec PyProof.Rows L2

section
variable {K : KX} {ι : List Addr} {F H : Hp} {M : Mem} {rs : List (Addr × HO)} {p : Addr} {o o' : HO}
theorem Rel.reserve (r : Rel K ι F rs H M) (h : H p = none) : Rel K ι F ((p, o) :: rs) (upd H p o) M where
  len := r.len
  sub := fun b u e => by
    have hb : b ≠ p := ne_of_none (r.sub _ _ e) h
    rw [upd_ne hb]; exact r.sub _ _ e
  obj := fun i u a h1 h2 h3 => by
    obtain ⟨f0, ro⟩ := r.obj i u a h1 h2 h3
    have hap : a ≠ p := fun e => by
      obtain ⟨x, hx⟩ := ro.some h3
      rw [e, h] at hx
      cases hx
    exact ⟨f0, ro.at (upd_ne hap)⟩
  inj := r.inj
  there := fun i a e => by
    obtain ⟨x, hx⟩ := r.there i a e
    exact ⟨x, by rw [upd_ne (ne_of_none hx h)]; exact hx⟩
  rsv := fun q hq => by
    rcases List.mem_cons.mp hq with rfl | hq
    · refine ⟨upd_same, r.free h, fun i e => ?_⟩
      obtain ⟨x, hx⟩ := r.there i _ e
      rw [h] at hx
      cases hx
    · obtain ⟨r1, r2, r3⟩ := r.rsv q hq
      exact ⟨by rw [upd_ne (ne_of_none r1 h)]; exact r1, r2, r3⟩
theorem Rel.rewr (r : Rel K ι F ((p, o) :: rs) H M) (hp : ∀ q ∈ rs, q.1 ≠ p) : Rel K ι F ((p, o') :: rs) (upd H p o') M where
  len := r.len
  sub := fun b u e => by
    have hb : b ≠ p := fun q => by
      rw [q, (r.rsv _ List.mem_cons_self).2.1] at e
      cases e
    rw [upd_ne hb]; exact r.sub _ _ e
  obj := fun i u a h1 h2 h3 => by
    obtain ⟨f0, ro⟩ := r.obj i u a h1 h2 h3
    have hap : a ≠ p := fun e => (r.rsv _ List.mem_cons_self).2.2 i (by rw [← e]; exact h2)
    exact ⟨f0, ro.at (upd_ne hap)⟩
  inj := r.inj
  there := fun i a e => by
    obtain ⟨x, hx⟩ := r.there i a e
    have hap : a ≠ p := fun z => (r.rsv _ List.mem_cons_self).2.2 i (by rw [← z]; exact e)
    exact ⟨x, by rw [upd_ne hap]; exact hx⟩
  rsv := fun q hq => by
    rcases List.mem_cons.mp hq with rfl | hq
    · obtain ⟨r1, r2, r3⟩ := r.rsv _ List.mem_cons_self
      exact ⟨upd_same, r2, r3⟩
    · obtain ⟨r1, r2, r3⟩ := r.rsv q (List.mem_cons_of_mem _ hq)
      exact ⟨by rw [upd_ne (hp q hq)]; exact r1, r2, r3⟩
theorem Rel.unresF (r : Rel K ι F ((p, o) :: rs) H M) (hp : ∀ q ∈ rs, q.1 ≠ p) : Rel K ι (upd F p o) rs H M where
  len := r.len
  sub := fun b u e => by
    by_cases hb : b = p
    · subst hb
      rw [upd_same] at e
      rw [← e]
      exact (r.rsv _ List.mem_cons_self).1
    · rw [upd_ne hb] at e
      exact r.sub _ _ e
  obj := fun i u a h1 h2 h3 => by
    obtain ⟨f0, ro⟩ := r.obj i u a h1 h2 h3
    have hap : a ≠ p := fun e => (r.rsv _ List.mem_cons_self).2.2 i (by rw [← e]; exact h2)
    exact ⟨by rw [upd_ne hap]; exact f0, ro.le (Le.new (r.rsv _ List.mem_cons_self).2.1)⟩
  inj := r.inj
  there := r.there
  rsv := fun q hq => by
    obtain ⟨r1, r2, r3⟩ := r.rsv q (List.mem_cons_of_mem _ hq)
    exact ⟨r1, by rw [upd_ne (hp q hq)]; exact r2, r3⟩
theorem Rel.unresM (r : Rel K ι F ((p, o) :: rs) H M) (hp : ∀ q ∈ rs, q.1 ≠ p) {u : DO} (ho : RepO K (ι ++ [p]) F H p u) : Rel K (ι ++ [p]) F rs H (M ++ [u]) where
  len := by rw [List.length_append, List.length_append, r.len] <;> rfl
  sub := r.sub
  obj := fun i v a h1 h2 h3 => by
    by_cases hi : i < M.length
    · rw [List.getElem?_append_left hi] at h1
      rw [List.getElem?_append_left (by rw [r.len]; exact hi)] at h2
      obtain ⟨f0, ro⟩ := r.obj i v a h1 h2 h3
      exact ⟨f0, ro.le Le.push⟩
    · have hl : i < (M ++ [u]).length := (List.getElem?_eq_some_iff.mp h1).1
      have hi' : i = M.length := by rw [List.length_append, List.length_singleton] at hl; omega
      subst hi'
      have e1 : u = v := by simpa using h1
      rw [← r.len] at h2
      have e2 : p = a := by simpa using h2
      subst e1; subst e2
      exact ⟨(r.rsv _ List.mem_cons_self).2.1, ho⟩
  inj := fun i j a h1 h2 => by
    have old : ∀ (k : Nat), k < M.length → (ι ++ [p])[k]? = some a → ι[k]? = some a ∧ a ≠ p := fun k hk q => by
      rw [List.getElem?_append_left (by rw [r.len]; exact hk)] at q
      exact ⟨q, fun z => (r.rsv _ List.mem_cons_self).2.2 k (by rw [← z]; exact q)⟩
    have last : ∀ (k : Nat), ¬ k < M.length → (ι ++ [p])[k]? = some a → k = M.length ∧ a = p := fun k hk q => by
      have hl : k < (ι ++ [p]).length := (List.getElem?_eq_some_iff.mp q).1
      have hk' : k = M.length := by rw [List.length_append, List.length_singleton, r.len] at hl; omega
      rw [hk', ← r.len] at q
      have q' : p = a := by simpa using q
      exact ⟨hk', q'.symm⟩
    by_cases hi : i < M.length
    · obtain ⟨q1, na⟩ := old i hi h1
      by_cases hj : j < M.length
      · exact r.inj i j a q1 (old j hj h2).1
      · exact absurd (last j hj h2).2 na
    · obtain ⟨ei, ea⟩ := last i hi h1
      by_cases hj : j < M.length
      · exact absurd ea (old j hj h2).2
      · rw [ei, (last j hj h2).1]
  there := fun i a e => by
    by_cases hi : i < M.length
    · rw [List.getElem?_append_left (by rw [r.len]; exact hi)] at e
      exact r.there i a e
    · have hl : i < (ι ++ [p]).length := (List.getElem?_eq_some_iff.mp e).1
      have hk' : i = M.length := by rw [List.length_append, List.length_singleton, r.len] at hl; omega
      rw [hk', ← r.len] at e
      have q' : p = a := by simpa using e
      exact ⟨o, by rw [← q']; exact (r.rsv _ List.mem_cons_self).1⟩
  rsv := fun q hq => by
    obtain ⟨r1, r2, r3⟩ := r.rsv q (List.mem_cons_of_mem _ hq)
    refine ⟨r1, r2, fun i e => ?_⟩
    by_cases hi : i < M.length
    · rw [List.getElem?_append_left (by rw [r.len]; exact hi)] at e
      exact r3 i e
    · have hl : i < (ι ++ [p]).length := (List.getElem?_eq_some_iff.mp e).1
      have hk' : i = M.length := by rw [List.length_append, List.length_singleton, r.len] at hl; omega
      rw [hk', ← r.len] at e
      have q' : p = q.1 := by simpa using e
      exact hp q hq q'.symm
end

/-! ### list comprehensions -/
def WN : WX := fun _ _ _ _ => False
def wipeD (s : DS) : List Nat → DS
  | [] => s
  | v :: vs => (wipeD s vs).set v none
def compV (chk : Mem → Bool) (γ : GSem) (τ : Sem1 Bool) (φ : Sem1 D) (s : DS) : List D → Mem → R (List D)
  | [], M => if chk M then .ok [] M else .bad
  | x :: xs, M => if chk M then (match γ x M s with
    | some s1 => match τ s1 M with
      | .ok b M1 => if b then (match φ s1 M1 with
        | .ok y M2 => (compV chk γ τ φ s xs M2).bind fun ys M3 => .ok (y :: ys) M3
        | _ => .bad) else compV chk γ τ φ s xs M1
      | _ => .bad
    | none => .bad) else .bad
def finL (mu : Bool) (xs : List D) (M : Mem) : R D := .ok (newL mu xs M).1 (newL mu xs M).2
def eComp (mu : Bool) (χ : Sem1 Src) (γ : GSem) (τ : Sem1 Bool) (φ : Sem1 D) (own : List Nat) : Sem1 D := fun s M => (χ s M).bind fun src M1 => if src.xs.length ≤ LINE then (compV src.chk γ τ φ (wipeD s own) src.xs M1).bind fun ys M2 => finL mu ys M2 else .bad
def tTrue : Sem1 Bool := fun _ M => .ok true M
structure KTs (X : Cx) (T : Tab) (W : WX) (ifs : List Expr) (τ : Sem1 Bool) : Prop where
  pt : ∀ rs, PTs X ifs (LT (kx X T) rs W τ)
section
variable {X : Cx} {T : Tab} {W : WX} {K : KX} {ι ι' : List Addr} {F F' H : Hp} {M : Mem} {rs : List (Addr × HO)} {s : DS} {σ : L2.St}
theorem RepS.unset {i : Nat} (h : RepS K ι F s σ) : RepS K ι F (s.set i none) (σ.set i none) :=
  ⟨by rw [List.length_set, List.length_set]; exact h.1, fun j e q => by
    by_cases hj : i = j
    · subst hj
      have hl : i < s.length := by
        have := (List.getElem?_eq_some_iff.mp q).1
        rwa [List.length_set] at this
      rw [List.getElem?_set_self hl] at q
      cases q
    · rw [List.getElem?_set_ne hj] at q
      obtain ⟨u, h1, h2⟩ := h.2 j e q
      exact ⟨u, by rw [List.getElem?_set_ne hj]; exact h1, h2⟩⟩
theorem RepS.wipe (h : RepS K ι F s σ) : ∀ vs : List Nat, RepS K ι F (wipeD s vs) (L2.wipe σ vs)
  | [] => h
  | v :: vs => (h.wipe vs).unset
theorem wipe_wipe {vs : List Nat} : L2.wipe (L2.wipe σ vs) vs = L2.wipe σ vs := by
  apply List.ext_getElem?
  intro j
  by_cases hj : j ∈ vs
  · rw [wipe_in hj, wipe_in hj]
    cases σ[j]? <;> rfl
  · rw [wipe_out hj]
theorem kts_nil : KTs X T W [] tTrue := ⟨fun rs => ⟨fun pins s σ H Q I h => by
  obtain ⟨ι, F, st, M, r, rS, p⟩ := h
  exact pts_nil.run pins s σ H Q I (p.fin r rfl)⟩⟩
theorem kts_one {c : Expr} {τ : Sem1 Bool} (h : KT X T W c τ) : KTs X T W [c] τ := ⟨fun rs => pts_one (h rs)⟩
theorem finL_at {mu : Bool} {ds : List D} {vs : List V} {D : Addr} {Q : VK} {W' : Value → Option Addr → Hp → Prop} (r : Rel K ι F ((D, .lst vs) :: rs) H M) (hp : ∀ q ∈ rs, q.1 ≠ D) (rv : RepL K ι F ds vs) (p : Post K rs (repD K) ι F W' Q (finL mu ds M)) : Q (.ref D) H := by
  have h0 := (r.rsv _ List.mem_cons_self).1
  cases mu with
  | true =>
    exact p (ι ++ [D]) F H _ Le.push (r.unresM hp (u := .lst ds) ⟨vs, h0, RepL.le Le.push rv⟩) ⟨D, rfl, by rw [← r.len]; simp⟩
  | false =>
    exact p ι (upd F D (.lst vs)) H _ (Le.new (r.rsv _ List.mem_cons_self).2.1) (r.unresF hp) ⟨D, vs, rfl, .inl (.inl upd_same), RepL.le (Le.new (r.rsv _ List.mem_cons_self).2.1) rv⟩
abbrev exE (f : List (Addr × HO) → TE) : TE := fun σ H Q => ∃ rs, f rs σ H Q
theorem lc_sem {mu : Bool} {χ : Sem1 Src} {γ : GSem} {idx : List Nat} {τ : Sem1 Bool} {φ : Sem1 LD.D} {own : List Nat} {Q : VK} (hsub : ∀ i ∈ idx, i ∈ own) (h : LE K rs W (eComp mu χ γ τ φ own) σ H Q) :
    tLc (LG K rs (repI K) W χ) (fun v σ H Q => ∃ rs, LGt K rs γ idx v σ H Q) (fun σ H Q => ∃ rs, LT K rs WN τ σ H Q) (fun σ H Q => ∃ rs, LE K rs WN φ σ H Q) own σ H Q := by
  obtain ⟨ι, F, s, M, r, rS, p⟩ := h
  refine ⟨ι, F, s, M, r, rS, p.step fun J H1 ι1 F1 M1 src l1 r1 rj p1 => ?_⟩
  obtain ⟨okp, w, ok⟩ := rj
  split at p1
  · rename_i hlen
    intro D hD
    have hp : ∀ q ∈ rs, q.1 ≠ D := fun q hq e => by
      have z := (r1.rsv q hq).1
      rw [e, hD] at z
      cases z
    refine ⟨fun i m H' => m = src.xs.length - i ∧ i ≤ src.xs.length ∧ ∃ ι2 F2 M2 ds vs, okp ι2 F2 ∧ ds.length ≤ i ∧ Rel K ι2 F2 ((D, .lst vs) :: rs) H' M2 ∧ RepL K ι2 F2 ds vs ∧ RepS K ι2 F2 (wipeD s own) (L2.wipe σ own) ∧
      Post K rs (repD K) ι2 F2 (fun c d => W c d σ) Q ((compV src.chk γ τ φ (wipeD s own) (src.xs.drop i) M2).bind fun ys M3 => finL mu (ds ++ ys) M3),
      ⟨_, rfl, Nat.zero_le _, ι1, F1, M1, [], [], ok, Nat.le_refl _, r1.reserve hD, rfl, (rS.le l1).wipe own, by rw [List.drop_zero]; exact p1⟩, ?_⟩
    rintro i m H' ⟨rfl, hi, ι2, F2, M2, ds, vs, ok2, hz, r2, rv2, rS2, p2⟩
    by_cases hlt : i < src.xs.length
    · rw [List.drop_eq_getElem_cons hlt] at p2
      rw [compV] at p2
      cases hch : src.chk M2 with
      | false => rw [hch, if_neg Bool.false_ne_true] at p2; exact p2.elim
      | true =>
        rw [hch, if_pos rfl] at p2
        refine .inr ⟨w.go ok2 r2 hch hlt, fun H3 => ∃ m', m' < src.xs.length - i ∧ (m' = src.xs.length - (i + 1) ∧ (i + 1) ≤ src.xs.length ∧ ∃ ι2 F2 M2 ds vs, okp ι2 F2 ∧ ds.length ≤ (i + 1) ∧ Rel K ι2 F2 ((D, .lst vs) :: rs) H3 M2 ∧ RepL K ι2 F2 ds vs ∧ RepS K ι2 F2 (wipeD s own) (L2.wipe σ own) ∧
          Post K rs (repD K) ι2 F2 (fun c d => W c d σ) Q ((compV src.chk γ τ φ (wipeD s own) (src.xs.drop (i + 1)) M2).bind fun ys M3 => finL mu (ds ++ ys) M3)), fun H3 z => z, fun x H3 y => ?_⟩
        obtain ⟨ι3, F3, l3, r3, rx⟩ := w.yld ok2 r2 hch (List.getElem?_eq_getElem hlt) y
        cases eg : γ src.xs[i] M2 (wipeD s own) with
        | none => rw [eg] at p2; exact p2.elim
        | some s3 =>
          rw [eg] at p2
          simp only at p2
          refine ⟨_, ι3, F3, wipeD s own, M2, _, s3, r3, rS2.le l3, rx, eg, fun σ4 rs4 hw => ⟨(hw own hsub).trans wipe_wipe, ?_⟩⟩
          refine ⟨_, ι3, F3, s3, M2, r3, rs4, ?_⟩
          cases et : τ s3 M2 with
          | er x M => rw [et] at p2; exact p2.elim
          | bad => rw [et] at p2; exact p2.elim
          | ok b M4 =>
            rw [et] at p2
            simp only at p2
            intro ι4 F4 H4 v l4 r4 rb
            have rb' : v = b := rb
            subst rb'
            cases v with
            | false =>
              rw [if_neg Bool.false_ne_true] at p2
              refine iteF ⟨src.xs.length - (i + 1), by omega, rfl, hlt, ι4, F4, M4, ds, vs, w.mono (l3.trans l4) ok2, by omega, r4, RepL.le (l3.trans l4) rv2, rS2.le (l3.trans l4), Post.le (l3.trans l4) p2⟩
            | true =>
              rw [if_pos rfl] at p2
              refine iteT ⟨_, ι4, F4, s3, M4, r4, rs4.le l4, ?_⟩
              cases ep : φ s3 M4 with
              | er x M => rw [ep] at p2; exact p2.elim
              | bad => rw [ep] at p2; exact p2.elim
              | ok y5 M5 =>
                rw [ep] at p2
                intro ι5 F5 H5 v5 l5 r5 rv5
                have lt := (l3.trans l4).trans l5
                have hl := RepL.length rv2
                have hs := line_eq
                refine ⟨vs, (r5.rsv _ List.mem_cons_self).1, by omega, src.xs.length - (i + 1), by omega, rfl, hlt, ι5, F5, M5, ds ++ [y5], vs ++ [v5], w.mono lt ok2, by rw [List.length_append]; simp; omega, r5.rewr hp, (RepL.le lt rv2).append (.one rv5), rS2.le lt, ?_⟩
                refine Post.le lt ?_
                simp only at p2
                cases ec : compV src.chk γ τ φ (wipeD s own) (List.drop (i + 1) src.xs) M5 with
                | er x M => rw [ec] at p2; exact p2
                | bad => rw [ec] at p2; exact p2
                | ok ys M6 =>
                  rw [ec] at p2
                  simp only [R.bind_ok, List.append_assoc, List.singleton_append] at p2 ⊢
                  exact p2
    · have ei : i = src.xs.length := by omega
      subst ei
      rw [List.drop_length, compV] at p2
      cases hch : src.chk M2 with
      | false => rw [hch, if_neg Bool.false_ne_true] at p2; exact p2.elim
      | true =>
        rw [hch, if_pos rfl, R.bind_ok, List.append_nil] at p2
        exact .inl ⟨w.stop ok2 r2 hch, finL_at r2 hp rv2 p2⟩
  · exact p1.elim
theorem PG.ex {tg : Expr} {f : List (Addr × HO) → TG} (h : ∀ rs, PG X tg (f rs)) : PG X tg (fun v σ H Q => ∃ rs, f rs v σ H Q) := ⟨fun pins s σ H v u Q I r ⟨rs, q⟩ => (h rs).run pins s σ H v u Q I r q⟩
theorem PE.ex {e : Expr} {f : List (Addr × HO) → TE} (h : ∀ rs, PE X e (f rs)) : PE X e (fun σ H Q => ∃ rs, f rs σ H Q) := ⟨fun pins s σ H Q I ⟨rs, q⟩ => (h rs).run pins s σ H Q I q⟩
theorem PTs.ex {e : List Expr} {f : List (Addr × HO) → TT} (h : ∀ rs, PTs X e (f rs)) : PTs X e (fun σ H Q => ∃ rs, f rs σ H Q) := ⟨fun pins s σ H Q I ⟨rs, q⟩ => (h rs).run pins s σ H Q I q⟩
variable {elt tg iter : Expr} {ifs : List Expr} {scope : Scope} {own : List (Str × Nat)} {pos spos : Pos} {χ : Sem1 Src} {γ : GSem} {idx : List Nat} {τ : Sem1 Bool} {φ : Sem1 LD.D} {mu : Bool}
theorem d_comp (hc : X.calm = true) (hN : X.N.Nodup) (ok : BlkOk X.N X.env.scope scope own) (hsub : ∀ i ∈ idx, i ∈ own.map (·.2)) (hi : KI X T W tg iter χ)
    (hg : ∀ (s : Shared) (H : Hp) (C : Addr) (cl : List (Str × Addr)) (fp : List Addr), KG (X.blk s H scope (compEnvC scope cl C X.env) fp) T tg γ idx)
    (ht : ∀ (s : Shared) (H : Hp) (C : Addr) (cl : List (Str × Addr)) (fp : List Addr), KTs (X.blk s H scope (compEnvC scope cl C X.env) fp) T WN ifs τ)
    (he : ∀ (s : Shared) (H : Hp) (C : Addr) (cl : List (Str × Addr)) (fp : List Addr), KE (X.blk s H scope (compEnvC scope cl C X.env) fp) T WN elt φ) (hs : ∀ x, foldedSetIterable iter X.env x = pure x) :
    KE X T W (.ListComp elt [⟨tg, iter, ifs, 0⟩] scope pos) (eComp mu χ γ τ φ (own.map (·.2))) := fun rs =>
  PE.imp (pe_lc hc hN (hi.pi rs) ok (fun s H C cl fp => PG.ex (hg s H C cl fp).pg) (fun s H C cl fp => PTs.ex (ht s H C cl fp).pt) (fun s H C cl fp => PE.ex (f := fun rs => LE (kx X T) rs WN φ) (he s H C cl fp)) hs) fun σ H Q h => lc_sem (K := kx X T) hsub h
theorem s_setLc {i : Nat} {y : Str} {py : Pos} (hc : X.calm = true) (hN : X.N.Nodup) (ok : BlkOk X.N X.env.scope scope own) (hsub : ∀ i ∈ idx, i ∈ own.map (·.2)) (hy : X.N[i]? = some y) (hyl : X.env.scope.names.lookup y = some .local)
    (hsw : swapsWith (.ListComp elt [⟨tg, iter, ifs, 0⟩] scope pos) (some (.Name y py)) spos.line X.env = pure true) (hi : KI X T W tg iter χ)
    (hg : ∀ (s : Shared) (H : Hp) (C : Addr) (cl : List (Str × Addr)) (fp : List Addr), KG (X.blk s H scope (compEnvC scope cl C X.env) fp) T tg γ idx)
    (ht : ∀ (s : Shared) (H : Hp) (C : Addr) (cl : List (Str × Addr)) (fp : List Addr), KTs (X.blk s H scope (compEnvC scope cl C X.env) fp) T WN ifs τ)
    (he : ∀ (s : Shared) (H : Hp) (C : Addr) (cl : List (Str × Addr)) (fp : List Addr), KE (X.blk s H scope (compEnvC scope cl C X.env) fp) T WN elt φ) (hs : ∀ x, foldedSetIterable iter X.env x = pure x) :
    KS X T W (.Assign [.Name y py] (.ListComp elt [⟨tg, iter, ifs, 0⟩] scope pos) spos) (sAsg (gNm i) (eComp mu χ γ τ φ (own.map (·.2)))) := ⟨fun rs =>
  PS.imp (ps_setLc hc hN hy hyl hsw (hi.pi rs) ok (fun s H C cl fp => PG.ex (hg s H C cl fp).pg) (fun s H C cl fp => PTs.ex (ht s H C cl fp).pt) (fun s H C cl fp => PE.ex (f := fun rs => LE (kx X T) rs WN φ) (he s H C cl fp)) hs) fun D σ H h => by
    refine lc_sem (K := kx X T) hsub (LG.imp (asg_core (idx := [i]) h) fun v H1 q => ?_)
    obtain ⟨ι, F, s, M, d, s', r, rS, rd, e, q⟩ := q
    cases e
    exact q _ (rS.set rd) fun vs hv => wipe_set (hv i (List.mem_singleton.mpr rfl))⟩
end
end LD
namespace LD
open PySem PySem.Spec PyProof.Rows L2

/-! ### stores -/
theorem nodup_inj {α : Type} : ∀ {l : List α} {i j : Nat} {x : α}, l.Nodup → l[i]? = some x → l[j]? = some x → i = j
  | [], i, j, x, _, h, _ => by simp at h
  | a :: l, 0, 0, x, _, _, _ => rfl
  | a :: l, 0, j + 1, x, n, h, h' => by
    have e : a = x := by simpa using h
    have m : x ∈ l := List.mem_of_getElem? (i := j) (by simpa using h')
    exact absurd (by rw [e]; exact m) (List.nodup_cons.mp n).1
  | a :: l, i + 1, 0, x, n, h, h' => by
    have e : a = x := by simpa using h'
    have m : x ∈ l := List.mem_of_getElem? (i := i) (by simpa using h)
    exact absurd (by rw [e]; exact m) (List.nodup_cons.mp n).1
  | a :: l, i + 1, j + 1, x, n, h, h' => by
    rw [nodup_inj (l := l) (i := i) (j := j) (List.nodup_cons.mp n).2 (by simpa using h) (by simpa using h')]
theorem nodup_len {α : Type} [DecidableEq α] : ∀ {xs ys : List α}, xs.Nodup → (∀ x ∈ xs, x ∈ ys) → xs.length ≤ ys.length
  | [], ys, _, _ => Nat.zero_le _
  | x :: xs, ys, h, s => by
    have hx := s x List.mem_cons_self
    obtain ⟨h1, h2⟩ := List.nodup_cons.mp h
    have q := nodup_len (ys := ys.erase x) h2 fun y hy => (List.mem_erase_of_ne (fun e => h1 (by rw [← e]; exact hy))).mpr (s y (List.mem_cons_of_mem _ hy))
    rw [List.length_erase_of_mem hx] at q
    have : 0 < ys.length := List.length_pos_of_mem hx
    rw [List.length_cons]
    omega
theorem keys_putF' (f : Str) (v : V) : ∀ fs : List (Str × V), (putF f v fs).map (·.1) = if f ∈ fs.map (·.1) then fs.map (·.1) else fs.map (·.1) ++ [f]
  | [] => by rfl
  | (g, x) :: r => by
    have ih := keys_putF' f v r
    rw [show putF f v ((g, x) :: r) = (if g = f then (g, v) :: r else (g, x) :: putF f v r) from rfl]
    by_cases h : g = f
    · subst h
      rw [if_pos rfl, if_pos (by simp)] <;> rfl
    · rw [if_neg h, List.map_cons, List.map_cons, ih]
      by_cases hr : f ∈ r.map (·.1)
      · rw [if_pos hr, if_pos (List.mem_cons_of_mem _ hr)]
      · rw [if_neg hr, if_neg (fun z => (List.mem_cons.mp z).elim (fun e => h e.symm) hr)] <;> rfl
def setD (x y d : D) (M : Mem) : Option Mem := match x with
  | .ref i => match M[i]? with
    | some (.lst xs) => match y with
      | .int k => match ixN xs.length k with
        | some j => some (M.set i (.lst (xs.set j d)))
        | none => none
      | _ => none
    | some (.dic kvs) => match keyOf y with
      | some k => if kvs.length < LINE then some (M.set i (.dic (putK' kvs k d))) else none
      | none => none
    | _ => none
  | _ => none
where putK' (kvs : List (Key × D)) (k : Key) (d : D) : List (Key × D) := if (kvs.any fun kv => decide (kv.1 = k)) = true then kvs.map (fun kv => if kv.1 = k then (kv.1, d) else kv) else kvs ++ [(k, d)]
def delD (x y : D) (M : Mem) : Option Mem := match x with
  | .ref i => match M[i]? with
    | some (.dic kvs) => match keyOf y with
      | some k => if (getK kvs k).isSome then some (M.set i (.dic (kvs.filter fun kv => decide (kv.1 ≠ k)))) else none
      | none => none
    | _ => none
  | _ => none
def sSub (o i a : Sem1 D) : SSem := fun s M => bindS (a s M) s fun d M1 => bindS (o s M1) s fun x M2 => bindS (i s M2) s fun y M3 => match setD x y d M3 with
  | some M4 => .nx s M4
  | none => .bad
def sDel (o i : Sem1 D) : SSem := fun s M => bindS (o s M) s fun x M2 => bindS (i s M2) s fun y M3 => match delD x y M3 with
  | some M4 => .nx s M4
  | none => .bad
def sFldD (tf : List (Nat × Nat)) (o a : Sem1 D) : SSem := fun s M => bindS (a s M) s fun d M1 => bindS (o s M1) s fun x M2 => match x with
  | .ref i => match M2[i]? with
    | some (.ins c fs) => match tf.lookup c with
      | some j => .nx s (M2.set i (.ins c (fs.set j (some d))))
      | none => .bad
    | _ => .bad
  | _ => .bad
/-- a new dict -/
def eDic0 (mu : Bool) : Sem1 D := fun _ M => .ok (newK mu [] M).1 (newK mu [] M).2
section
variable {X : Cx} {T : Tab} {W : WX} {K : KX} {ι ι' : List Addr} {F F' H : Hp} {M M' : Mem} {rs : List (Addr × HO)} {s : DS} {σ : L2.St} {o i a : Expr} {φ ψ χ : Sem1 LD.D} {pos pos' tpos : Pos} {x y d : LD.D}
theorem PSet.or {t t' : TSet} (h : PSet X t) (h' : PSet X t') : PSet X (fun o i v H Q => t o i v H Q ∨ t' o i v H Q) := fun pins s σ H o i v ov iv u Q I a b c q => q.elim (h pins s σ H o i v ov iv u Q I a b c) (h' pins s σ H o i v ov iv u Q I a b c)
theorem PSet.imp {t t' : TSet} (h : PSet X t) (f : ∀ o i v H Q, t' o i v H Q → t o i v H Q) : PSet X t' := fun pins s σ H o i v ov iv u Q I a b c q => h pins s σ H o i v ov iv u Q I a b c (f _ _ _ _ _ q)
theorem putK_rep {k : Key} {v : V} : ∀ {kvs : List (Key × LD.D)} {vs : List (Key × V)}, vs.map (·.1) = kvs.map (·.1) → RepL K ι F (kvs.map (·.2)) (vs.map (·.2)) → Rep K ι F d v →
    (vs.any fun kv => decide (kv.1 = k)) = (kvs.any fun kv => decide (kv.1 = k)) ∧ (vs.map (fun kv => if kv.1 = k then (kv.1, v) else kv)).map (·.1) = (kvs.map (fun kv => if kv.1 = k then (kv.1, d) else kv)).map (·.1) ∧
    RepL K ι F ((kvs.map (fun kv => if kv.1 = k then (kv.1, d) else kv)).map (·.2)) ((vs.map (fun kv => if kv.1 = k then (kv.1, v) else kv)).map (·.2))
  | [], [], _, _, _ => ⟨rfl, rfl, rfl⟩
  | [], _ :: _, e, _, _ => by cases e
  | _ :: _, [], e, _, _ => by cases e
  | (k1, d1) :: kvs, (k2, v2) :: vs, e, h, h' => by
    obtain ⟨v3, r, e1, h1, h2⟩ := h
    have e' : k2 = k1 ∧ vs.map (·.1) = kvs.map (·.1) := List.cons.inj e
    obtain ⟨rfl, e2⟩ := e'
    have e3 : v2 = v3 ∧ vs.map (·.2) = r := List.cons.inj e1
    obtain ⟨rfl, rfl⟩ := e3
    obtain ⟨a1, a2, a3⟩ := putK_rep e2 h2 h'
    refine ⟨by rw [List.any_cons, List.any_cons, a1], ?_, ?_⟩
    · simp only [List.map_cons]
      rw [a2]
      by_cases hk : k2 = k
      · rw [if_pos hk, if_pos hk]
      · rw [if_neg hk, if_neg hk]
    · simp only [List.map_cons]
      by_cases hk : k2 = k
      · rw [if_pos hk, if_pos hk]; exact ⟨v, _, rfl, h', a3⟩
      · rw [if_neg hk, if_neg hk]; exact ⟨v2, _, rfl, h1, a3⟩
theorem dropK_rep {k : Key} : ∀ {kvs : List (Key × LD.D)} {vs : List (Key × V)}, vs.map (·.1) = kvs.map (·.1) → RepL K ι F (kvs.map (·.2)) (vs.map (·.2)) →
    (vs.filter fun kv => decide (kv.1 ≠ k)).map (·.1) = (kvs.filter fun kv => decide (kv.1 ≠ k)).map (·.1) ∧ RepL K ι F ((kvs.filter fun kv => decide (kv.1 ≠ k)).map (·.2)) ((vs.filter fun kv => decide (kv.1 ≠ k)).map (·.2))
  | [], [], _, _ => ⟨rfl, rfl⟩
  | [], _ :: _, e, _ => by cases e
  | _ :: _, [], e, _ => by cases e
  | (k1, d1) :: kvs, (k2, v2) :: vs, e, h => by
    obtain ⟨v3, r, e1, h1, h2⟩ := h
    have e' : k2 = k1 ∧ vs.map (·.1) = kvs.map (·.1) := List.cons.inj e
    obtain ⟨rfl, e2⟩ := e'
    have e3 : v2 = v3 ∧ vs.map (·.2) = r := List.cons.inj e1
    obtain ⟨rfl, rfl⟩ := e3
    obtain ⟨a2, a3⟩ := dropK_rep (k := k) e2 h2
    by_cases hk : k2 = k
    · rw [List.filter_cons_of_neg (by simpa using hk), List.filter_cons_of_neg (by simpa using hk)]
      exact ⟨a2, a3⟩
    · rw [List.filter_cons_of_pos (by simpa using hk), List.filter_cons_of_pos (by simpa using hk)]
      exact ⟨by rw [List.map_cons, List.map_cons, a2], v2, _, rfl, h1, a3⟩
def RSt (K : KX) (rs : List (Addr × HO)) : TSet := fun o i v H Q => ∃ ι F M x y d M', Rel K ι F rs H M ∧ Rep K ι F x o ∧ Rep K ι F y i ∧ Rep K ι F d v ∧ setD x y d M = some M' ∧ ∀ H', Rel K ι F rs H' M' → Q H'
theorem set_d (hu : X.A.units + 1 < cLine) : PSet X (RSt (kx X T) rs) := PSet.imp (PSet.or set_list (set_dict hu)) fun o i v H Q h => by
  obtain ⟨ι, F, M, x, y, d, M', r, rx, ry, rd, e, q⟩ := h
  cases x with
  | ref j =>
    obtain ⟨a, rfl, hj⟩ := rx
    simp only [setD] at e
    split at e
    · rename_i xs hM
      obtain ⟨f0, vs, h2, h3⟩ := r.obj j _ a hM hj rfl
      split at e
      · rename_i k
        split at e
        · rename_i n hn
          cases e
          cases ry
          refine .inl ⟨a, vs, k, n, rfl, rfl, h2, by rw [RepL.length h3]; exact hn, q _ (r.write hM hj rfl ⟨_, upd_same, h3.set rd⟩)⟩
        · cases e
      · cases e
    · rename_i kvs hM
      obtain ⟨f0, vs, h2, h3, h4⟩ := r.obj j _ a hM hj rfl
      split at e
      · rename_i k hk
        split at e
        · rename_i hl
          cases e
          have ey := keyOf_rep hk ry
          subst ey
          have hlen : vs.length = kvs.length := by
            have := congrArg List.length h3
            rwa [List.length_map, List.length_map] at this
          refine .inr ⟨a, _, rfl, .inl ⟨vs, k, h2, rfl, by rw [hlen, ← line_eq]; exact hl, rfl⟩, q _ (r.write hM hj rfl ?_)⟩
          obtain ⟨a1, a2, a3⟩ := putK_rep (k := k) h3 h4 rd
          refine ⟨putK vs k v, upd_same, ?_⟩
          unfold putK setD.putK'
          rw [a1]
          split
          · exact ⟨a2, a3⟩
          · refine ⟨by rw [List.map_append, List.map_append, h3] <;> rfl, ?_⟩
            rw [List.map_append, List.map_append]
            exact h4.append (.one rd)
        · cases e
      · cases e
    · cases e
  | _ => cases e
theorem s_sub (hu : X.A.units + 1 < cLine) (ha : KE X T W a φ) (ho : KE X T W o ψ) (hi : KE X T W i χ) (hs : swapsWithSole [.Subscript o i pos'] a pos.line X.env = pure false) (hw : swappedStores [.Subscript o i pos'] a X.env = pure none)
    (h1 : (assignEach [.Subscript o i pos'] X.env).map (·.2) = [assign (.Subscript o i pos') X.env])
    (h2 : ∀ v, assign (.Subscript o i pos') X.env v = (do
      let ov ← holding [v] (eval o X.env)
      let iv ← holding [v, ov] (eval i X.env)
      standAt pos'
      holding [v, ov, iv] (setItem ov iv v)
      release [v, ov, iv] [])) : KS X T W (.Assign [.Subscript o i pos'] a pos) (sSub ψ χ φ) := ⟨fun rs =>
  PS.imp (ps_asg (ha rs) (pg_sub (ho rs) (hi rs) (set_d (T := T) (rs := rs) hu) h2) hs hw h1) fun D σ H h => by
    obtain ⟨ι, F, s, M, r, rS, p⟩ := h
    refine ⟨ι, F, s, M, r, rS, p.step rS fun v H1 ι1 F1 M1 d _ l1 r1 rv p1 => ?_⟩
    refine ⟨ι1, F1, s, M1, r1, rS.le l1, SPost.step p1 (rS.le l1) fun ov H2 ι2 F2 M2 x _ l2 r2 ro p2 => ?_⟩
    refine ⟨ι2, F2, s, M2, r2, (rS.le l1).le l2, SPost.step p2 ((rS.le l1).le l2) fun iv H3 ι3 F3 M3 y _ l3 r3 ri p3 => ?_⟩
    split at p3
    · rename_i M4 e
      exact ⟨ι3, F3, M3, x, y, d, M4, r3, l3 _ _ ro, ri, l3 _ _ (l2 _ _ rv), e, fun H' r' => p3 ι3 F3 H' σ Le.refl r' (((rS.le l1).le l2).le l3)⟩
    · exact p3.elim⟩
theorem s_del (ho : KE X T W o ψ) (hi : KE X T W i χ) : KS X T W (.Delete [.Subscript o i tpos] pos) (sDel ψ χ) := ⟨fun rs => PS.imp (ps_ddel (ho rs) (hi rs)) fun D σ H h => by
  obtain ⟨ι, F, s, M, r, rS, p⟩ := h
  refine ⟨ι, F, s, M, r, rS, p.step rS fun ov H2 ι2 F2 M2 x _ l2 r2 ro p2 => ?_⟩
  refine ⟨ι2, F2, s, M2, r2, rS.le l2, SPost.step p2 (rS.le l2) fun iv H3 ι3 F3 M3 y _ l3 r3 ri p3 => ?_⟩
  split at p3
  · rename_i M4 e
    have ro := l3 _ _ ro
    cases x with
    | ref j =>
      obtain ⟨a, rfl, hj⟩ := ro
      simp only [delD] at e
      split at e
      · rename_i kvs hM
        obtain ⟨f0, vs, h2, h3, h4⟩ := r3.obj j _ a hM hj rfl
        split at e
        · rename_i k hk
          split at e
          · rename_i hg
            cases e
            have ey := keyOf_rep hk ri
            subst ey
            have q := valV_rep (k := k) h3 h4
            cases hg' : getK kvs k with
            | none => rw [hg'] at hg; cases hg
            | some d =>
              rw [hg'] at q
              obtain ⟨u, q1, q2⟩ := q
              obtain ⟨a2, a3⟩ := dropK_rep (k := k) h3 h4
              exact ⟨a, vs, k, rfl, h2, rfl, by rw [q1] <;> rfl, p3 ι3 F3 _ σ Le.refl (r3.write hM hj rfl ⟨_, upd_same, a2, a3⟩) ((rS.le l2).le l3)⟩
          · cases e
        · cases e
      · cases e
    | _ => cases e
  · exact p3.elim⟩
theorem d_dic0 {mu : Bool} : KE X T W (.Dict [] [] pos) (eDic0 mu) := fun rs => PE.imp pe_dnewK fun σ H Q h p hp => by
  obtain ⟨ι, F, s, M, r, rS, q⟩ := h
  cases mu with
  | true => exact q (ι ++ [p]) F _ _ Le.push (r.fresh hp rfl (u := .dic []) ⟨[], upd_same, rfl, rfl⟩) ⟨p, rfl, by rw [← r.len]; simp⟩
  | false => exact q ι (upd F p (.dK [])) _ _ (Le.new (r.free hp)) (r.frozen hp) ⟨p, [], rfl, .inl upd_same, rfl, rfl⟩
theorem s_fld {tf : List (Nat × Nat)} {m : Str} (hf : ∀ c j, tf.lookup c = some j → ∃ C ly, T.ct[c]? = some (C, ly) ∧ Cls X.K C ∧ NoAttr X.K C m ∧ ly[j]? = some m ∧ ly.length < 1000 ∧ ly.Nodup)
    (ha : KE X T W a φ) (ho : KE X T W o ψ) (hs : swapsWith a (some (.Attribute o m pos')) pos.line X.env = pure false) : KS X T W (.Assign [.Attribute o m pos'] a pos) (sFldD tf ψ φ) := ⟨fun rs => PS.imp (ps_fld (ho rs) (ha rs) hs) fun D σ H h => by
  obtain ⟨ι, F, s, M, r, rS, p⟩ := h
  refine ⟨ι, F, s, M, r, rS, p.step rS fun v H1 ι1 F1 M1 d _ l1 r1 rv p1 => ?_⟩
  refine ⟨ι1, F1, s, M1, r1, rS.le l1, SPost.step p1 (rS.le l1) fun ov H2 ι2 F2 M2 x _ l2 r2 ro p2 => ?_⟩
  cases x with
  | ref i =>
    simp only at p2
    split at p2
    · rename_i c fs hM
      split at p2
      · rename_i j hj
        obtain ⟨a, rfl, hi⟩ := ro
        obtain ⟨C, ly, hc, cl, na, hl, hz, hn⟩ := hf c j hj
        obtain ⟨f0, C', ly', dx, vs, hc', hH, hnd, hsub, hlen, hg⟩ := r2.obj i _ a hM hi rfl
        have e2 : (C, ly) = (C', ly') := Option.some.inj (hc.symm.trans hc')
        cases e2
        have hvl : vs.length ≤ ly.length := by
          have := nodup_len hnd hsub
          rwa [List.length_map] at this
        refine ⟨a, C, dx, vs, rfl, hH, cl, na, by omega, p2 ι2 F2 _ σ Le.refl (r2.write hM hi rfl ?_) ((rS.le l1).le l2)⟩
        have hm : m ∈ ly := List.mem_of_getElem? hl
        refine ⟨C, ly, dx, putF m v vs, hc, upd_same, ?_, ?_, by rw [List.length_set]; exact hlen, fun j' f e1 d' e2 => ?_⟩
        · rw [keys_putF']
          split
          · exact hnd
          · rename_i hnm
            rw [List.nodup_append]
            refine ⟨hnd, List.nodup_cons.mpr ⟨by simp, List.nodup_nil⟩, fun x hx y hy e => ?_⟩
            rw [List.mem_singleton.mp hy] at e
            exact hnm (by rw [← e]; exact hx)
        · intro f hf'
          rw [keys_putF'] at hf'
          split at hf'
          · exact hsub f hf'
          · rcases List.mem_append.mp hf' with h | h
            · exact hsub f h
            · rw [List.mem_singleton.mp h]; exact hm
        · rw [lookup_putF]
          by_cases hjj : j = j'
          · subst hjj
            rw [hl] at e1
            cases e1
            have hlt : j < fs.length := by rw [hlen]; exact (List.getElem?_eq_some_iff.mp hl).1
            rw [List.getElem?_set_self hlt] at e2
            cases e2
            exact ⟨v, if_pos rfl, l2 _ _ rv⟩
          · rw [List.getElem?_set_ne hjj] at e2
            have hff : f ≠ m := fun e => by
              subst e
              exact hjj (nodup_inj hn hl e1)
            rw [if_neg hff]
            exact hg j' f e1 d' e2
      · exact p2.elim
    · exact p2.elim
  | _ => exact p2.elim⟩
end

/-! ### defs -/
def startD (n : Nat) (ds : List D) : DS := ds.map some ++ List.replicate (n - ds.length) none
def defD (n np : Nat) (ψ : SSem) : FnD := fun ds M => if ds.length = np then (match ψ (startD n ds) M with
  | .nx _ M' => .ok .non M'
  | .rt d M' => .ok d M'
  | .er x _ M' => .er x M'
  | _ => .bad) else .bad
def spX (K : KX) (φ : FnD) : Sp := fun vs H Q E => ∃ rs, spD K rs φ vs H Q E
section
variable {P : Program} {w : World} {K : PySem.W.Frag} {mg : Str → Option Value} {base : Heap} {T : Tab}
theorem start_rep {KK : KX} {ι : List Addr} {F : Hp} {N : List Str} : ∀ {ds : List D} {vs : List V}, RepL KK ι F ds vs → RepS KK ι F (startD N.length ds) (L2.start N vs) := fun {ds vs} h => by
  have hl := RepL.length h
  refine ⟨by unfold L2.start startD; rw [List.length_append, List.length_append, List.length_map, List.length_map, List.length_replicate, List.length_replicate, hl], fun i d e => ?_⟩
  unfold startD at e
  unfold L2.start
  by_cases hi : i < ds.length
  · rw [List.getElem?_append_left (by rw [List.length_map]; exact hi), List.getElem?_map] at e
    obtain ⟨d', e1, e2⟩ := Option.map_eq_some_iff.mp e
    cases e2
    obtain ⟨v, h1, h2⟩ := RepL.get h e1
    exact ⟨v, by rw [List.getElem?_append_left (by rw [List.length_map, hl]; exact hi), List.getElem?_map, h1] <;> rfl, h2⟩
  · rw [List.getElem?_append_right (by rw [List.length_map]; omega), List.getElem?_replicate] at e
    split at e <;> cases e
/-- what a def promises at a call, at room k -/
structure FnX (P : Program) (w : World) (K : PySem.W.Frag) (mg : Str → Option Value) (base : Heap) (T : Tab) (k : Nat) (f : Addr) (fd : FuncData) (ps : List Str) (φ : FnD) : Prop where
  run : ∀ (rs : List (Addr × HO)) (A : Around) (outer : List Env) (s : Shared) (H : Hp) (args : Args) (us : List Value) (vs : List V) (Q : VK) (E : XK), Room k A → Env0 P w K mg base A outer s H → BindsTo s fd args (ps.zip us) → Vals vs us →
    spD ⟨K, T⟩ rs φ vs H Q E → codeAny (model P w) A (.call (.ref f) args) (CR (L2.CX P w) outer P w H s Q E) s
/-- one call of a def, by its body at this very state -/
theorem fn_at {x qual : Str} {st : Stmt} {f : Addr} {fd : FuncData} {N ps : List Str} {k : Nat} {A : Around} {outer : List Env} {s : Shared} {H : Hp} {args : Args} {us : List Value} {vs : List V} {Q : VK} {E : XK} (F : L2.Fun K x qual st f fd) (S : FnScope N ps (defScope st))
    (hr : Room (k + 1) A) (e0 : Env0 P w K mg base A outer s H) (hb : BindsTo s fd args (ps.zip us)) (r : Vals vs us) (hl : vs.length = ps.length)
    (ht : ∀ cdv, Room k (A.deeper (envOfC qual (defScope st) s.heap.objs.size f cdv)) → ∃ t, PSs (cxOf (L2.CX P w) P w K mg base N qual (defScope st) f cdv A outer s H E) (defBody st) t ∧ t { nx := fun _ H' => Q .non H', rt := Q } (L2.start N vs) H) :
    codeAny (model P w) A (.call (.ref f) args) (CR (L2.CX P w) outer P w H s Q E) s := by
  obtain ⟨oc, od, kV, doc, pm, an, cdv, ct, osl, rfl, lk, hcd⟩ := F.ex
  have KX : K.In s.heap := e0.mod.kin.keeps fun b o e => (e0.bs b o e).1
  have lim : s.heap.NoLimit := e0.mod.nolimit.keeps fun b o e => (e0.bs b o e).1
  refine Att.call_fn KX lim lk hcd hr.l2.depth hb (List.all_eq_true.mpr fun y hy => ?_) (fun s1 x => ?_) S.co S.gen S.kind
  · rcases S.par y.1 (List.of_mem_zip hy).1 with q | q <;> rw [q] <;> rfl
  · obtain ⟨t, h1, h2⟩ := ht cdv (hr.deeper _)
    have I : Inv (cxOf (L2.CX P w) P w K mg base N qual (defScope st) f cdv A outer s H E) [] (L2.start N vs) H s1 := inv_start S hr.hd e0 hl r x
    refine wpAny_mono (h1.run [] s1 (L2.start N vs) H _ I h2) (fun fl s' hs => ?_) fun e s' hs => hs
    have fin : ∀ {σ' : L2.St} {H' : Hp} {v : V} {u : Value}, Inv (cxOf (L2.CX P w) P w K mg base N qual (defScope st) f cdv A outer s H E) [] σ' H' s' → RelV v u → Q v H' → CE outer P w H s Q u s' :=
      fun {σ' H' v u} J rv q => ⟨v, H', J.os, J.bare, J.base, J.hok, rv, q⟩
    cases fl with
    | ret u =>
      obtain ⟨v, σ', H', J, rv, q⟩ := hs
      exact fin J rv q
    | next =>
      obtain ⟨σ', H', J, q⟩ := hs
      exact fin (v := V.non) (u := Value.none) J rfl q
    | brk => exact (hs.choose_spec.choose_spec.2 : False).elim
    | cont => exact (hs.choose_spec.choose_spec.2 : False).elim
theorem kfn {x qual : Str} {st : Stmt} {f : Addr} {fd : FuncData} {N ps : List Str} {k : Nat} {ψ : SSem} (F : L2.Fun K x qual st f fd) (S : FnScope N ps (defScope st))
    (hbody : ∀ (cdv : Value) (A : Around) (outer : List Env) (s : Shared) (H : Hp) (E : XK), Room k (A.deeper (envOfC qual (defScope st) s.heap.objs.size f cdv)) →
      KB (cxOf (L2.CX P w) P w K mg base N qual (defScope st) f cdv A outer s H E) T (fun c d _ H => E c d H) (defBody st) ψ) :
    FnX P w K mg base T (k + 1) f fd ps (defD N.length ps.length ψ) := by
  refine ⟨fun rs A outer s H args us vs Q E hr e0 hb hv h => ?_⟩
  obtain ⟨ι, F', ds, M, r, rd, p⟩ := h
  unfold defD at p
  split at p
  · rename_i hl
    refine fn_at F S hr e0 hb hv (by rw [RepL.length rd, hl]) fun cdv hr' => ⟨_, (hbody cdv A outer s H E hr').ps rs, ι, F', startD N.length ds, M, r, start_rep rd, ?_⟩
    cases e : ψ (startD N.length ds) M with
    | nx s' M' => rw [e] at p; exact fun ι' F' H' σ' l r' _ => p ι' F' H' .non l r' rfl
    | rt d M' => rw [e] at p; exact p
    | er x s' M' => rw [e] at p; exact fun ι' F' H' σ' c dx l r' _ rx => p ι' F' H' c dx l r' rx
    | bk s' M' => rw [e] at p; exact p.elim
    | ct s' M' => rw [e] at p; exact p.elim
    | bad => rw [e] at p; exact p.elim
  · exact p.elim
theorem callee_of {f : Addr} {fd : FuncData} {ps ks : List Str} {k n : Nat} {φ : FnD} (F : FnX P w K mg base T k f fd ps φ)
    (hb : ∀ (s : Shared) (us ws : List Value), us.length = n → ws.length = ks.length → BindsTo s fd ⟨us, ks.zip ws⟩ (ps.zip (us ++ ws))) : Callee P w K mg base T k f n ks φ := ⟨fun rs A outer s H us ws vs zs Q E hr e0 h1 h2 r1 r2 h =>
  F.run rs A outer s H _ (us ++ ws) (vs ++ zs) Q E hr e0 (hb s us ws h1 h2) (r1.append r2) h⟩
theorem takes_k {N : List Str} {qual : Str} {scope : Scope} {f : Addr} {cd : Value} {A : Around} {outer : List Env} {s : Shared} {H : Hp} {E : XK} : Takes (cxOf (L2.CX P w) P w K mg base N qual scope f cd A outer s H E) (fun c d _ H => E c d H) :=
  takes_of rfl rfl rfl rfl
theorem passes_k {N : List Str} {qual : Str} {scope : Scope} {f : Addr} {cd : Value} {A : Around} {outer : List Env} {s : Shared} {H : Hp} {E : XK} : PassesOwn (model P w) (cxOf (L2.CX P w) P w K mg base N qual scope f cd A outer s H E).A (cxOf (L2.CX P w) P w K mg base N qual scope f cd A outer s H E).env (cxOf (L2.CX P w) P w K mg base N qual scope f cd A outer s H E).xe :=
  PassesOwn.leaving
def intsD (ns : List Int) : D := .lst (ns.map D.int)
def LawD (n : Nat) (φ : FnD) : Prop := ∀ ns : List Int, ns.length ≤ n → ∃ M, φ [intsD ns] [] = .ok (.bl true) M
theorem intsD_rep {KK : KX} {ι : List Addr} {F : Hp} : ∀ (ns : List Int), RepL KK ι F (ns.map D.int) (ns.map V.int)
  | [] => rfl
  | n :: ns => ⟨_, _, rfl, rfl, intsD_rep ns⟩
end
end LD
namespace LD
open PySem PySem.Spec PyProof.Rows L2

/-- x in y, also by an own __contains__ -/
def inO (tbl : List (Nat × FnD)) (neg : Bool) : O2 := fun x y M => match y with
  | .ref i => match M[i]? with
    | some (.ins c _) => match tbl.lookup c with
      | some φ => match φ [.ref i, x] M with
        | .ok (.bl k) M' => some (.bl (k != neg), M')
        | _ => none
      | none => none
    | _ => (inD M x y).map fun k => (.bl (k != neg), M)
  | _ => (inD M x y).map fun k => (.bl (k != neg), M)
section
variable {X : Cx} {T : Tab} {W : WX} {rs : List (Addr × HO)}
theorem own_in {tbl : List (Nat × FnD)} {neg : Bool} (ht : ∀ c φ, tbl.lookup c = some φ → ∃ C ly g k, T.ct[c]? = some (C, ly) ∧ PySem.W.findIn X.K (.ref C) "__contains__" = some (some (.ref g)) ∧ PySem.W.isFn X.K (.ref g) = true ∧
      Callee X.prog X.w X.K X.mg X.base T k g 2 [] φ ∧ Room k X.A)
    {pins : List (Addr × Obj)} {s : Shared} {σ : L2.St} {H : Hp} {x : V} {u : Value} {a : Addr} {Q : VK} {ι : List Addr} {F : Hp} {M M' : Mem} {i c : Nat} {fs : List (Option D)} {d : D} {φ : FnD} {k : Bool}
    (I : Inv X pins σ H s) (rx : RelV x u) (r : Rel (kx X T) ι F rs H M) (rd : Rep (kx X T) ι F d x) (hi : ι[i]? = some a) (hM : M[i]? = some (.ins c fs)) (hφ : tbl.lookup c = some φ) (e : φ [.ref i, d] M = .ok (.bl k) M')
    (q : ∀ ι' F' H' u, Le (kx X T) ι F ι' F' → Rel (kx X T) ι' F' rs H' M' → Rep (kx X T) ι' F' (.bl (k != neg)) u → Q u H') :
    wpAny (model X.prog X.w) X.A (compareOp (if neg then .NotIn else .In) u (.ref a)) (EP X pins σ Q) X.xe s := by
  obtain ⟨C, ly, g, kk, hc, hs, hf, ce, hr⟩ := ht c φ hφ
  obtain ⟨_, C', ly', dx, vs, hc', hH, _, _, _, _⟩ := r.obj i _ a hM hi rfl
  have e2 : (C, ly) = (C', ly') := Option.some.inj (hc.symm.trans hc')
  cases e2
  obtain ⟨mA, J, _⟩ := ins_get I.hok hH
  obtain ⟨od, J, _⟩ := J.look
  obtain ⟨m, hF⟩ := I.fr
  have go : ∀ {Q' : Value → Shared → Prop}, (∀ k' s', (∃ H', Inv X pins σ H' s' ∧ ∃ ι' F', Le (kx X T) ι F ι' F' ∧ Rel (kx X T) ι' F' rs H' M') → k' = k → Q' (.bool k') s') → wpAny (model X.prog X.w) X.A (call (.ref g) [.ref a, u]) Q' X.xe s := by
    intro Q' hq'
    refine wpAny_call (codeAny_mono (ce.run rs X.A X.stack s H [.ref a, u] [] [.ref a, x] [] (fun v H' => v = .bl k ∧ ∃ ι' F', Le (kx X T) ι F ι' F' ∧ Rel (kx X T) ι' F' rs H' M') (fun _ _ _ => False) hr I.env0 rfl rfl (.cons rfl (.cons rx .nil)) .nil
      ⟨ι, F, [.ref i, d], M, r, ⟨_, _, rfl, ⟨a, rfl, hi⟩, .one rd⟩, by rw [e]; exact fun ι' F' H' v l r' rv => ⟨rv, ι', F', l, r'⟩⟩) fun r s' hq => ?_)
    cases r with
    | error er =>
      obtain ⟨a, B, H', cls, d, _, _, _, _, _, _, _, z⟩ := hq
      exact z.elim
    | ok fl =>
      cases fl with
      | ret w =>
        obtain ⟨z, H', I', rz, ez, ι', F', l, r'⟩ := I.after hq
        subst ez
        cases rz
        exact hq' _ _ ⟨H', I', ι', F', l, r'⟩ rfl
      | next => exact False.elim hq
      | brk => exact False.elim hq
      | cont => exact False.elim hq
  cases neg with
  | false =>
    refine PySem.W.in_K hF I.ok.mod.kin J hs hf (go fun k' s' ⟨H', I', ι', F', l, r'⟩ ek => wpAny_truthy_bool ⟨.bl k', H', I', rfl, ?_⟩)
    subst ek
    exact q ι' F' H' _ l r' (by cases k' <;> rfl)
  | true =>
    refine PySem.W.notIn_K hF I.ok.mod.kin J hs hf (go fun k' s' ⟨H', I', ι', F', l, r'⟩ ek => wpAny_truthy_bool ⟨.bl (!k'), H', I', rfl, ?_⟩)
    subst ek
    exact q ι' F' H' _ l r' (by cases k' <;> rfl)
theorem inO_split {tbl : List (Nat × FnD)} {neg : Bool} {x y : V} {H : Hp} {Q : VK} (h : RO2 (kx X T) rs (inO tbl neg) x y H Q) : RO2 (kx X T) rs (boD (if neg then notB inD else inD)) x y H Q ∨
    ∃ a ι F M M' i c fs d φ k, y = .ref a ∧ Rel (kx X T) ι F rs H M ∧ Rep (kx X T) ι F d x ∧ ι[i]? = some a ∧ M[i]? = some (.ins c fs) ∧ tbl.lookup c = some φ ∧ φ [.ref i, d] M = .ok (.bl k) M' ∧
      ∀ ι' F' H' u, Le (kx X T) ι F ι' F' → Rel (kx X T) ι' F' rs H' M' → Rep (kx X T) ι' F' (.bl (k != neg)) u → Q u H' := by
  obtain ⟨ι, F, M, d, e, z, M', r, r1, r2, g, q⟩ := h
  have plain : (inD M d e).map (fun k => (D.bl (k != neg), M)) = some (z, M') → RO2 (kx X T) rs (boD (if neg then notB inD else inD)) x y H Q := fun g => by
    refine ⟨ι, F, M, d, e, z, M', r, r1, r2, ?_, q⟩
    obtain ⟨k, h1, h2⟩ := Option.map_eq_some_iff.mp g
    unfold boD
    cases neg with
    | false => rw [if_neg Bool.false_ne_true, h1, ← h2]; cases k <;> rfl
    | true => rw [if_pos rfl]; unfold notB; rw [h1, ← h2]; cases k <;> rfl
  cases e with
  | ref i =>
    simp only [inO] at g
    split at g
    · rename_i c fs hM
      split at g
      · rename_i φ hφ
        split at g
        · rename_i k M2 he
          cases g
          obtain ⟨a, rfl, hi⟩ := r2
          exact .inr ⟨a, ι, F, M, _, i, c, fs, d, φ, k, rfl, r, r1, hi, hM, hφ, he, q⟩
        · cases g
      · cases g
    · exact .inl (plain g)
  | _ => exact .inl (plain g)
theorem o_inO {tbl : List (Nat × FnD)} (hu : X.A.units + 65 < cLine) (ht : ∀ c φ, tbl.lookup c = some φ → ∃ C ly g k, T.ct[c]? = some (C, ly) ∧ PySem.W.findIn X.K (.ref C) "__contains__" = some (some (.ref g)) ∧ PySem.W.isFn X.K (.ref g) = true ∧
      Callee X.prog X.w X.K X.mg X.base T k g 2 [] φ ∧ Room k X.A) : OpR X (compareOp .In) (RO2 (kx X T) rs (inO tbl false)) := by
  intro pins s σ H x y v u Q I rx ry h
  rcases inO_split h with h | ⟨a, ι, F, M, M', i, c, fs, d, φ, k, rfl, r, rd, hi, hM, hφ, e, q⟩
  · exact o_in hu pins s σ H x y v u Q I rx ry h
  · cases ry
    exact own_in (neg := false) ht I rx r rd hi hM hφ e q
theorem o_notinO {tbl : List (Nat × FnD)} (hu : X.A.units + 65 < cLine) (ht : ∀ c φ, tbl.lookup c = some φ → ∃ C ly g k, T.ct[c]? = some (C, ly) ∧ PySem.W.findIn X.K (.ref C) "__contains__" = some (some (.ref g)) ∧ PySem.W.isFn X.K (.ref g) = true ∧
      Callee X.prog X.w X.K X.mg X.base T k g 2 [] φ ∧ Room k X.A) : OpR X (compareOp .NotIn) (RO2 (kx X T) rs (inO tbl true)) := by
  intro pins s σ H x y v u Q I rx ry h
  rcases inO_split h with h | ⟨a, ι, F, M, M', i, c, fs, d, φ, k, rfl, r, rd, hi, hM, hφ, e, q⟩
  · exact o_notin hu pins s σ H x y v u Q I rx ry h
  · cases ry
    exact own_in (neg := true) ht I rx r rd hi hM hφ e q
end
end LD
namespace LD
open PySem PySem.Spec PyProof.Rows L2

/-! ### short words for derivations -/
theorem u1 {A : Around} {k : Nat} (hr : Room k A) : A.units + 1 < cLine := by have := hr.un; omega
theorem u64 {A : Around} {k : Nat} (hr : Room k A) : A.units + 64 < cLine := hr.units
theorem u65 {A : Around} {k : Nat} (hr : Room k A) : A.units + 65 < cLine := by have := hr.un; omega
theorem u0 {A : Around} {k : Nat} (hr : Room k A) : A.units < cLine := by have := hr.un; omega
theorem tblN {β : Type} {P : Nat → β → Prop} : ∀ c φ, ([] : List (Nat × β)).lookup c = some φ → P c φ := fun c φ h => by cases h
theorem tblC {β : Type} {P : Nat → β → Prop} {c0 : Nat} {φ0 : β} {l : List (Nat × β)} (h : P c0 φ0) (r : ∀ c φ, l.lookup c = some φ → P c φ) : ∀ c φ, ((c0, φ0) :: l).lookup c = some φ → P c φ := fun c φ e => by
  rw [List.lookup_cons] at e
  split at e
  · rename_i hc
    cases beq_iff_eq.mp hc
    cases e
    exact h
  · exact r c φ e
/-- a method that may be called -/
def MetD (P : Program) (w : World) (K : PySem.W.Frag) (mg : Str → Option Value) (base : Heap) (T : Tab) (k c : Nat) (m : Str) (n : Nat) (ks : List Str) (φ : FnD) : Prop :=
  ∃ C ly g, T.ct[c]? = some (C, ly) ∧ m ∉ ly ∧ Cls K C ∧ Meth K C m g ∧ Callee P w K mg base T k g (n + 1) ks φ
/-- a field -/
def FldD (K : PySem.W.Frag) (T : Tab) (c : Nat) (m : Str) (j : Nat) : Prop := ∃ C ly, T.ct[c]? = some (C, ly) ∧ Cls K C ∧ NoAttr K C m ∧ ly[j]? = some m ∧ ly.length < 1000 ∧ ly.Nodup
/-- a property -/
def PrpD (P : Program) (w : World) (K : PySem.W.Frag) (mg : Str → Option Value) (base : Heap) (T : Tab) (k c : Nat) (m : Str) (φ : FnD) : Prop :=
  ∃ C ly pp g, T.ct[c]? = some (C, ly) ∧ Cls K C ∧ PropOf K C m pp g ∧ Callee P w K mg base T k g 1 [] φ
/-- an own __contains__ -/
def ConD (P : Program) (w : World) (K : PySem.W.Frag) (mg : Str → Option Value) (base : Heap) (T : Tab) (k c : Nat) (φ : FnD) : Prop :=
  ∃ C ly g, T.ct[c]? = some (C, ly) ∧ PySem.W.findIn K (.ref C) "__contains__" = some (some (.ref g)) ∧ PySem.W.isFn K (.ref g) = true ∧ Callee P w K mg base T k g 2 [] φ
section
variable {X : Cx} {T : Tab} {W : WX} {a b e o : Expr} {es : List Expr} {kws : List Keyword} {φ ψ χ : Sem1 D} {α κ : Sem1 (List D)} {pos p pos' apos p2 tpos : Pos} {x m : Str} {k k' : Nat}
theorem Vr (i : Nat) (hN : X.N[i]? = some x := by rfl) (hv : Vis X.env.scope x := by first | exact Or.inl rfl | exact Or.inr (Or.inl rfl) | exact Or.inr (Or.inr rfl)) (hd : (x == ("__debug__" : Str)) = false := by decide) (hcd : (x == ("__classdict__" : Str)) = false := by decide) :
    KE X T W (.Name x pos) (eVar i) := d_var hN hv hd hcd
theorem A1 (ha : KE X T W a φ) (hr : KA X T W es α) (hs : isStar a = false := by rfl) : KA X T W (a :: es) (aCons φ α) := a_cons ha hr (star_cons hs)
theorem Cq {op : CmpOp} {g : O2} (ho : ∀ rs, OpR X (compareOp op) (RO2 (kx X T) rs g)) (ha : KE X T W a φ) (hb : KE X T W b ψ) (hm : behindInMarks op b = false := by first | exact nobehind _ (by decide) (by decide) | rfl) : KE X T W (.Compare a [op] [b] pos) (eBin g φ ψ) := d_cmp ho ha hb hm
theorem Tq {op : CmpOp} {g : O2} (ho : ∀ rs, OpR X (compareOp op) (RO2 (kx X T) rs g)) (ha : KE X T W a φ) (hb : KE X T W b ψ) (hm : behindInMarks op b = false := by first | exact nobehind _ (by decide) (by decide) | rfl) : KT X T W (.Compare a [op] [b] pos) (tCmp g φ ψ) := t_cmp ho ha hb hm
theorem Tv (ha : KE X T W a φ) (he : ∀ whole, isTrue a X.env whole = (do let v ← whole; standAt a.pos; holding [v] (truthy v)) := by intro _; rfl) : KT X T W a (tOf φ) := t_val ha he
theorem Tw {τ : Sem1 Bool} (h : KWt X T W a τ) : KT X T W a τ := fun rs => (h rs).pt
theorem Ix (hu : X.A.units + 1 < cLine) (ha : KE X T W a φ) (hb : KE X T W b ψ) (hs : PlainIx b := by intro _ _; rfl) : KE X T W (.Subscript a b pos) (eBin ixD φ ψ) := d_sub hu ha hb hs
theorem Call {f : Addr} {φf : FnD} (c : Callee X.prog X.w X.K X.mg X.base T k' f es.length (kws.filterMap kwN) φf) (hr : Room k X.A) (tk : Takes X W) (hm : X.mg x = some (.ref f)) (hk : PySem.W.keepIn X.K (.ref f) = true) (ha : KA X T W es α) (hkw : KK X T W kws κ)
    (hl : k' ≤ k := by first | decide | omega) (hg : Gl X x := by rfl) (hdb : (x == ("__debug__" : Str)) = false := by decide) (hα : es = [] → α = aNil := by first | exact (fun _ => rfl) | exact (fun h => nomatch h)) (h2 : es.any isStar = false := by rfl) (h3 : kws.all (fun k => (kwN k).isSome) = true := by rfl) :
    KE X T W (.Call (.Name x p) es kws pos) (eCall φf α κ) := d_call c (hr.mono hl) tk hg hm hk hdb hα h2 h3 ha hkw
theorem Mke {f C : Addr} {φf : FnD} {c n : Nat} {ly : List Str} (hc : T.ct[c]? = some (C, ly)) (hn : n = ly.length) (M : Mk X.K C f) (cl : Callee X.prog X.w X.K X.mg X.base T k' f (es.length + 1) (kws.filterMap kwN) φf) (hr : Room k X.A) (tk : Takes X W) (hm : X.mg x = some (.ref C))
    (ha : KA X T W es α) (hkw : KK X T W kws κ) (hl : k' + 1 ≤ k := by first | decide | omega) (hg : Gl X x := by rfl) (hdb : (x == ("__debug__" : Str)) = false := by decide) (hα : es = [] → α = aNil := by first | exact (fun _ => rfl) | exact (fun h => nomatch h)) (h2 : es.any isStar = false := by rfl)
    (h3 : kws.all (fun k => (kwN k).isSome) = true := by rfl) : KE X T W (.Call (.Name x p) es kws pos) (eCall (mkF c n φf) α κ) := d_make hc hn M cl (hr.mono hl) tk hg hm hdb hα h2 h3 ha hkw
theorem Met {tbl : List (Nat × FnD)} (ht : ∀ c φ, tbl.lookup c = some φ → MetD X.prog X.w X.K X.mg X.base T k' c m es.length (kws.filterMap kwN) φ) (hr : Room k X.A) (tk : Takes X W) (ho : KE X T W o ψ) (ha : KA X T W es α) (hkw : KK X T W kws κ) (hl : k' ≤ k := by first | decide | omega) (h1 : isSup o = false := by rfl)
    (h4 : decide (es.length + kws.length < 29) = true := by rfl) (h5 : (apos.endLine == pos.line) = true := by rfl) (hα : es = [] → α = aNil := by first | exact (fun _ => rfl) | exact (fun h => nomatch h)) (h2 : es.any isStar = false := by rfl) (h3 : kws.all (fun k => (kwN k).isSome) = true := by rfl) :
    KE X T W (.Call (.Attribute o m apos) es kws pos) (eMeth tbl ψ α κ) := d_meth (fun c φ h => by
  obtain ⟨C, ly, g, a1, a2, a3, a4, a5⟩ := ht c φ h
  exact ⟨C, ly, g, k', a1, a2, a3, a4, a5, hr.mono hl⟩) tk ho h1 h4 h5 hα h2 h3 ha hkw
theorem Att {tp : List (Nat × FnD)} {tf : List (Nat × Nat)} (ht : ∀ c φ, tp.lookup c = some φ → PrpD X.prog X.w X.K X.mg X.base T k' c m φ) (hf : ∀ c j, tf.lookup c = some j → FldD X.K T c m j) (hr : Room k X.A) (ho : KE X T W o ψ) (hl : k' + 1 ≤ k := by first | decide | omega) (h1 : isSup o = false := by rfl) :
    KE X T W (.Attribute o m pos) (eAttr tp tf ψ) := d_attr (fun c φ h => by
  obtain ⟨C, ly, pp, g, a1, a2, a3, a4⟩ := ht c φ h
  exact ⟨C, ly, pp, g, k', a1, a2, a3, a4, hr.mono hl⟩) (fun c j _ h => by
  obtain ⟨C, ly, a1, a2, a3, a4, _⟩ := hf c j h
  exact ⟨C, ly, a1, a2, a3, a4⟩) ho h1
theorem Fld {tf : List (Nat × Nat)} (hf : ∀ c j, tf.lookup c = some j → FldD X.K T c m j) (ho : KE X T W o ψ) (h1 : isSup o = false := by rfl) : KE X T W (.Attribute o m pos) (eAttr [] tf ψ) := d_attr tblN (fun c j _ h => by
  obtain ⟨C, ly, a1, a2, a3, a4, _⟩ := hf c j h
  exact ⟨C, ly, a1, a2, a3, a4⟩) ho h1
theorem Con {C : Addr} {mc : Value} {v : V} {u : Value} {d : D} (hm : X.mg x = some (.ref C)) (cr : ClX.CRead X.K C mc) (cv : ClX.CVal X.K C mc m v u) (hr : ∀ ι F, Rep (kx X T) ι F d v) (hg : Gl X x := by rfl) (hdb : (x == ("__debug__" : Str)) = false := by decide) :
    KE X T W (.Attribute (.Name x p2) m pos) (eC d) := d_ccon hg hm hdb cr cv hr
theorem Blt {id : String} {g : OL} (hc : ∀ rs, CallR X (.builtin id) (RC (kx X T) rs g)) (hm : X.mg x = none) (ha : KA X T W (e :: es) α) (hv : bootBuiltins x = some (.builtin id) := by rfl) (hg : Gl X x := by rfl) (hn : x ≠ "__name__" := by decide) (hdb : (x == ("__debug__" : Str)) = false := by decide)
    (h2 : (e :: es).any isStar = false := by rfl) : KE X T W (.Call (.Name x p) (e :: es) [] pos) (eBlt g α) := by
  first
  | exact d_blt hc hg hm hv hn hdb ha h2
  | exact d_blt hc hg hm hv hn hdb h2 ha
theorem Bty {id : String} {g : OL} (hc : ∀ rs, CallR X (.type id) (RC (kx X T) rs g)) (hm : X.mg x = none) (ha : KA X T W (e :: es) α) (hv : bootBuiltins x = some (.type id) := by rfl) (hg : Gl X x := by rfl) (hn : x ≠ "__name__" := by decide) (hdb : (x == ("__debug__" : Str)) = false := by decide)
    (h2 : (e :: es).any isStar = false := by rfl) : KE X T W (.Call (.Name x p) (e :: es) [] pos) (eBlt g α) := by
  first
  | exact d_bty hc hg hm hv hn hdb ha h2
  | exact d_bty hc hg hm hv hn hdb h2 ha
end
end LD
namespace LD
open PySem PySem.Spec PyProof.Rows L2
/-- the def at f as the text has it -/
def FnAt (K : PySem.W.Frag) (x qual : Str) (st : Stmt) (f : Addr) : Prop := ∃ (oc : Value) (od : Option Addr) (kV doc pm : Value) (an : Option Addr) (cdv ct : Value) (osl : Array (Option Value)),
  K.lookup f = some ⟨oc, od, .func (PySem.W.fnOf x qual (defArgs st) (defBody st) (defScope st) .none kV doc pm an cdv ct), osl⟩ ∧ PySem.W.codeIn K cdv qual = true ∧ PySem.W.keepIn K (.ref f) = true
theorem fnAt_mk {K : PySem.W.Frag} {x qual : Str} {st : Stmt} {f : Addr} {oc : Value} {od : Option Addr} {kV doc pm : Value} {an : Option Addr} {cdv ct : Value} {osl : Array (Option Value)}
    (l : K.lookup f = some ⟨oc, od, .func (PySem.W.fnOf x qual (defArgs st) (defBody st) (defScope st) .none kV doc pm an cdv ct), osl⟩) (c : PySem.W.codeIn K cdv qual = true) (k : PySem.W.keepIn K (.ref f) = true) : FnAt K x qual st f := ⟨_, _, _, _, _, _, _, _, _, l, c, k⟩
theorem ownC {X : Cx} {T : Tab} {k k' : Nat} {tbl : List (Nat × FnD)} (ht : ∀ c φ, tbl.lookup c = some φ → ConD X.prog X.w X.K X.mg X.base T k' c φ) (hr : Room k X.A) (hl : k' ≤ k) :
    ∀ c φ, tbl.lookup c = some φ → ∃ C ly g k, T.ct[c]? = some (C, ly) ∧ PySem.W.findIn X.K (.ref C) "__contains__" = some (some (.ref g)) ∧ PySem.W.isFn X.K (.ref g) = true ∧ Callee X.prog X.w X.K X.mg X.base T k g 2 [] φ ∧ Room k X.A := fun c φ h => by
  obtain ⟨C, ly, g, a1, a2, a3, a4⟩ := ht c φ h
  exact ⟨C, ly, g, k', a1, a2, a3, a4, hr.mono hl⟩
theorem tup_const {K : PySem.W.Frag} {F : Hp} {a : Addr} {dd : Option Addr} {n : Nat} {sl : Array (Option Value)} {its : Array Value} {vs : List V} (l : K.lookup a = some ⟨.type "tuple", dd, .seq its n, sl⟩) (z : its.size ≤ sizeLine) (h : Vals vs its.toList) : SqT K F a vs :=
  .inr ⟨_, its, n, l, rfl, rfl, z, h⟩
end LD
namespace LD
open PySem PySem.Spec PyProof.Rows L2
/-- the law's def is called on the script behind the top: nothing but the script is known, and it stays -/
theorem law_at {P : Program} {w : World} {K : PySem.W.Frag} {mg mb : Str → Option Value} {T : Tab} {k : Nat} {fa a : Addr} {fd : FuncData} {x : Str} {φ : FnD} {s₁ : Shared} {vs : List Value} {ns : List Int}
    (KX : K.In s₁.heap) (hns : s₁.heap.Ns mainGlobals mg) (hb : s₁.heap.Ns builtinsNs mb) (hbb : ∀ x : Str, x ≠ "__name__" → mb x = bootBuiltins x) (hlim : s₁.heap.NoLimit) (hg : s₁.gens = #[])
    (ha : s₁.heap.get? a = some { cls := .type "list", data := .seq vs.toArray }) (hi : IntsAre vs ns) (hl : ns.length ≤ 63) (hr : Room k callerA)
    (F : ∀ base : Heap, K.In base → base.Ns mainGlobals mg → FnX P w K mg base T k fa fd [x] φ) (hbind : ∀ (s : Shared) (u : Value), BindsTo s fd ⟨[u], []⟩ [(x, u)]) (L : LawD 63 φ) :
    codeAny (model P w) callerA (.call (.ref fa) ⟨[.ref a], []⟩) (fun r s' => r = .ok (.ret (.bool true)) ∧ OldK s₁.heap s'.heap ∧ s'.os = s₁.os ∧ AllBare s'.gens) s₁ := by
  have rv := vals_ints hi
  have lenV := hi.length
  have h63 : (63 : Nat) ≤ sizeLine := by rw [sizeLine_eq]; decide
  obtain ⟨M, hM⟩ := L ns hl
  have go : ∀ H : Hp, SqL K H a (ns.map V.int) → HOk P w H s₁.heap → (∀ b u, H b = some u → b = a ∧ K.lookup a = none ∧ u = .frz { cls := .type "list", data := .seq vs.toArray } (.lst (ns.map V.int))) →
      codeAny (model P w) callerA (.call (.ref fa) ⟨[.ref a], []⟩) (fun r s' => r = .ok (.ret (.bool true)) ∧ OldK s₁.heap s'.heap ∧ s'.os = s₁.os ∧ AllBare s'.gens) s₁ := by
    intro H hS hok hA
    have noD : ∀ {b : Addr} {o : Obj} {es : Array DictEntry} {ep : Nat}, s₁.heap.get? b = some o → o.data = .dict es ep → H b = none := fun {b o es ep} e d => by
      cases q : H b with
      | none => rfl
      | some u =>
        obtain ⟨e1, _, _⟩ := hA b u q
        rw [e1, ha] at e
        cases e
        cases d
    have hid : ∀ {b : Addr} {m : Str → Option Value}, s₁.heap.Ns b m → (hidT s₁.heap H).Ns b m := fun {b m} ⟨o, es, ep, e, d, r⟩ => ⟨o, es, ep, hidT_get e (noD e d), d, r⟩
    have hKb : K.In (hidT s₁.heap H) := fun b o e => hidT_get (KX b o e) (by
      cases q : H b with
      | none => rfl
      | some u =>
        obtain ⟨e1, e2, _⟩ := hA b u q
        rw [e1, e2] at e
        cases e)
    obtain ⟨mc, l1, l2⟩ := hlim
    have e0 : Env0 P w K mg (hidT s₁.heap H) callerA [] s₁ H := ⟨rfl, ⟨hKb, hid hns, ⟨mb, hid hb, hbb⟩, ⟨mc, hid l1, l2⟩⟩, fun b o e => of_hidT e, Nat.le_of_eq (hidT_size _ _), trivial, fun b hb => (nomatch hb), hok, .of_eq hg⟩
    refine codeAny_mono ((F _ hKb (hid hns)).run [] callerA [] s₁ H ⟨[.ref a], []⟩ [.ref a] [.ref a] (fun v _ => v = .bl true) (fun _ _ _ => False) hr e0 (hbind s₁ (.ref a)) (.cons rfl .nil)
      ⟨[], H, [intsD ns], [], ⟨rfl, fun _ _ h => h, fun i o a e => by simp at e, fun i j a e => by simp at e, fun i a e => by simp at e, fun p hp => by simp at hp⟩, ⟨_, _, rfl, ⟨a, _, rfl, hS, intsD_rep ns⟩, rfl⟩, by
        rw [hM]
        intro ι' F' H' v _ _ rv
        exact rv⟩) fun r s' h => ?_
    cases r with
    | error e =>
      obtain ⟨_, _, _, _, _, _, _, _, _, _, _, _, z⟩ := h
      exact z.elim
    | ok fl =>
      cases fl with
      | next => exact False.elim h
      | brk => exact False.elim h
      | cont => exact False.elim h
      | ret u =>
        obtain ⟨v, H', os, bare, un, hok', r', q⟩ := h
        have q' : v = .bl true := q
        subst q'
        obtain rfl : u = Value.bool true := r'
        refine ⟨rfl, OldK.of_keep fun b o e => ?_, os, bare⟩
        cases q : H b with
        | none => exact un.keep b o e q (fun z => nomatch z) (fun z => nomatch z)
        | some u =>
          obtain ⟨e1, _, e3⟩ := hA b u q
          subst e3
          obtain ⟨f1, _⟩ := hok b _ q
          obtain ⟨f2, _⟩ := hok' b _ (un.frzs b _ _ q)
          exact f2.trans (f1.symm.trans e)
  cases hk : K.lookup a with
  | some o =>
    have e := KX a o hk
    rw [ha] at e
    cases e
    exact go (fun _ => none) (.inr ⟨_, vs.toArray, _, hk, rfl, rfl, rfl, by rw [List.size_toArray, lenV]; omega, by simpa using rv⟩) (fun b u z => nomatch z) fun b u z => nomatch z
  | none =>
    have at_ : ∀ b u, (if b = a then some (HO.frz { cls := .type "list", data := .seq vs.toArray } (.lst (ns.map V.int))) else none) = some u → b = a ∧ u = .frz { cls := .type "list", data := .seq vs.toArray } (.lst (ns.map V.int)) := fun b u z => by
      split at z
      · rename_i hb
        cases z
        exact ⟨hb, rfl⟩
      · cases z
    refine go (fun b => if b = a then some (.frz { cls := .type "list", data := .seq vs.toArray } (.lst (ns.map V.int))) else none) (.inl (.inr ⟨_, if_pos rfl⟩)) (fun b u z => ?_) fun b u z => ⟨(at_ b u z).1, hk, (at_ b u z).2⟩
    obtain ⟨e1, e2⟩ := at_ b u z
    subst e1 e2
    exact ⟨ha, by rw [List.length_map]; omega, vs, _, rv, ha⟩
theorem walk_d {l : PySem.W.OpenLaw} {k : Nat} {q : Program} {loose : List Str} {XP : (Str → Option Value) → Heap → Prop} {YP : World → Heap → Prop} {d : DefRec} {K : Params → PySem.W.Frag} {x : Str} {φ : FnD} (hn : l.most = some 63) (hdf : d.params.defaults = [])
    (hY : ∀ (w : World) (h : Heap), YP w h → (K w.params).In h) (hr : L2.Room k callerA) (L : LawD 63 φ)
    (F : ∀ (w : World) (mg : Str → Option Value) (fa : Addr) (h : Heap), (K w.params).In h → h.Ns mainGlobals mg → mg d.name = some (.ref fa) →
      ∃ (T : Tab) (fd : FuncData), (∀ (s : Shared) (u : Value), BindsTo s fd ⟨[u], []⟩ [(x, u)]) ∧ ∀ base : Heap, (K w.params).In base → base.Ns mainGlobals mg → FnX l.prog w (K w.params) mg base T k fa fd [x] φ) :
    PySem.W.WalkO q loose XP YP l.row.toRowW d [] (fun f vs => PySem.call f vs) := by
  refine Att.attach_call hn hdf fun w s₀ s₁ mg mb fa o pm cd doc a vs ns G Y ho hd hcd hmg hobj hints hlen hg => ?_
  have KX := hY w _ Y
  obtain ⟨T, fd, hb, hF⟩ := F w mg fa _ KX G.T.g hmg
  exact law_at KX G.T.g G.T.b G.T.builtins G.T.nolimit hg hobj hints hlen ⟨hr, rfl⟩ hF hb L
end LD
namespace LD
open PySem PySem.Spec PyProof.Rows L2

/-! ### evaluation, step by step: every row holds by computation -/
/-- what is not looked into before its turn -/
inductive Tg {α : Type} (a : α) : Type
  | mk
def pick {α : Type} (k : Bool) (a b : α) (_ : Tg a) (_ : Tg b) : α := if k then a else b
theorem pick_t {α : Type} {a b : α} {t : Tg a} {u : Tg b} : pick true a b t u = a := rfl
theorem pick_f {α : Type} {a b : α} {t : Tg a} {u : Tg b} : pick false a b t u = b := rfl
def bnd {α β : Type} (r : R α) (f : α → Mem → R β) (_ : Tg f) : R β := r.bind f
theorem bind_k {α β : Type} {a : α} {M : Mem} {f : α → Mem → R β} {t : Tg f} : bnd (R.ok a M) f t = f a M := rfl
theorem bind_b {α β : Type} {f : α → Mem → R β} {t : Tg f} : bnd (R.bad : R α) f t = .bad := rfl
theorem bind_e {α β : Type} {x : Exn} {M : Mem} {f : α → Mem → R β} {t : Tg f} : bnd (R.er x M : R α) f t = .er x M := rfl
def bndS {α : Type} (r : R α) (s : DS) (f : α → Mem → RS) (_ : Tg f) : RS := bindS r s f
theorem bindS_k {α : Type} {a : α} {M : Mem} {s : DS} {k : α → Mem → RS} {t : Tg k} : bndS (.ok a M) s k t = k a M := rfl
theorem bindS_e {α : Type} {x : Exn} {M : Mem} {s : DS} {k : α → Mem → RS} {t : Tg k} : bndS (.er x M : R α) s k t = .er x s M := rfl
theorem ofO_s {α : Type} {a : α} {M : Mem} : ofO (some (a, M)) = .ok a M := rfl
def getV (o : Option (Option D)) (M : Mem) : R D := match o with
  | some (some d) => .ok d M
  | _ => .bad
theorem getV_s {d : D} {M : Mem} : getV (some (some d)) M = .ok d M := rfl
def truK (o : Option Bool) (k : Bool → R α) (_ : Tg k) : R α := match o with
  | some b => k b
  | none => .bad
theorem truK_s {α : Type} {b : Bool} {k : Bool → R α} {t : Tg k} : truK (some b) k t = k b := rfl
def blK (z : D) (k : Bool → R α) (_ : Tg k) : R α := match z with
  | .bl b => k b
  | _ => .bad
theorem blK_b {α : Type} {b : Bool} {k : Bool → R α} {t : Tg k} : blK (.bl b) k t = k b := rfl
section
variable {s : DS} {M : Mem} {d x y : D} {i j : Nat} {a b c : Sem1 D} {τ υ : Sem1 Bool} {g g' : O2} {u : O1} {α κ : Sem1 (List D)} {φ : FnD} {ψ χ : SSem} {γ : GSem}
theorem q_C : eC d s M = .ok d M := rfl
theorem q_Var : eVar i s M = getV s[i]? M := rfl
theorem q_Bin : eBin g a b s M = bnd (a s M) (fun x M1 => bnd (b s M1) (fun y M2 => ofO (g x y M2)) .mk) .mk := rfl
theorem q_Un : eUn u a s M = bnd (a s M) (fun x M1 => ofO (u x M1)) .mk := rfl
theorem q_tOf : tOf a s M = bnd (a s M) (fun x M1 => truK (truD M1 x) (fun b => .ok b M1) .mk) .mk := by
  show (a s M).bind _ = (a s M).bind _
  congr 1
theorem q_tCmp : tCmp g a b s M = bnd (eBin g a b s M) (fun z M1 => blK z (fun k => .ok k M1) .mk) .mk := by
  show (eBin g a b s M).bind _ = (eBin g a b s M).bind _
  congr 1
theorem q_tAnd : tAnd τ υ s M = bnd (τ s M) (fun k M1 => pick k (υ s M1) (.ok false M1) .mk .mk) .mk := rfl
theorem q_tOr : tOr τ υ s M = bnd (τ s M) (fun k M1 => pick k (.ok true M1) (υ s M1) .mk .mk) .mk := rfl
theorem q_tNot : tNot τ s M = bnd (τ s M) (fun k M1 => .ok (!k) M1) .mk := rfl
theorem q_And : eAnd a b s M = bnd (a s M) (fun x M1 => truK (truD M1 x) (fun k => pick k (b s M1) (.ok x M1) .mk .mk) .mk) .mk := by
  show (a s M).bind _ = (a s M).bind _
  congr 1
theorem q_Or : eOr a b s M = bnd (a s M) (fun x M1 => truK (truD M1 x) (fun k => pick k (.ok x M1) (b s M1) .mk .mk) .mk) .mk := by
  show (a s M).bind _ = (a s M).bind _
  congr 1
theorem q_Not : eNot a s M = bnd (a s M) (fun x M1 => truK (truD M1 x) (fun k => .ok (.bl (!k)) M1) .mk) .mk := by
  show (a s M).bind _ = (a s M).bind _
  congr 1
theorem q_If : eIf τ a b s M = bnd (τ s M) (fun k M1 => pick k (a s M1) (b s M1) .mk .mk) .mk := rfl
theorem q_Nil : aNil s M = .ok [] M := rfl
theorem q_Cons : aCons a α s M = bnd (a s M) (fun x M1 => bnd (α s M1) (fun xs M2 => .ok (x :: xs) M2) .mk) .mk := rfl
theorem q_Tup : eTup α s M = bnd (α s M) (fun xs M1 => if xs.length ≤ LINE then .ok (.tup xs) M1 else .bad) .mk := rfl
theorem q_Lst : eLst false α s M = bnd (α s M) (fun xs M1 => if xs.length ≤ LINE then .ok (.lst xs) M1 else .bad) .mk := rfl
theorem q_LstM : eLst true α s M = bnd (α s M) (fun xs M1 => if xs.length ≤ LINE then .ok (.ref M1.length) (M1 ++ [.lst xs]) else .bad) .mk := rfl
theorem q_Call : eCall φ α κ s M = bnd (α s M) (fun ds M1 => bnd (κ s M1) (fun zs M2 => φ (ds ++ zs) M2) .mk) .mk := rfl
def nonK (z r : D) (M : Mem) : R D := match z with
  | .non => .ok r M
  | _ => .bad
theorem nonK_n {r : D} : nonK .non r M = .ok r M := rfl
theorem q_mkF {c n : Nat} {xs : List D} : mkF c n φ xs M = bnd (φ (.ref M.length :: xs) (M ++ [.ins c (List.replicate n none)])) (fun v M' => nonK v (.ref M.length) M') .mk := by
  show R.bind _ _ = R.bind _ _
  congr 1
def okK (r : R D) : R D := match r with
  | .ok d M1 => .ok d M1
  | _ => .bad
theorem okK_o : okK (.ok d M) = .ok d M := rfl
def insK (o : Option DO) (k : Nat → List (Option D) → R D) (_ : Tg k) : R D := match o with
  | some (.ins c fs) => k c fs
  | _ => .bad
def refK (x : D) (k : Nat → R D) (_ : Tg k) : R D := match x with
  | .ref i => k i
  | _ => .bad
def lookK {β : Type} (o : Option β) (k : β → R D) (e : R D) (_ : Tg k) (_ : Tg e) : R D := match o with
  | some φ => k φ
  | none => e
theorem refK_r {k : Nat → R D} {t : Tg k} : refK (.ref i) k t = k i := rfl
theorem insK_i {c : Nat} {fs : List (Option D)} {k : Nat → List (Option D) → R D} {t : Tg k} : insK (some (.ins c fs)) k t = k c fs := rfl
theorem lookK_s {β : Type} {p : β} {k : β → R D} {e : R D} {t : Tg k} {u : Tg e} : lookK (some p) k e t u = k p := rfl
theorem lookK_n {β : Type} {k : β → R D} {e : R D} {t : Tg k} {u : Tg e} : lookK none k e t u = e := rfl
theorem q_Meth {tbl : List (Nat × FnD)} : eMeth tbl a α κ s M = bnd (a s M) (fun x M0 => refK x (fun i => insK M0[i]? (fun c _ => lookK (tbl.lookup c) (fun φ => bnd (α s M0) (fun ds M1 => bnd (κ s M1) (fun zs M2 => φ ([.ref i] ++ ds ++ zs) M2) .mk) .mk) .bad .mk .mk) .mk) .mk) .mk := by
  show R.bind _ _ = R.bind _ _
  congr 1
  funext x M0
  cases x <;> try rfl
  rename_i i
  simp only [refK]
  cases M0[i]? with
  | none => rfl
  | some o =>
    cases o <;> try rfl
    rename_i c fs
    simp only [insK]
    cases tbl.lookup c <;> rfl
theorem q_Attr {tp : List (Nat × FnD)} {tf : List (Nat × Nat)} : eAttr tp tf a s M = bnd (a s M) (fun x M0 => refK x (fun i => insK M0[i]? (fun c fs => lookK (tp.lookup c) (fun φ => okK (φ [.ref i] M0)) (lookK (tf.lookup c) (fun j => getV fs[j]? M0) .bad .mk .mk) .mk .mk) .mk) .mk) .mk := by
  show R.bind _ _ = R.bind _ _
  congr 1
  funext x M0
  cases x <;> try rfl
  rename_i i
  simp only [refK]
  cases M0[i]? with
  | none => rfl
  | some o =>
    cases o <;> try rfl
    rename_i c fs
    simp only [insK]
    cases tp.lookup c with
    | some φ => rfl
    | none =>
      simp only [lookK]
      cases tf.lookup c with
      | none => rfl
      | some j =>
        simp only
        cases fs[j]? with
        | none => rfl
        | some o => cases o <;> rfl
theorem q_Blt {h : OL} : eBlt h α s M = bnd (α s M) (fun ds M1 => ofO (h ds M1)) .mk := rfl
def cmpK (mu : Bool) (src : Src) (γ : GSem) (τ : Sem1 Bool) (a : Sem1 D) (s : DS) (M : Mem) : R D := if src.xs.length ≤ LINE then bnd (compV src.chk γ τ a s src.xs M) (fun ys M2 => finL mu ys M2) .mk else .bad
theorem cmpK_l {mu : Bool} {xs : List D} {chk : Mem → Bool} (h : xs.length ≤ LINE) : cmpK mu ⟨xs, chk⟩ γ τ a s M = bnd (compV chk γ τ a s xs M) (fun ys M2 => finL mu ys M2) .mk := if_pos h
theorem q_Comp {mu : Bool} {χ : Sem1 Src} {own : List Nat} : eComp mu χ γ τ a own s M = bnd (χ s M) (fun src M1 => cmpK mu src γ τ a (wipeD s own) M1) .mk := rfl
theorem finL_f {xs : List D} : finL false xs M = .ok (.lst xs) M := rfl
theorem finL_t {xs : List D} : finL true xs M = .ok (.ref M.length) (M ++ [.lst xs]) := rfl
def srcK (o : Option Src) (M : Mem) : R Src := match o with
  | some src => .ok src M
  | none => .bad
theorem srcK_s {c : Src} : srcK (some c) M = .ok c M := rfl
theorem q_iOf : iOf a s M = bnd (a s M) (fun x M1 => srcK (srcOf M1 x) M1) .mk := by
  unfold iOf srcK ; rfl
def rngK (xs : List D) (M : Mem) : R Src := match xs with
  | [.int n] => if mid n then .ok ⟨rangeL 0 n.toNat 1, fun _ => true⟩ M else .bad
  | [.int m, .int n] => if mid m && mid n then .ok ⟨rangeL m (n - m).toNat 1, fun _ => true⟩ M else .bad
  | _ => .bad
theorem q_iRange : iRange α s M = bnd (α s M) (fun xs M1 => rngK xs M1) .mk := rfl
theorem rngK_1 {n : Int} (h : mid n = true) : rngK [.int n] M = .ok ⟨rangeL 0 n.toNat 1, fun _ => true⟩ M := by
  show (if mid n = true then _ else _) = _
  rw [if_pos h]
/-! statements -/
def RS.seq (r : RS) (k : DS → Mem → RS) (_ : Tg k) : RS := match r with
  | .nx s M => k s M
  | r => r
theorem seq_n {k : DS → Mem → RS} {t : Tg k} : (RS.nx s M).seq k t = k s M := rfl
theorem seq_r {k : DS → Mem → RS} {t : Tg k} : (RS.rt d M).seq k t = .rt d M := rfl
theorem seq_b {k : DS → Mem → RS} {t : Tg k} : (RS.bk s M).seq k t = .bk s M := rfl
theorem seq_c {k : DS → Mem → RS} {t : Tg k} : (RS.ct s M).seq k t = .ct s M := rfl
theorem seq_e {e : Exn} {k : DS → Mem → RS} {t : Tg k} : (RS.er e s M).seq k t = .er e s M := rfl
theorem q_Next : sNext s M = .nx s M := rfl
theorem q_Seq : sSeq ψ χ s M = (ψ s M).seq χ .mk := by
  unfold sSeq RS.seq
  cases ψ s M <;> rfl
theorem q_Expr : sExpr a s M = bndS (a s M) s (fun _ M' => .nx s M') .mk := rfl
theorem q_Ret : sRet a s M = bndS (a s M) s (fun d M' => .rt d M') .mk := rfl
theorem q_RetN : sRetN s M = .rt .non M := rfl
theorem q_SIf : sIf τ ψ χ s M = bndS (τ s M) s (fun k M' => pick k (ψ s M') (χ s M') .mk .mk) .mk := rfl
theorem q_Bk : sBk s M = .bk s M := rfl
theorem q_Ct : sCt s M = .ct s M := rfl
def storeK (o : Option DS) (M : Mem) : RS := match o with
  | some s' => .nx s' M
  | none => .bad
theorem storeK_s : storeK (some s) M = .nx s M := rfl
theorem q_Asg : sAsg γ a s M = bndS (a s M) s (fun d M' => storeK (γ d M' s) M') .mk := by
  unfold sAsg storeK ; rfl
theorem q_Nm : gNm i d M s = some (s.set i (some d)) := rfl
def memK (o : Option Mem) (s : DS) : RS := match o with
  | some M => .nx s M
  | none => .bad
theorem memK_s : memK (some M) s = .nx s M := rfl
theorem q_Sub : sSub a b c s M = bndS (c s M) s (fun d M1 => bndS (a s M1) s (fun x M2 => bndS (b s M2) s (fun y M3 => memK (setD x y d M3) s) .mk) .mk) .mk := by
  unfold sSub memK ; rfl
theorem q_Del : sDel a b s M = bndS (a s M) s (fun x M2 => bndS (b s M2) s (fun y M3 => memK (delD x y M3) s) .mk) .mk := by
  unfold sDel memK ; rfl
def refS (x : D) (k : Nat → RS) (_ : Tg k) : RS := match x with
  | .ref i => k i
  | _ => .bad
def insS (o : Option DO) (k : Nat → List (Option D) → RS) (_ : Tg k) : RS := match o with
  | some (.ins c fs) => k c fs
  | _ => .bad
def lookS {β : Type} (o : Option β) (k : β → RS) (_ : Tg k) : RS := match o with
  | some φ => k φ
  | none => .bad
theorem refS_r {k : Nat → RS} {t : Tg k} : refS (.ref i) k t = k i := rfl
theorem insS_i {c : Nat} {fs : List (Option D)} {k : Nat → List (Option D) → RS} {t : Tg k} : insS (some (.ins c fs)) k t = k c fs := rfl
theorem lookS_s {β : Type} {p : β} {k : β → RS} {t : Tg k} : lookS (some p) k t = k p := rfl
theorem q_Fld {tf : List (Nat × Nat)} : sFldD tf a b s M = bndS (b s M) s (fun d M1 => bndS (a s M1) s (fun x M2 => refS x (fun i => insS M2[i]? (fun c fs => lookS (tf.lookup c) (fun j => .nx s (M2.set i (.ins c (fs.set j (some d))))) .mk) .mk) .mk) .mk) .mk := by
  show bindS _ _ _ = bindS _ _ _
  congr 1
  funext d M1
  show bindS _ _ _ = bindS _ _ _
  congr 1
  funext x M2
  cases x <;> try rfl
  rename_i i
  simp only [refS]
  cases M2[i]? with
  | none => rfl
  | some o =>
    cases o <;> try rfl
    rename_i c fs
    simp only [insS]
    cases tf.lookup c <;> rfl
theorem q_Dic : eDic0 true s M = .ok (.ref M.length) (M ++ [.dic []]) := rfl
theorem q_For {χ : Sem1 Src} : sFor χ γ ψ s M = bndS (χ s M) s (fun src M1 => forV src.chk γ ψ src.xs s M1) .mk := rfl
def endF (r : RS) : R D := match r with
  | .nx _ M' => .ok .non M'
  | .rt d M' => .ok d M'
  | .er x _ M' => .er x M'
  | _ => .bad
theorem endF_n : endF (.nx s M) = .ok .non M := rfl
theorem endF_r : endF (.rt d M) = .ok d M := rfl
theorem endF_e {e : Exn} : endF (.er e s M) = .er e M := rfl
theorem q_def {n np : Nat} {ds : List D} (h : ds.length = np) : defD n np ψ ds M = endF (ψ (startD n ds) M) := by
  unfold defD
  exact (if_pos h).trans (by cases ψ (startD n ds) M <;> rfl)
theorem run_def {n np : Nat} {ds : List D} {r : R D} (h : ds.length = np) (e : endF (ψ (startD n ds) M) = r) : defD n np ψ ds M = r := (q_def h).trans e
/-! operators -/
theorem ifT {α : Type} {h : Decidable True} {a b : α} : (@ite α True h a b) = a := if_pos trivial
theorem le0 : (0 ≤ LINE) = True := eq_true (by decide)
theorem le1 : (1 ≤ LINE) = True := eq_true (by decide)
theorem le2 : (2 ≤ LINE) = True := eq_true (by decide)
theorem le3 : (3 ≤ LINE) = True := eq_true (by decide)
theorem le4 : (4 ≤ LINE) = True := eq_true (by decide)
theorem le5 : (5 ≤ LINE) = True := eq_true (by decide)
theorem le6 : (6 ≤ LINE) = True := eq_true (by decide)
variable {p q : Int}
theorem v_add : addD (.int p) (.int q) M = some (.int (p + q), M) := rfl
theorem v_sub : subD (.int p) (.int q) M = some (.int (p - q), M) := rfl
theorem v_mul (h : (small p || small q) = true) : mulD (.int p) (.int q) M = some (.int (p * q), M) := if_pos h
theorem v_fdiv (h : 0 < q) (h2 : q < 1073741824) : fdivD (.int p) (.int q) M = some (.int (p / q), M) := if_pos (fdok_iff.mpr ⟨h, h2⟩)
theorem v_mulR (h : -18446744073709551616 < q) (h2 : q < 18446744073709551616) : mulD (.int p) (.int q) M = some (.int (p * q), M) := v_mul (by
  have : small q = true := small_iff.mpr ⟨h, h2⟩
  rw [this, Bool.or_true])
theorem v_mulL (h : -18446744073709551616 < p) (h2 : p < 18446744073709551616) : mulD (.int p) (.int q) M = some (.int (p * q), M) := v_mul (by
  have : small p = true := small_iff.mpr ⟨h, h2⟩
  rw [this, Bool.true_or])
theorem v_mod (h : 0 < q) : modD (.int p) (.int q) M = some (.int (p % q), M) := if_pos (decide_eq_true h)
theorem v_int : intC [.int p] M = some (.int p, M) := rfl
theorem v_lt : boD ltB (.int p) (.int q) M = some (.bl (decide (p < q)), M) := rfl
theorem v_le : boD leB (.int p) (.int q) M = some (.bl (decide (p ≤ q)), M) := rfl
theorem v_gt : boD gtB (.int p) (.int q) M = some (.bl (decide (q < p)), M) := rfl
theorem v_ge : boD geB (.int p) (.int q) M = some (.bl (decide (q ≤ p)), M) := rfl
theorem v_eq : boD eqD (.int p) (.int q) M = some (.bl (p == q), M) := rfl
theorem v_ne : boD (notB eqD) (.int p) (.int q) M = some (.bl (!(p == q)), M) := rfl
theorem v_len {xs : List D} : lenC [.lst xs] M = some (.int xs.length, M) := rfl
theorem v_tix {xs : List D} : ixD (.tup xs) (.int p) M = (atI xs p).map fun d => (d, M) := rfl
theorem v_lix {xs : List D} : ixD (.lst xs) (.int p) M = (atI xs p).map fun d => (d, M) := rfl
def rixK (o : Option DO) (y : D) (M : Mem) : Option (D × Mem) := match o with
  | some (.lst xs) => (match y with
    | .int i => (atI xs i).map fun d => (d, M)
    | _ => none)
  | some (.dic kvs) => (keyOf y).bind fun k => (getK kvs k).map fun d => (d, M)
  | _ => none
theorem v_rix : ixD (.ref i) y M = rixK M[i]? y M := by
  unfold ixD rixK
  simp only [dcOf, lsOf]
  cases M[i]? with
  | none => rfl
  | some o => cases o <;> rfl
theorem rixK_l {xs : List D} : rixK (some (.lst xs)) (.int p) M = (atI xs p).map fun d => (d, M) := rfl
theorem rixK_d {kvs : List (Key × D)} : rixK (some (.dic kvs)) (.int p) M = (getK kvs (.inl p)).map fun d => (d, M) := rfl
theorem v_truB {b : Bool} : truD M (.bl b) = some b := rfl
theorem v_truL {xs : List D} : truD M (.lst xs) = some (!xs.isEmpty) := rfl
theorem v_truN : truD M .non = some false := rfl
theorem v_srcL {xs : List D} : srcOf M (.lst xs) = some ⟨xs, fun _ => true⟩ := rfl
theorem v_neg : negD (.int p) M = some (.int (-p), M) := rfl
theorem nn_n : isNon .non = true := rfl
theorem nn_i : isNon (.int p) = false := rfl
theorem nn_t {xs : List D} : isNon (.tup xs) = false := rfl
theorem nn_l {xs : List D} : isNon (.lst xs) = false := rfl
theorem nn_r : isNon (.ref i) = false := rfl
theorem nn_b {b : Bool} : isNon (.bl b) = false := rfl
theorem nn_s {x : Str} : isNon (.str x) = false := rfl
theorem v_isN {b : Bool} : boD isB (.bl b) (.bl c') M = some (.bl (b == c'), M) := rfl
theorem v_isnN {b : Bool} : boD (notB isB) (.bl b) (.bl c') M = some (.bl (!(b == c')), M) := rfl
theorem v_isNone : boD isB x .non M = some (.bl (isNon x), M) := rfl
theorem v_isNoneN : boD (notB isB) x .non M = some (.bl (!isNon x), M) := rfl
end
end LD
namespace LD
open PySem PySem.Spec PyProof.Rows L2

/-! ### equal to itself -/
mutual
def okD : Nat → D → Bool
  | _, .non => true
  | _, .bl _ => true
  | _, .int _ => true
  | _, .str x => (PyData.str x).canLay0
  | n + 1, .lst xs => okL n xs
  | n + 1, .tup xs => okL n xs
  | _, _ => false
def okL : Nat → List D → Bool
  | _, [] => true
  | n, x :: xs => okD n x && okL n xs
end
mutual
theorem okD_py : ∀ (n : Nat) (d : D), okD n d = true → ∃ p, pyD d = some p ∧ p.canLay0 = true ∧ p.depth ≤ n
  | n, .non, _ => ⟨_, rfl, by simp [PyData.canLay0], by simp [PyData.depth]⟩
  | n, .bl b, _ => ⟨_, rfl, by simp [PyData.canLay0], by simp [PyData.depth]⟩
  | n, .int b, _ => ⟨_, rfl, by simp [PyData.canLay0], by simp [PyData.depth]⟩
  | n + 1, .lst xs, h => by
    rw [okD] at h
    obtain ⟨ps, h1, h2, h3⟩ := okL_py n xs h
    exact ⟨.list ps, by rw [pyD, h1] <;> rfl, by rw [PyData.canLay0]; exact h2, by rw [PyData.depth]; omega⟩
  | n + 1, .tup xs, h => by
    rw [okD] at h
    obtain ⟨ps, h1, h2, h3⟩ := okL_py n xs h
    exact ⟨.tuple ps, by rw [pyD, h1] <;> rfl, by rw [PyData.canLay0]; exact h2, by rw [PyData.depth]; omega⟩
  | n, .str x, h => ⟨.str x, rfl, by simpa only [okD] using h, by simp [PyData.depth]⟩
  | n, .ty _, h => by simp [okD] at h
  | n, .dic _ _, h => by simp [okD] at h
  | n, .ref _, h => by simp [okD] at h
  | n, .glb _, h => by simp [okD] at h
  | 0, .lst _, h => by simp [okD] at h
  | 0, .tup _, h => by simp [okD] at h
theorem okL_py : ∀ (n : Nat) (ds : List D), okL n ds = true → ∃ ps, pyL ds = some ps ∧ PyData.canLayAll0 ps = true ∧ PyData.depthAll ps ≤ n
  | n, [], _ => ⟨[], rfl, rfl, by simp [PyData.depthAll]⟩
  | n, x :: xs, h => by
    rw [okL, Bool.and_eq_true] at h
    obtain ⟨p, h1, h2, h3⟩ := okD_py n x h.1
    obtain ⟨ps, h4, h5, h6⟩ := okL_py n xs h.2
    exact ⟨p :: ps, by rw [pyL, h1, h4] <;> rfl, by rw [PyData.canLayAll0, h2, h5] <;> rfl, by rw [PyData.depthAll]; omega⟩
end
theorem okL_map {α : Type} {n : Nat} {e : α → D} : ∀ {as : List α}, (∀ a ∈ as, okD n (e a) = true) → okL n (as.map e) = true
  | [], _ => by simp [okL]
  | a :: as, h => by
    rw [List.map_cons, okL, h a List.mem_cons_self, okL_map fun b hb => h b (List.mem_cons_of_mem _ hb)] <;> rfl
theorem eqD_self {n : Nat} {d : D} {M : Mem} (h : okD n d = true) (hn : n ≤ 64) : eqD M d d = some true := by
  obtain ⟨p, h1, h2, h3⟩ := okD_py n d h
  have hp : pyOf M d = some p := by
    cases d <;> first | exact h1 | (simp [okD] at h)
  unfold eqD
  split
  · rename_i hf
    cases d <;> first | rfl | (simp [eqF]; done) | (simp [isF] at hf)
  · rw [hp]
    show (if (SeqAt.shaped p && SeqAt.shaped p) = true then some (PyData.eqv p p) else none) = some true
    have hs : SeqAt.shaped p = true := by
      unfold SeqAt.shaped
      rw [h2, decide_eq_true (by omega)] <;> rfl
    rw [hs, SeqAt.eqv_refl p h2] <;> rfl
theorem v_eqS {n : Nat} {d : D} {M : Mem} (h : okD n d = true) (hn : n ≤ 64) : boD eqD d d M = some (.bl true, M) := by
  unfold boD
  rw [eqD_self h hn] <;> rfl
theorem v_neS {n : Nat} {d : D} {M : Mem} (h : okD n d = true) (hn : n ≤ 64) : boD (notB eqD) d d M = some (.bl false, M) := by
  unfold boD notB
  rw [eqD_self h hn] <;> rfl

/-! ### comprehensions and loops -/
theorem compV_map {α : Type} {chk : Mem → Bool} {γ : GSem} {τ : Sem1 Bool} {φ : Sem1 D} {s : DS} {M : Mem} {e g : α → D} {p : α → Bool} (hc : chk M = true) : ∀ {as : List α},
    (∀ a ∈ as, ∃ s1, γ (e a) M s = some s1 ∧ τ s1 M = .ok (p a) M ∧ (p a = true → φ s1 M = .ok (g a) M)) → compV chk γ τ φ s (as.map e) M = .ok ((as.filter p).map g) M
  | [], _ => by
    show (if chk M then _ else _) = _
    rw [if_pos hc] <;> rfl
  | a :: as, h => by
    obtain ⟨s1, h1, h2, h3⟩ := h a List.mem_cons_self
    have ih := compV_map (chk := chk) (γ := γ) (τ := τ) (φ := φ) (s := s) (M := M) (e := e) (g := g) (p := p) hc (as := as) fun b hb => h b (List.mem_cons_of_mem _ hb)
    rw [List.map_cons, compV, if_pos hc, h1]
    simp only [h2]
    by_cases hp : p a = true
    · rw [if_pos hp, h3 hp, List.filter_cons_of_pos hp, List.map_cons]
      simp only [ih, R.bind_ok]
    · rw [if_neg hp, List.filter_cons_of_neg hp, ih]
theorem forV_ind {chk : Mem → Bool} {γ : GSem} {ψ : SSem} (P : Nat → DS → Mem → Prop) : ∀ (xs : List D) (k : Nat) (s : DS) (M : Mem), P k s M → (∀ i x s M, xs[i]? = some x → P (k + i) s M → chk M = true ∧ ∃ s1, γ x M s = some s1 ∧ ∃ s2 M2, (ψ s1 M = .nx s2 M2 ∨ ψ s1 M = .ct s2 M2) ∧ P (k + i + 1) s2 M2) →
    (∀ s M, P (k + xs.length) s M → chk M = true) → ∃ s' M', forV chk γ ψ xs s M = .nx s' M' ∧ P (k + xs.length) s' M'
  | [], k, s, M, h, _, e => by
    refine ⟨s, M, ?_, h⟩
    rw [forV, if_pos (e s M h)]
  | x :: xs, k, s, M, h, t, e => by
    obtain ⟨c, s1, h1, s2, M2, h2, h3⟩ := t 0 x s M rfl h
    obtain ⟨s', M', a1, a2⟩ := forV_ind (chk := chk) (γ := γ) (ψ := ψ) P xs (k + 1) s2 M2 h3 (fun i y s M hy hp => by
      have z := t (i + 1) y s M hy (by rw [show k + (i + 1) = k + 1 + i by omega]; exact hp)
      rw [show k + (i + 1) = k + 1 + i by omega] at z
      exact z) (fun s M hp => e s M (by rw [List.length_cons, show k + (xs.length + 1) = k + 1 + xs.length by omega]; exact hp))
    refine ⟨s', M', ?_, by rw [List.length_cons, show k + (xs.length + 1) = k + 1 + xs.length by omega]; exact a2⟩
    rw [forV, if_pos c, h1]
    rcases h2 with h2 | h2
    · simp only [h2, a1]
    · simp only [h2, a1]
theorem forV_n {chk : Mem → Bool} {γ : GSem} {ψ : SSem} {s : DS} {M : Mem} (hc : chk M = true) : forV chk γ ψ [] s M = .nx s M := if_pos hc
theorem forV_c {chk : Mem → Bool} {γ : GSem} {ψ : SSem} {s s1 s2 : DS} {M M2 : Mem} {x : D} {xs : List D} (hc : chk M = true) (hg : γ x M s = some s1) (h : ψ s1 M = .nx s2 M2) : forV chk γ ψ (x :: xs) s M = forV chk γ ψ xs s2 M2 := by
  rw [forV, if_pos hc, hg]
  simp only [h]
theorem forV_r {chk : Mem → Bool} {γ : GSem} {ψ : SSem} {s s1 : DS} {M M2 : Mem} {x d : D} {xs : List D} (hc : chk M = true) (hg : γ x M s = some s1) (h : ψ s1 M = .rt d M2) : forV chk γ ψ (x :: xs) s M = .rt d M2 := by
  rw [forV, if_pos hc, hg]
  simp only [h]
theorem rangeL_mem {n : Nat} {x : D} (h : x ∈ rangeL 0 n 1) : ∃ k : Nat, x = .int (k : Int) ∧ k < n := by
  unfold rangeL at h
  obtain ⟨k, h1, rfl⟩ := List.mem_map.mp h
  exact ⟨k, by rw [Int.mul_one, Int.zero_add], List.mem_range.mp h1⟩
theorem rangeL_map (n : Nat) : rangeL 0 n 1 = ((List.range n).map fun i : Nat => (i : Int)).map D.int := by
  unfold rangeL
  rw [List.map_map]
  apply List.map_congr_left
  intro i _
  show D.int (0 + (i : Int) * 1) = D.int (i : Int)
  congr 1
  omega
theorem rng4 : rangeL 0 4 1 = [(0 : Int), 1, 2, 3].map D.int := rfl
theorem at0 {α : Type} {x : α} {xs : List α} : atI (x :: xs) 0 = some x := by
  unfold atI ixN
  simp
theorem atN {α : Type} {xs : List α} {n : Nat} {x : α} (h : xs[n]? = some x) : atI xs (n : Int) = some x := by
  have hl := (List.getElem?_eq_some_iff.mp h).1
  unfold atI ixN
  rw [if_pos (by omega), if_pos (by omega)]
  show xs[((n : Int)).toNat]? = _
  rw [Int.toNat_natCast, h]
theorem at1 {α : Type} {x y : α} {xs : List α} : atI (x :: y :: xs) 1 = some y := atN (n := 1) rfl
theorem atL {α : Type} {xs : List α} {x : α} (h : xs.getLast? = some x) : atI xs (-1) = some x := by
  have hne : xs ≠ [] := fun e => by rw [e] at h; cases h
  have hp : 0 < xs.length := List.length_pos_iff.mpr hne
  unfold atI ixN
  rw [if_neg (by omega), if_pos (by omega)]
  show xs[(-1 + (xs.length : Int)).toNat]? = _
  rw [List.getLast?_eq_getElem?] at h
  rw [← h]
  congr 1
  omega
theorem rngN {n : Int} {M : Mem} (h0 : -1000000 < n) (h : n < 1000000) : rngK [.int n] M = .ok ⟨rangeL 0 n.toNat 1, fun _ => true⟩ M := rngK_1 (mid_iff.mpr ⟨by omega, by omega⟩)
theorem rangeL_len {a : Int} {n : Nat} {c : Int} : (rangeL a n c).length = n := by
  unfold rangeL
  rw [List.length_map, List.length_range]
theorem gTp2 {i j : Nat} {x y : D} {M : Mem} {s : DS} : gTp [i, j] (.tup [x, y]) M s = some ((s.set i (some x)).set j (some y)) := rfl
/-- a text in lists of ints -/
theorem eqb_mut {i : Nat} {xs : List D} {M : Mem} (h : M[i]? = some (.lst xs)) : mutChk i xs M = true := by
  unfold mutChk
  rw [h]
  exact eqbL_refl xs
theorem v_addL {a b : List D} {M : Mem} (h : a.length + b.length ≤ LINE) : addD (.lst a) (.lst b) M = some (.lst (a ++ b), M) := if_pos h
theorem pyL_map {α : Type} {e : α → D} {f : α → PyData} (h : ∀ a, pyD (e a) = some (f a)) : ∀ as : List α, pyL (as.map e) = some (as.map f)
  | [] => rfl
  | a :: as => by
    rw [List.map_cons, pyL, h a, pyL_map h as] <;> rfl
theorem eqF_int {a b : Int} : eqF (.int a) (.int b) = (a == b) := rfl
theorem any_int {k : Int} : ∀ ls : List Int, ((ls.map D.int).any fun z => eqF z (.int k)) = decide (k ∈ ls)
  | [] => rfl
  | a :: r => by
    rw [List.map_cons, List.any_cons, any_int r, eqF_int]
    by_cases h : a = k
    · subst h
      simp
    · have h' : ¬ k = a := fun e => h e.symm
      simp [h, h']
theorem all_int : ∀ ls : List Int, (ls.map D.int).all isF = true
  | [] => rfl
  | a :: r => by rw [List.map_cons, List.all_cons, all_int r] <;> rfl
theorem v_inI {k : Int} {ls : List Int} {M : Mem} : inD M (.int k) (.lst (ls.map D.int)) = some (decide (k ∈ ls)) := by
  show (if (isF (.int k) && (ls.map D.int).all isF) = true then some ((ls.map D.int).any fun z => eqF z (.int k)) else _) = _
  rw [all_int, show (isF (.int k) && true) = true from rfl, if_pos rfl, any_int]
def pr2 (p : Int × Int) : D := .tup [.int p.1, .int p.2]
theorem v_inP {p : Int × Int} {ps : List (Int × Int)} {M : Mem} : inD M (pr2 p) (.lst (ps.map pr2)) = some (decide (p ∈ ps)) := by
  have e1 : pyL (ps.map pr2) = some (ps.map fun q => PyData.tuple [.int q.1, .int q.2]) := pyL_map (fun _ => rfl) ps
  have cl : ∀ qs : List (Int × Int), PyData.canLayAll0 (qs.map fun q => PyData.tuple [.int q.1, .int q.2]) = true := fun qs => by
    induction qs with
    | nil => rfl
    | cons q qs ih => rw [List.map_cons, PyData.canLayAll0, ih]; simp [PyData.canLay0, PyData.canLayAll0]
  have dp : ∀ qs : List (Int × Int), PyData.depthAll (qs.map fun q => PyData.tuple [.int q.1, .int q.2]) ≤ 1 := fun qs => by
    induction qs with
    | nil => simp [PyData.depthAll]
    | cons q qs ih =>
      rw [List.map_cons, PyData.depthAll]
      have : (PyData.tuple [.int q.1, .int q.2]).depth ≤ 1 := by simp [PyData.depth, PyData.depthAll]
      omega
  have h1 : SeqAt.shaped (PyData.tuple [.int p.1, .int p.2]) = true := by
    unfold SeqAt.shaped
    rw [show (PyData.tuple [.int p.1, .int p.2]).canLay0 = true by simp [PyData.canLay0, PyData.canLayAll0], decide_eq_true (show (PyData.tuple [.int p.1, .int p.2]).depth ≤ 64 by simp [PyData.depth, PyData.depthAll])] <;> rfl
  have h2 : SeqAt.shaped (PyData.list (ps.map fun q => PyData.tuple [.int q.1, .int q.2])) = true := by
    unfold SeqAt.shaped
    rw [show (PyData.list (ps.map fun q => PyData.tuple [.int q.1, .int q.2])).canLay0 = true by rw [PyData.canLay0]; exact cl ps, decide_eq_true (show (PyData.list (ps.map fun q => PyData.tuple [.int q.1, .int q.2])).depth ≤ 64 by rw [PyData.depth]; have := dp ps; omega)] <;> rfl
  have a : ∀ qs : List (Int × Int), ((qs.map fun q => PyData.tuple [.int q.1, .int q.2]).any fun z => PyData.eqv z (.tuple [.int p.1, .int p.2])) = decide (p ∈ qs) := fun qs => by
    induction qs with
    | nil => rfl
    | cons q qs ih =>
      rw [List.map_cons, List.any_cons, ih]
      have e : PyData.eqv (.tuple [.int q.1, .int q.2]) (.tuple [.int p.1, .int p.2]) = decide (p = q) := by
        simp only [PyData.eqv, PyData.eqvAll, Bool.and_true]
        obtain ⟨a, b⟩ := p
        obtain ⟨c, d⟩ := q
        dsimp only
        by_cases h1 : c = a
        · by_cases h2 : d = b
          · subst h1; subst h2; simp
          · have : ¬ b = d := fun e => h2 e.symm
            simp [h1, h2, this]
        · have : ¬ a = c := fun e => h1 e.symm
          simp [h1, this]
      rw [e]
      by_cases h : p = q
      · subst h; simp
      · simp [h]
  show (pyOf M (pr2 p)).bind (fun x => (pyL (ps.map pr2)).bind fun xs => if (SeqAt.shaped x && SeqAt.shaped (.list xs)) = true then some (xs.any fun z => PyData.eqv z x) else none) = _
  rw [e1]
  show (if (SeqAt.shaped (PyData.tuple [.int p.1, .int p.2]) && SeqAt.shaped (.list (ps.map fun q => PyData.tuple [.int q.1, .int q.2]))) = true then some ((ps.map fun q => PyData.tuple [.int q.1, .int q.2]).any fun z => PyData.eqv z (.tuple [.int p.1, .int p.2])) else none) = _
  rw [h1, h2, a] <;> rfl
theorem v_min {ks : List Int} {kvs : List (Key × D)} {M : Mem} {i : Nat} (h : M[i]? = some (.dic kvs)) (h2 : kvs.map (·.1) = ks.map Sum.inl) (h3 : ks ≠ []) : minC [.ref i] M = some (.int (minI ks), M) := by
  have hk : ∀ ns : List Int, intK (ns.map Sum.inl) = some ns := fun ns => by
    induction ns with
    | nil => rfl
    | cons n ns ih => rw [List.map_cons, intK, ih] <;> rfl
  unfold minC
  simp only [h, h2, hk]
  show (if ks.isEmpty = true then none else _) = _
  rw [if_neg]
  cases ks with
  | nil => exact absurd rfl h3
  | cons k ks => simp
end LD
namespace LD
open PySem PySem.Spec PyProof.Rows L2

/-! ### isinstance -/
def tyD (M : Mem) : D → Option String
  | .non => some "NoneType"
  | .bl _ => some "bool"
  | .int _ => some "int"
  | .str _ => some "str"
  | .lst _ => some "list"
  | .tup _ => some "tuple"
  | .dic _ _ => some "dict"
  | .ref i => match M[i]? with
    | some (.lst _) => some "list"
    | some (.dic _) => some "dict"
    | _ => none
  | _ => none
def isiC : OL := fun ds M => match ds with
  | [x, .ty t] => (tyD M x).bind fun a => (kitB a t).map fun b => (.bl b, M)
  | _ => none
section
variable {X : Cx} {T : Tab} {W : WX} {K : KX} {ι : List Addr} {F H : Hp} {M : Mem} {rs : List (Addr × HO)} {pos : Pos} {x : Str}
theorem tyL {a : Addr} {vs : List V} (h : SqL K.fr H a vs) : TyX K.fr H (.ref a) (.type "list") := by
  rcases h with (h | ⟨o, h⟩) | ⟨o, its, n, h1, h2, _⟩
  · exact .base (.lst h)
  · exact .base (.frz h)
  · exact .kList h1 h2
theorem tyT {a : Addr} {vs : List V} (h : SqT K.fr H a vs) : TyX K.fr H (.ref a) (.type "tuple") := by
  rcases h with (h | ⟨o, h⟩) | ⟨o, its, n, h1, h2, _⟩
  · exact .base (.tup h)
  · exact .fTuple h
  · exact .kTuple h1 h2
theorem tyDd {a : Addr} {vs : List (Key × V)} (h : Rd H a (.dK vs)) : TyX K.fr H (.ref a) (.type "dict") := by
  rcases h with h | ⟨o, h⟩
  · exact .base (.dK h)
  · exact .fDict h
theorem tyD_at {d : D} {v : V} {t : String} (r : Rel K ι F rs H M) (h : Rep K ι F d v) (e : tyD M d = some t) : TyX K.fr H v (.type t) := by
  cases d with
  | non => cases h; cases e; exact .base .non
  | bl b => cases h; cases e; exact .base (.bl b)
  | int b => cases h; cases e; exact .base (.int b)
  | str b => cases h; cases e; exact .base (.str b)
  | lst xs => obtain ⟨a, vs, rfl, h1, h2⟩ := h; cases e; exact tyL (sql_sub r h1)
  | tup xs => obtain ⟨a, vs, rfl, h1, h2⟩ := h; cases e; exact tyT (sqt_sub r h1)
  | dic ks xs => obtain ⟨a, vs, rfl, h1, h2⟩ := h; cases e; exact tyDd (rd_sub r h1)
  | ref i =>
    obtain ⟨a, rfl, h1⟩ := h
    simp only [tyD] at e
    split at e
    · rename_i xs hM
      cases e
      obtain ⟨_, vs, h2, h3⟩ := r.obj i _ a hM h1 rfl
      exact .base (.lst h2)
    · rename_i kvs hM
      cases e
      obtain ⟨_, vs, h2, h3⟩ := r.obj i _ a hM h1 rfl
      exact .base (.dK h2)
    · cases e
  | _ => cases e
theorem c_isi : CallR X (.builtin "isinstance") (RC (kx X T) rs isiC) := CallR.imp call_isi fun vs H Q h => by
  obtain ⟨ι, F, M, ds, z, M', r, rv, e, q⟩ := h
  unfold isiC at e
  split at e
  · rename_i x t
    obtain ⟨a, h1, e⟩ := Option.bind_eq_some_iff.mp e
    obtain ⟨b, h2, e⟩ := Option.map_eq_some_iff.mp e
    cases e
    obtain ⟨v, w, rfl, r1, r2⟩ := two_of rv
    cases r2
    exact ⟨v, _, .type a, .type t, b, rfl, .ty t, tyD_at r r1 h1, kit_ty h2, q ι F H _ Le.refl r rfl⟩
  · cases e
theorem Ty {t : String} (hm : X.mg x = none) (hv : bootBuiltins x = some (.type t) := by rfl) (hg : Gl X x := by rfl) (hn : x ≠ "__name__" := by decide) (hd : (x == ("__debug__" : Str)) = false := by decide) : KE X T W (.Name x pos) (eC (.ty t)) := fun rs => PE.imp (pe_bltn hg hm hv (v := .ty t) rfl hn hd) fun σ H Q h => by
  obtain ⟨ι, F, s, M, r, rS, p⟩ := h
  exact p.fin r rfl
theorem kit_ii : kitB "int" "int" = some true := by decide +kernel
theorem kit_ib : kitB "int" "bool" = some false := by decide +kernel
theorem kit_bi : kitB "bool" "int" = some true := by decide +kernel
theorem kit_bb : kitB "bool" "bool" = some true := by decide +kernel
theorem v_isiI {i : Int} : isiC [.int i, .ty "int"] M = some (.bl true, M) := by
  simp only [isiC, tyD, Option.bind_some, kit_ii, Option.map_some]
theorem v_isiB {i : Int} : isiC [.int i, .ty "bool"] M = some (.bl false, M) := by
  simp only [isiC, tyD, Option.bind_some, kit_ib, Option.map_some]
end
end LD
namespace LD
open PySem PySem.Spec PyProof.Rows L2

/-! ### methods of built-in values -/
abbrev OMt := D → List D → Mem → Option (D × Mem)
def eBm (ok : Mem → D → Bool) (g : OMt) (o : Sem1 D) (α : Sem1 (List D)) : Sem1 D := fun s M => (o s M).bind fun x M1 => if ok M1 x then (α s M1).bind fun ds M2 => ofO (g x ds M2) else .bad
def RM (K : KX) (rs : List (Addr × HO)) (g : OMt) : V → List V → Hp → VK → Prop := fun v ws H Q => ∃ ι F M x ds z M', Rel K ι F rs H M ∧ Rep K ι F x v ∧ RepL K ι F ds ws ∧ g x ds M = some (z, M') ∧ ∀ ι' F' H' u, Le K ι F ι' F' → Rel K ι' F' rs H' M' → Rep K ι' F' z u → Q u H'
def isLst (M : Mem) (x : D) : Bool := (lsOf M x).isSome
def isStrD (_ : Mem) : D → Bool
  | .str _ => true
  | _ => false
def isDcM (M : Mem) : D → Bool
  | .ref i => match M[i]? with
    | some (.dic _) => true
    | _ => false
  | _ => false
def appG : OMt := fun x ds M => match x, ds with
  | .ref i, [d] => match M[i]? with
    | some (.lst xs) => if xs.length < LINE then some (.non, M.set i (.lst (xs ++ [d]))) else none
    | _ => none
  | _, _ => none
def popG : OMt := fun x ds M => match x, ds with
  | .ref i, [] => match M[i]? with
    | some (.lst xs) => (xs[xs.length - 1]?).map fun d => (d, M.set i (.lst xs.dropLast))
    | _ => none
  | _, _ => none
section
variable {X : Cx} {T : Tab} {W : WX} {K : KX} {ι : List Addr} {F H : Hp} {M : Mem} {rs : List (Addr × HO)} {o e : Expr} {es : List Expr} {φ : Sem1 D} {α : Sem1 (List D)} {name : Str} {apos pos : Pos}
theorem ty_lst {x : D} {v : V} (r : Rel K ι F rs H M) (h : Rep K ι F x v) (e : isLst M x = true) : tyV K.fr "list" v H := by
  obtain ⟨xs, hx⟩ := Option.isSome_iff_exists.mp e
  obtain ⟨a, vs, rfl, h1, h2⟩ := lsOf_at r hx h
  exact .inl ⟨rfl, vs, h1⟩
theorem ty_str {x : D} {v : V} (r : Rel K ι F rs H M) (h : Rep K ι F x v) (e : isStrD M x = true) : tyV K.fr "str" v H := by
  cases x with
  | str z => cases h; rfl
  | _ => cases e
theorem ty_dcm {x : D} {v : V} (r : Rel K ι F rs H M) (h : Rep K ι F x v) (e : isDcM M x = true) : tyV K.fr "dict" v H := by
  cases x with
  | ref i =>
    obtain ⟨a, rfl, h1⟩ := h
    simp only [isDcM] at e
    split at e
    · rename_i kvs hM
      obtain ⟨_, vs, h2, _⟩ := r.obj i _ a hM h1 rfl
      exact .inr (.inr (.inl ⟨rfl, .inl ⟨vs, h2⟩⟩))
    · cases e
  | _ => cases e
theorem d_bm {ok : Mem → D → Bool} {g : OMt} {Ty id : String} (pa : PlainAttrs Ty) (slot : Slot Ty name id) (hty : typeOf (.builtin id) = pure (.type "method_descriptor")) (hm : ∀ rs, MtR X id (RM (kx X T) rs g))
    (tyo : ∀ {ι F rs H M x v}, Rel (kx X T) ι F rs H M → Rep (kx X T) ι F x v → ok M x = true → tyV X.K Ty v H) (ho : KE X T W o φ) (ha : KA X T W (e :: es) α)
    (h1 : isSup o = false := by rfl) (hfew : ((backTo pos (starEach (e :: es) X.env)).all (fun x => !x.1) && (backToKw pos (keywordEach [] X.env)).all (fun x => x.1.isSome)
      && decide ((e :: es).length + ([] : List Keyword).length + (if ([] : List Keyword).isEmpty then 0 else 1) < 30)) = true := by rfl)
    (hline : (apos.endLine == pos.line) = true := by rfl) (h2 : (e :: es).any isStar = false := by rfl) : KE X T W (.Call (.Attribute o name apos) (e :: es) [] pos) (eBm ok g φ α) := fun rs => by
  have h2' := h2
  rw [List.any_cons, Bool.or_eq_false_iff] at h2'
  refine PE.imp (pe_bm pa slot hty (hm rs) (ho rs) (ha.pa rs) (noSup h1) hfew hline (star_cons h2'.1) (star_any h2'.2)) fun σ H Q h => ?_
  obtain ⟨ι, F, s, M, r, rS, p⟩ := h
  refine ⟨ι, F, s, M, r, rS, p.step fun v H1 ι1 F1 M1 x l1 r1 rv p1 => ?_⟩
  split at p1
  · rename_i hok
    refine ⟨tyo r1 rv hok, ι1, F1, s, M1, r1, rS.le l1, p1.step fun ws H2 ι2 F2 M2 ds l2 r2 rw2 p2 => ?_⟩
    cases eg : g x ds M2 with
    | none => rw [eg] at p2; exact p2.elim
    | some z =>
      obtain ⟨z, M'⟩ := z
      rw [eg] at p2
      exact ⟨ι2, F2, M2, x, ds, z, M', r2, l2 _ _ rv, rw2, eg, p2⟩
  · exact p1.elim
theorem d_bm0 {ok : Mem → D → Bool} {g : OMt} {Ty id : String} (pa : PlainAttrs Ty) (slot : Slot Ty name id) (hty : typeOf (.builtin id) = pure (.type "method_descriptor")) (hm : ∀ rs, MtR X id (RM (kx X T) rs g))
    (tyo : ∀ {ι F rs H M x v}, Rel (kx X T) ι F rs H M → Rep (kx X T) ι F x v → ok M x = true → tyV X.K Ty v H) (ho : KE X T W o φ)
    (h1 : isSup o = false := by rfl) (hline : (apos.endLine == pos.line) = true := by rfl) : KE X T W (.Call (.Attribute o name apos) [] [] pos) (eBm ok g φ aNil) := fun rs => by
  refine PE.imp (pe_bm0 pa slot hty (hm rs) (ho rs) (noSup h1) hline) fun σ H Q h => ?_
  obtain ⟨ι, F, s, M, r, rS, p⟩ := h
  refine ⟨ι, F, s, M, r, rS, p.step fun v H1 ι1 F1 M1 x l1 r1 rv p1 => ?_⟩
  split at p1
  · rename_i hok
    refine ⟨tyo r1 rv hok, ?_⟩
    unfold aNil at p1
    rw [R.bind_ok] at p1
    cases eg : g x [] M1 with
    | none => rw [eg] at p1; exact p1.elim
    | some z =>
      obtain ⟨z, M'⟩ := z
      rw [eg] at p1
      exact ⟨ι1, F1, M1, x, [], z, M', r1, rv, rfl, eg, p1⟩
  · exact p1.elim
theorem m_append : MtR X "list.append" (RM (kx X T) rs appG) := fun pins s σ H x xs v us Q I rx rxs h => by
  refine mt_append pins s σ H x xs v us Q I rx rxs ?_
  obtain ⟨ι, F, M, d, ds, z, M', r, rd, rds, e, q⟩ := h
  unfold appG at e
  split at e
  · rename_i i y
    obtain ⟨a, rfl, hi⟩ := rd
    obtain ⟨w, rfl, hw⟩ := one_of rds
    split at e
    · rename_i ys hM
      split at e
      · rename_i hl
        cases e
        obtain ⟨f0, vs, h2, h3⟩ := r.obj i _ a hM hi rfl
        refine ⟨a, vs, w, rfl, rfl, h2, by rw [RepL.length h3, ← line_eq]; exact hl, ?_⟩
        exact q ι F _ _ Le.refl (r.write hM hi rfl ⟨_, upd_same, h3.append (.one hw)⟩) rfl
      · cases e
    · cases e
  · cases e
theorem Glob {x : Str} {v : V} {u : Value} {d : D} (hm : X.mg x = some u) (rv : RelV v u) (hr : ∀ ι F, Rep (kx X T) ι F d v) (hg : Gl X x := by rfl) (hd : (x == ("__debug__" : Str)) = false := by decide) : KE X T W (.Name x pos) (eC d) := d_glob hg hm rv hd hr
theorem Append (ho : KE X T W o φ) (ha : KA X T W [e] α) (h1 : isSup o = false := by rfl) (hfew : ((backTo pos (starEach [e] X.env)).all (fun x => !x.1) && (backToKw pos (keywordEach [] X.env)).all (fun x => x.1.isSome)
      && decide (([e] : List Expr).length + ([] : List Keyword).length + (if ([] : List Keyword).isEmpty then 0 else 1) < 30)) = true := by rfl) (hline : (apos.endLine == pos.line) = true := by rfl) (h2 : [e].any isStar = false := by rfl) :
    KE X T W (.Call (.Attribute o "append" apos) [e] [] pos) (eBm isLst appG φ α) := d_bm PySem.F.plainAttrs_list PySem.F.slot_list_append PySem.F.type_list_append (fun _ => m_append) (fun r h e => ty_lst r h e) ho ha h1 hfew hline h2
end
end LD
namespace LD
open PySem PySem.Spec PyProof.Rows L2

/-! ### raise, try -/
def sRaise (c : Nat) (α : Sem1 (List D)) : SSem := fun s M => bindS (α s M) s fun ds M1 => if ds.length ≤ LINE then .er ⟨c, none⟩ s M1 else .bad
/-- which exceptions a clause takes -/
abbrev Hit := List (Nat × Bool)
def sTryAs (hit : Hit) (i : Nat) (ψ χ : SSem) : SSem := fun s M => match ψ s M with
  | .er x s1 M1 => match hit.lookup x.cls with
    | some true => match χ (s1.set i none) M1 with
      | .nx s2 M2 => .nx (s2.set i none) M2
      | .bk s2 M2 => .bk (s2.set i none) M2
      | .ct s2 M2 => .ct (s2.set i none) M2
      | .rt d M2 => .rt d M2
      | _ => .bad
    | some false => .er x s1 M1
    | none => .bad
  | r => r
def sTryOnly (hit : Hit) (ψ χ : SSem) : SSem := fun s M => match ψ s M with
  | .er x s1 M1 => match hit.lookup x.cls with
    | some true => match χ s1 M1 with
      | .er _ _ _ => .bad
      | r => r
    | some false => .er x s1 M1
    | none => .bad
  | r => r
section
variable {X : Cx} {T : Tab} {W : WX} {K : KX} {ι : List Addr} {F H : Hp} {M : Mem} {rs : List (Addr × HO)} {s : DS} {σ : L2.St} {e : Expr} {es : List Expr} {α : Sem1 (List LD.D)} {pos pos' p np : Pos} {x n : Str} {i : Nat} {body suite : List Stmt} {b₀ : Stmt} {ψ χ : SSem} {c : Value}
theorem RepS.blur {v : Option V} (h : RepS K ι F s σ) : RepS K ι F (s.set i none) (σ.set i v) :=
  ⟨by rw [List.length_set, List.length_set]; exact h.1, fun j e q => by
    by_cases hj : i = j
    · subst hj
      have hl : i < s.length := by
        have := (List.getElem?_eq_some_iff.mp q).1
        rwa [List.length_set] at this
      rw [List.getElem?_set_self hl] at q
      cases q
    · rw [List.getElem?_set_ne hj] at q
      obtain ⟨u, h1, h2⟩ := h.2 j e q
      exact ⟨u, by rw [List.getElem?_set_ne hj]; exact h1, h2⟩⟩
theorem s_raise {C : Addr} {bmB : List Value} {B newId initId : String} {ci : Nat} (F : ExcBaseFacts B newId initId bmB) (q : PySem.W.excIn X.K C bmB newId = true) (gC : X.mg x = some (.ref C)) (kC : PySem.W.keepIn X.K (.ref C) = true) (r : Raises X (.ref C))
    (hT : T.et[ci]? = some (.ref C)) (tk : Takes X W) (ha : KA X T W (e :: es) α) (hc : X.calm = true := by rfl) (hg : Gl X x := by rfl) (hdb : (x == ("__debug__" : Str)) = false := by decide) (h2 : (e :: es).any isStar = false := by rfl) :
    KS X T W (.Raise (some (.Call (.Name x p) (e :: es) [] pos')) none pos) (sRaise ci α) := ⟨fun rs => by
  have h2' := h2
  rw [List.any_cons, Bool.or_eq_false_iff] at h2'
  refine PS.imp (ps_raise hc tk (pmk_ownA F q gC kC r hg (ha.pa rs) hdb (star_cons h2'.1) (star_any h2'.2))) fun D σ H h => ?_
  obtain ⟨ι, F, s, M, r, rS, p⟩ := h
  refine ⟨ι, F, s, M, r, rS, p.step rS fun vs H1 ι1 F1 M1 ds _ l1 r1 rv p1 => ?_⟩
  split at p1
  · rename_i hl
    exact ⟨by rw [RepL.length rv, ← line_eq]; exact hl, p1 ι1 F1 H1 σ (.ref C) none Le.refl r1 (rS.le l1) ⟨hT, trivial⟩⟩
  · exact p1.elim⟩
theorem s_try_as {hit : Hit} (hs : X.stack = X.env :: X.outer) (hf : X.env.frame = some X.env.locals) (hN : X.N.Nodup) (hi : X.N[i]? = some n) (hln : X.env.kindOf n = some .local) (hc : Names X x c) (tk : Takes X W)
    (hh : ∀ j b, hit.lookup j = some b → ∃ cls, T.et[j]? = some cls ∧ PySem.W.exmOne X.K cls c = some b)
    (hb : ∀ (W : WX) (pn : List (Addr × Obj)) (xe : Value → Shared → Prop), Takes (X.tr pn xe) W → PassesOwn (model X.prog X.w) X.A X.env xe → KB (X.tr pn xe) T W body ψ)
    (hsu : ∀ (a : Addr) (oe : Obj) (pn : List (Addr × Obj)), (∃ vs, oe.data = .fields vs) → KB (X.suite a ((a, oe) :: pn)) T WN (b₀ :: suite) χ) :
    KS X T W (.Try body [.ExceptHandler (some (.Name x np)) (some n) (b₀ :: suite) pos'] [] [] pos) (sTryAs hit i ψ χ) := ⟨fun rs =>
  PS.imp (ps_try_as (tb := fun W => LS (kx X T) rs W ψ) (ts := fun _ _ _ => LS (kx X T) rs WN χ) (Wout := W) hs hf hN hi hln hc tk (fun W pn xe t ho => (hb W pn xe t ho).ps rs) fun a oe cls d pn _ hfl => (hsu a oe pn hfl).ps rs) fun D σ H h => by
    obtain ⟨ι, F, s, M, r, rS, p⟩ := h
    refine ⟨ι, F, s, M, r, rS, ?_⟩
    unfold sTryAs at p
    cases ep : ψ s M with
    | nx s' M' => rw [ep] at p; exact p
    | rt d M' => rw [ep] at p; exact p
    | bk s' M' => rw [ep] at p; exact p
    | ct s' M' => rw [ep] at p; exact p
    | bad => rw [ep] at p; exact p
    | er x s1 M1 =>
      rw [ep] at p
      intro ι1 F1 H1 σ1 cls dx l1 r1 rs1 rx
      simp only at p
      cases eh : hit.lookup x.cls with
      | none => rw [eh] at p; exact p.elim
      | some b =>
        rw [eh] at p
        obtain ⟨cls', h1, h2⟩ := hh _ _ eh
        have ec : cls' = cls := Option.some.inj (h1.symm.trans rx.1)
        subst ec
        refine ⟨b, h2, fun hb a ha => ?_, fun hb => ?_⟩
        · subst hb
          simp only at p
          refine ⟨ι1, F1, s1.set i none, M1, r1, rs1.blur, ?_⟩
          cases ex : χ (s1.set i none) M1 with
          | nx s' M' => rw [ex] at p; exact fun ι2 F2 H2 σ2 l2 r2 rs2 => p ι2 F2 H2 _ (l1.trans l2) r2 rs2.unset
          | bk s' M' => rw [ex] at p; exact fun ι2 F2 H2 σ2 l2 r2 rs2 => p ι2 F2 H2 _ (l1.trans l2) r2 rs2.unset
          | ct s' M' => rw [ex] at p; exact fun ι2 F2 H2 σ2 l2 r2 rs2 => p ι2 F2 H2 _ (l1.trans l2) r2 rs2.unset
          | rt d M' => rw [ex] at p; exact fun ι2 F2 H2 v l2 r2 rv => p ι2 F2 H2 v (l1.trans l2) r2 rv
          | er y s' M' => rw [ex] at p; exact p.elim
          | bad => rw [ex] at p; exact p.elim
        · subst hb
          simp only at p
          exact p ι1 F1 H1 σ1 _ dx l1 r1 rs1 rx⟩
theorem s_try_only {hit : Hit} (hs : X.stack = X.env :: X.outer) (hf : X.env.frame = some X.env.locals) (hc : Names X x c) (tk : Takes X W)
    (hh : ∀ j b, hit.lookup j = some b → ∃ cls, T.et[j]? = some cls ∧ PySem.W.exmOne X.K cls c = some b)
    (hb : ∀ (W : WX) (pn : List (Addr × Obj)) (xe : Value → Shared → Prop), Takes (X.tr pn xe) W → PassesOwn (model X.prog X.w) X.A X.env xe → KB (X.tr pn xe) T W body ψ)
    (hsu : ∀ (a : Addr) (oe : Obj) (pn : List (Addr × Obj)), (∃ vs, oe.data = .fields vs) → KB (X.suite a ((a, oe) :: pn)) T WN (b₀ :: suite) χ) :
    KS X T W (.Try body [.ExceptHandler (some (.Name x np)) none (b₀ :: suite) pos'] [] [] pos) (sTryOnly hit ψ χ) := ⟨fun rs =>
  PS.imp (ps_try_only (tb := fun W => LS (kx X T) rs W ψ) (ts := fun _ _ _ => LS (kx X T) rs WN χ) (Wout := W) hs hf hc tk (fun W pn xe t ho => (hb W pn xe t ho).ps rs) fun a oe cls d pn _ hfl => (hsu a oe pn hfl).ps rs) fun D σ H h => by
    obtain ⟨ι, F, s, M, r, rS, p⟩ := h
    refine ⟨ι, F, s, M, r, rS, ?_⟩
    unfold sTryOnly at p
    cases ep : ψ s M with
    | nx s' M' => rw [ep] at p; exact p
    | rt d M' => rw [ep] at p; exact p
    | bk s' M' => rw [ep] at p; exact p
    | ct s' M' => rw [ep] at p; exact p
    | bad => rw [ep] at p; exact p
    | er x s1 M1 =>
      rw [ep] at p
      intro ι1 F1 H1 σ1 cls dx l1 r1 rs1 rx
      simp only at p
      cases eh : hit.lookup x.cls with
      | none => rw [eh] at p; exact p.elim
      | some b =>
        rw [eh] at p
        obtain ⟨cls', h1, h2⟩ := hh _ _ eh
        have ec : cls' = cls := Option.some.inj (h1.symm.trans rx.1)
        subst ec
        refine ⟨b, h2, fun hb a ha => ?_, fun hb => ?_⟩
        · subst hb
          simp only at p
          refine ⟨ι1, F1, s1, M1, r1, rs1, ?_⟩
          cases ex : χ s1 M1 with
          | nx s' M' => rw [ex] at p; exact fun ι2 F2 H2 σ2 l2 r2 rs2 => p ι2 F2 H2 _ (l1.trans l2) r2 rs2
          | bk s' M' => rw [ex] at p; exact fun ι2 F2 H2 σ2 l2 r2 rs2 => p ι2 F2 H2 _ (l1.trans l2) r2 rs2
          | ct s' M' => rw [ex] at p; exact fun ι2 F2 H2 σ2 l2 r2 rs2 => p ι2 F2 H2 _ (l1.trans l2) r2 rs2
          | rt d M' => rw [ex] at p; exact fun ι2 F2 H2 v l2 r2 rv => p ι2 F2 H2 v (l1.trans l2) r2 rv
          | er y s' M' => rw [ex] at p; exact p.elim
          | bad => rw [ex] at p; exact p.elim
        · subst hb
          simp only at p
          exact p ι1 F1 H1 σ1 _ dx l1 r1 rs1 rx⟩
end
end LD
namespace LD
open PySem PySem.Spec PyProof.Rows L2

/-! ### try .. except X as e, where the suite asks isinstance(e, C) -/
def blurS (i : Nat) : RS → RS
  | .nx s M => .nx (s.set i none) M
  | .bk s M => .bk (s.set i none) M
  | .ct s M => .ct (s.set i none) M
  | .rt d M => .rt d M
  | _ => .bad
def sTryE (j i : Nat) (ψ : SSem) (χ : Addr → SSem) : SSem := fun s M => match ψ s M with
  | .er x s1 M1 => if x.cls = j ∧ x.fs.isNone = true then blurS i (χ 0 (s1.set i (some (.glb 0))) M1) else .bad
  | r => r
def eIsE (i : Nat) (a : Addr) (b : Bool) : Sem1 D := fun s M => match s[i]? with
  | some (some (.glb a')) => if a' = a then .ok (.bl b) M else .bad
  | _ => .bad
section
variable {X : Cx} {T : Tab} {W : WX} {pos pos' p np p2 p3 : Pos} {x n y z : Str} {i j : Nat} {body suite : List Stmt} {b₀ : Stmt} {ψ : SSem} {χ : Addr → SSem} {C : Addr}
theorem s_try_e (hs : X.stack = X.env :: X.outer) (hf : X.env.frame = some X.env.locals) (hN : X.N.Nodup) (hi : X.N[i]? = some n) (hln : X.env.kindOf n = some .local) (hc : Names X x (.ref C)) (tk : Takes X W)
    (D0 : Addr) (hj : T.et[j]? = some (.ref D0)) (hx : PySem.W.exmOne X.K (.ref D0) (.ref C) = some true)
    (hb : ∀ (W : WX) (pn : List (Addr × Obj)) (xe : Value → Shared → Prop), Takes (X.tr pn xe) W → PassesOwn (model X.prog X.w) X.A X.env xe → KB (X.tr pn xe) T W body ψ)
    (hsu : ∀ (a : Addr) (oe : Obj) (pn : List (Addr × Obj)), Zc (.ref D0) none oe → (∃ vs, oe.data = .fields vs) → KB (X.suite a ((a, oe) :: pn)) T WN (b₀ :: suite) (χ a))
    (hχ : ∀ (a : Addr) (s : DS) (M : Mem), blurS i (χ a (s.set i (some (.glb a))) M) = blurS i (χ 0 (s.set i (some (.glb 0))) M)) :
    KS X T W (.Try body [.ExceptHandler (some (.Name x np)) (some n) (b₀ :: suite) pos'] [] [] pos) (sTryE j i ψ χ) := ⟨fun rs =>
  PS.imp (ps_try_as (tb := fun W => LS (kx X T) rs W ψ) (ts := fun a cls d D σ H => cls = .ref D0 ∧ d = none ∧ LS (kx X T) rs WN (χ a) D σ H) (Wout := W) hs hf hN hi hln hc tk (fun W pn xe t ho => (hb W pn xe t ho).ps rs)
    fun a oe cls d pn hz hfl => ⟨fun pins s σ H Q I q => by
      obtain ⟨rfl, rfl, q⟩ := q
      exact ((hsu a oe pn hz hfl).ps rs).run pins s σ H Q I q⟩) fun D σ H h => by
    obtain ⟨ι, F, s, M, r, rS, p⟩ := h
    refine ⟨ι, F, s, M, r, rS, ?_⟩
    unfold sTryE at p
    cases ep : ψ s M with
    | nx s' M' => rw [ep] at p; exact p
    | rt d M' => rw [ep] at p; exact p
    | bk s' M' => rw [ep] at p; exact p
    | ct s' M' => rw [ep] at p; exact p
    | bad => rw [ep] at p; exact p
    | er x s1 M1 =>
      rw [ep] at p
      intro ι1 F1 H1 σ1 cls dx l1 r1 rs1 rx
      simp only at p
      by_cases hcl : x.cls = j ∧ x.fs.isNone = true
      · rw [if_pos hcl] at p
        have ec : cls = .ref D0 := by
          have := rx.1
          rw [hcl.1, hj] at this
          exact (Option.some.inj this).symm
        have ed : dx = none := by
          have h2 := rx.2
          have h3 : x.fs = none := Option.isNone_iff_eq_none.mp hcl.2
          rw [h3] at h2
          cases dx with
          | none => rfl
          | some d => exact h2.elim
        subst ec; subst ed
        refine ⟨true, hx, fun _ a ha => ⟨rfl, rfl, ι1, F1, s1.set i (some (.glb a)), M1, r1, rs1.set rfl, ?_⟩, fun h => by cases h⟩
        rw [← hχ a] at p
        cases ex : χ a (s1.set i (some (.glb a))) M1 with
        | nx s' M' => rw [ex] at p; exact fun ι2 F2 H2 σ2 l2 r2 rs2 => p ι2 F2 H2 _ (l1.trans l2) r2 rs2.unset
        | bk s' M' => rw [ex] at p; exact fun ι2 F2 H2 σ2 l2 r2 rs2 => p ι2 F2 H2 _ (l1.trans l2) r2 rs2.unset
        | ct s' M' => rw [ex] at p; exact fun ι2 F2 H2 σ2 l2 r2 rs2 => p ι2 F2 H2 _ (l1.trans l2) r2 rs2.unset
        | rt d M' => rw [ex] at p; exact fun ι2 F2 H2 v l2 r2 rv => p ι2 F2 H2 v (l1.trans l2) r2 rv
        | er y s' M' => rw [ex] at p; exact p.elim
        | bad => rw [ex] at p; exact p.elim
      · rw [if_neg hcl] at p
        exact p.elim⟩
/-- isinstance(e, C) in the suite -/
theorem d_isE {a D0 B : Addr} {oe : Obj} {pn : List (Addr × Obj)} {b : Bool} (ec : ExcC X.K D0) (hz : Zc (.ref D0) none oe) (hfl : ∃ vs, oe.data = .fields vs) (hi : X.N[i]? = some y) (hln : Vis X.env.scope y) (gB : X.mg z = some (.ref B)) (hk : PySem.W.kitOne X.K (.ref D0) (.ref B) = some b) (hm : X.mg "isinstance" = none)
    (hg : Gl X "isinstance" := by rfl) (hgz : Gl X z := by rfl) (hdb : (z == ("__debug__" : Str)) = false := by decide) (hdy : (y == ("__debug__" : Str)) = false := by decide) (hcy : (y == ("__classdict__" : Str)) = false := by decide) :
    KE (X.suite a ((a, oe) :: pn)) T WN (.Call (.Name "isinstance" p) [.Name y p2, .Name z p3] [] pos) (eIsE i a b) := fun rs =>
  PE.imp (pe_callB (X := X.suite a ((a, oe) :: pn)) (call_isE ec hz hfl) hg hm (by rfl) (pa_cons (pe_var (i := i) hi hln hdy hcy) (pa_cons (pe_glob (v := .ref B) hgz gB rfl hdb) pa_nil (by rfl)) (by rfl)) (by decide) (by decide) (by rfl) (by rfl)) fun σ H Q h => by
    obtain ⟨ι, F, s, M, r, rS, q⟩ := h
    unfold eIsE at q
    split at q
    · rename_i a' e
      split at q
      · rename_i ea
        subst ea
        obtain ⟨v, h1, h2⟩ := rS.2 _ _ e
        cases h2
        exact ⟨_, h1, V.ref B, Value.ref B, b, rfl, fun u hu => hu, hk, q.fin r rfl⟩
      · exact q.elim
    · exact q.elim
end
end LD
namespace LD
open PySem PySem.Spec PyProof.Rows L2

/-! ### texts: upper; a class's tuple of texts: index -/
def upperG : OMt := fun x ds M => match x, ds with
  | .str a, [] => if a.length ≤ 5592405 then some (.str (Txt.upper a), M) else none
  | _, _ => none
def strsOf : List D → Option (List Str)
  | [] => some []
  | .str x :: r => (strsOf r).map fun ys => x :: ys
  | _ => none
def idxS (z : Str) : List Str → Option Nat
  | [] => none
  | y :: ys => if y = z then some 0 else (idxS z ys).map (· + 1)
def eCIdx (ys : List Str) (α : Sem1 (List D)) : Sem1 D := fun s M => (α s M).bind fun ds M1 => match ds with
  | [.str z] => match idxS z ys with
    | some j => .ok (.int (j : Nat)) M1
    | none => .bad
  | _ => .bad
theorem idxS_at {z : Str} : ∀ {ys : List Str} {j : Nat}, idxS z ys = some j → ys[j]? = some z ∧ ∀ m, m < j → ys[m]? ≠ some z
  | [], j, h => by cases h
  | y :: ys, j, h => by
    unfold idxS at h
    split at h
    · rename_i e
      cases h
      exact ⟨by rw [e] <;> rfl, fun m hm => absurd hm (Nat.not_lt_zero _)⟩
    · rename_i hn
      obtain ⟨k, h1, rfl⟩ := Option.map_eq_some_iff.mp h
      obtain ⟨a1, a2⟩ := idxS_at h1
      refine ⟨by simpa using a1, fun m hm => ?_⟩
      cases m with
      | zero => intro q; exact hn (by simpa using q)
      | succ m => intro q; exact a2 m (by omega) (by simpa using q)
section
variable {X : Cx} {T : Tab} {W : WX} {K : KX} {rs : List (Addr × HO)} {o e : Expr} {φ : Sem1 D} {α : Sem1 (List D)} {apos pos p2 : Pos} {x m : Str} {C : Addr}
theorem m_upper : MtR X "str.upper" (RM (kx X T) rs upperG) := fun pins s σ H x xs v us Q I rx rxs h => by
  refine mt_upper pins s σ H x xs v us Q I rx rxs ?_
  obtain ⟨ι, F, M, d, ds, z, M', r, rd, rds, e, q⟩ := h
  unfold upperG at e
  split at e
  · rename_i a
    cases rd
    have hx : xs = [] := rds
    split at e
    · rename_i hl
      cases e
      exact ⟨a, rfl, hx, hl, q ι F H _ Le.refl r rfl⟩
    · cases e
  · cases e
theorem Upper (ho : KE X T W o φ) (h1 : isSup o = false := by rfl) (hline : (apos.endLine == pos.line) = true := by rfl) : KE X T W (.Call (.Attribute o "upper" apos) [] [] pos) (eBm isStrD upperG φ aNil) :=
  d_bm0 PySem.F.plainAttrs_str PySem.F.slot_str_upper PySem.F.type_str_upper (fun _ => m_upper) (fun r h e => ty_str r h e) ho h1 hline
theorem CIdx {mc : Value} {a : Addr} {ys : List Str} {p3 : Pos} (hm : X.mg x = some (.ref C)) (cr : ClX.CRead X.K C mc) (cv : ClX.CVal X.K C mc m (.ref a) (.ref a)) (hk : ∃ ob, X.K.lookup a = some ob ∧ ob.cls = .type "tuple" ∧ ob.dict = none) (hq : ∀ H, SqT X.K H a (ys.map V.str)) (ha : KA X T W [e] α)
    (hg : Gl X x := by rfl) (hdb : (x == ("__debug__" : Str)) = false := by decide) (hfew : ((backTo pos (starEach [e] X.env)).all (fun x => !x.1) && (backToKw pos (keywordEach [] X.env)).all (fun x => x.1.isSome)
      && decide (([e] : List Expr).length + ([] : List Keyword).length + (if ([] : List Keyword).isEmpty then 0 else 1) < 30)) = true := by rfl) (hline : (apos.endLine == pos.line) = true := by rfl) (h2 : [e].any isStar = false := by rfl) :
    KE X T W (.Call (.Attribute (.Attribute (.Name x p2) m p3) "index" apos) [e] [] pos) (eCIdx ys α) := fun rs => by
  have h2' := h2
  rw [List.any_cons, Bool.or_eq_false_iff] at h2'
  refine PE.imp (pe_bm PySem.F.plainAttrs_tuple PySem.F.slot_tuple_index PySem.F.type_tuple_index mt_tup_index (ClX.pe_cval (pe_glob (v := .ref C) hg hm rfl hdb) (noSup rfl)) (ha.pa rs) (noSup rfl) hfew hline (star_cons h2'.1) (star_any h2'.2)) fun σ H Q h => ?_
  obtain ⟨ι, F, s, M, r, rS, p⟩ := h
  refine ⟨C, mc, .ref a, .ref a, rfl, cr, cv, .inr (.inl ⟨rfl, hk⟩), ι, F, s, M, r, rS, p.step fun vs H1 ι1 F1 M1 ds l1 r1 rv p1 => ?_⟩
  split at p1
  · rename_i z
    split at p1
    · rename_i j hj
      obtain ⟨v, rfl, hv⟩ := one_of rv
      cases hv
      obtain ⟨a1, a2⟩ := idxS_at hj
      exact ⟨a, ys, z, j, rfl, rfl, hq H1, a1, a2, p1.fin r1 rfl⟩
    · exact p1.elim
  · exact p1.elim
end

theorem kit_of_sub {K : PySem.W.Frag} {D C : Addr} {b : Bool} (hd : PySem.W.hasDictIn K C = true) (ht : PySem.W.typeIn K (.ref C) = some (.type "type")) (h4 : PySem.W.subIn K (.ref D) (.ref C) = some b) (h5 : PySem.W.subIn K (.ref D) (.ref D) = some true) : PySem.W.kitOne K (.ref D) (.ref C) = some b := by
  obtain ⟨cd, hc, _⟩ := PySem.W.any_some hd
  have e2 : ((PySem.W.clsIn K C).isSome && PySem.W.typeIn K (.ref C) == some (.type "type")) = true := by rw [hc, ht] <;> rfl
  unfold PySem.W.kitOne PySem.W.kitCls
  by_cases h : (Value.ref D == Value.ref C) = true
  · rw [if_pos h]
    have e : D = C := Value.ref.inj (beq_iff_eq.mp h)
    subst e
    rw [h4] at h5
    exact h5.symm
  · rw [if_neg h]
    simp only
    rw [if_pos e2]
    exact h4
end LD
namespace LD
open PySem PySem.Spec PyProof.Rows L2

/-! ### own __len__ -/
def LenD (P : Program) (w : World) (K : PySem.W.Frag) (mg : Str → Option Value) (base : Heap) (T : Tab) (k c : Nat) (φ : FnD) : Prop :=
  ∃ C ly g, T.ct[c]? = some (C, ly) ∧ PySem.W.findIn K (.ref C) "__len__" = some (some (.ref g)) ∧ PySem.W.isFn K (.ref g) = true ∧ Callee P w K mg base T k g 1 [] φ
def lenO (tbl : List (Nat × FnD)) : OL := fun ds M => match ds with
  | [.ref i] => match M[i]? with
    | some (.ins c _) => match tbl.lookup c with
      | some φ => match φ [.ref i] M with
        | .ok (.int n) M' => if 0 ≤ n ∧ n < 2 ^ 63 then some (.int n, M') else none
        | _ => none
      | none => none
    | _ => lenC ds M
  | _ => lenC ds M
section
variable {X : Cx} {T : Tab} {W : WX} {rs : List (Addr × HO)}
theorem c_lenO {k k' : Nat} {tbl : List (Nat × FnD)} (ht : ∀ c φ, tbl.lookup c = some φ → LenD X.prog X.w X.K X.mg X.base T k' c φ) (hr : Room k X.A) (hl : k' + 1 ≤ k := by first | decide | omega) : CallR X (.builtin "len") (RC (kx X T) rs (lenO tbl)) := by
  intro pins s σ H vs us Q I rv h
  obtain ⟨ι, F, M, ds, z, M', r, rd, e, q⟩ := h
  have plain : lenC ds M = some (z, M') → wpAny (model X.prog X.w) X.A (call (.builtin "len") us) (EP X pins σ Q) X.xe s := fun e => c_len pins s σ H vs us Q I rv ⟨ι, F, M, ds, z, M', r, rd, e, q⟩
  unfold lenO at e
  split at e
  · rename_i i
    split at e
    · rename_i c fs hM
      split at e
      · rename_i φ hφ
        split at e
        · rename_i n M2 he
          split at e
          · rename_i hn
            cases e
            obtain ⟨v, rfl, a, rfl, hi⟩ := one_of rd
            obtain ⟨u, rfl, ru⟩ := vals1 rv
            cases ru
            obtain ⟨C, ly, g, hc, hs, hf, ce⟩ := ht c φ hφ
            obtain ⟨_, C', ly', dx, ws, hc', hH, _, _, _, _⟩ := r.obj i _ a hM hi rfl
            have e2 : (C, ly) = (C', ly') := Option.some.inj (hc.symm.trans hc')
            cases e2
            obtain ⟨mA, J, _⟩ := ins_get I.hok hH
            obtain ⟨od, J, _⟩ := J.look
            have hr1 : Room k' X.A.in1 := (hr.mono hl).in1
            refine Calls.call_function_entry PySem.kind_len PySem.plain_len PySem.entry_len (PySem.args_len1 _) ?_
            unfold Builtin.«len»
            refine wpAny_bind (m := oneArg "len" _) (wpAny_pure ?_)
            refine wpAny_bind (m := callSpecial? (.ref a) (PySem.Str.ofString "__len__")) (PySem.W.special_fn (name := "__len__") (args := []) I.kIn J hs (beq_iff_eq.mp hf) (wpAny_call (codeAny_mono (ce.run rs X.A.in1 X.stack s H [.ref a] [] [.ref a] [] (fun v H' => v = .int n ∧ ∃ ι' F', Le (kx X T) ι F ι' F' ∧ Rel (kx X T) ι' F' rs H' M') (fun _ _ _ => False) hr1 I.env0.in1 rfl rfl (.cons rfl .nil) .nil
              ⟨ι, F, [.ref i], M, r, .one ⟨a, rfl, hi⟩, by rw [he]; exact fun ι' F' H' v l r' rv => ⟨rv, ι', F', l, r'⟩⟩) fun r s' hq => ?_)))
            cases r with
            | error er =>
              obtain ⟨a, B, H', cls, d, _, _, _, _, _, _, _, z⟩ := hq
              exact z.elim
            | ok fl =>
              cases fl with
              | next => exact False.elim hq
              | brk => exact False.elim hq
              | cont => exact False.elim hq
              | ret w =>
                obtain ⟨z, H', I', rz, ez, ι', F', l, r'⟩ := I.after hq
                subst ez
                obtain ⟨t, rfl⟩ := rz
                refine wpAny_bind (wpAny_holding (wpAny_pure ?_))
                refine wpAny_bind (wpAny_letGo ?_)
                show wpAny _ _ (if (n : Int) < 0 then _ else _) _ _ _
                rw [if_neg (by omega)]
                show wpAny _ _ (if (n : Int) ≥ 2 ^ 63 then _ else _) _ _ _
                rw [if_neg (by omega)]
                exact wpAny_bind (wpAny_mkInt (wpAny_pure ⟨_, rfl, ⟨.int n, H', I'.tok _, ⟨_, rfl⟩, q ι' F' H' _ l r' rfl⟩⟩))
          · cases e
        · cases e
      · cases e
    · exact plain e
  · exact plain e
end

end LD
namespace LD
open PySem PySem.Spec PyProof.Rows L2

/-! ### repr -/
def mapO {α β : Type} (f : α → Option β) : List α → Option (List β)
  | [] => some []
  | a :: r => (f a).bind fun b => (mapO f r).map fun bs => b :: bs
def keyP : Key → PyData
  | .inl i => .int i
  | .inr x => .str x
def pyR : Nat → Mem → D → Option PyData
  | 0, _, _ => none
  | n + 1, M, d => match d with
    | .non => some .none
    | .bl b => some (.bool b)
    | .int i => some (.int i)
    | .str x => some (.str x)
    | .tup xs => (mapO (pyR n M) xs).map .tuple
    | d => match dcOf M d with
      | some kvs => (mapO (pyR n M) (kvs.map (·.2))).map fun ps => .dict ((kvs.map fun kv => keyP kv.1).zip ps)
      | none => match lsOf M d with
        | some xs => (mapO (pyR n M) xs).map .list
        | none => none
def reprC : OL := fun ds M => match ds with
  | [d] => match pyR 12 M d with
    | some p => if p.showable && decide (p.depth ≤ 60) && decide (p.shown.length ≤ LINE) then some (.str p.shown, M) else none
    | none => none
  | _ => none
/-- what is known of a value that may be shown -/
structure Rpr (prog : Program) (w : World) (h : Heap) (u : Value) (p : PyData) : Prop where
  rd : ∃ as, Reads h u p as
  rp : ∃ bs, ReadAtMost h p.depth bs ∧ ReprK prog w bs h p.depth u p.shown
  top : ∀ a, u = .ref a → ∃ T idr, ShowsBy prog w h a p T idr
theorem mapO_len {α β : Type} {f : α → Option β} : ∀ {xs : List α} {ys : List β}, mapO f xs = some ys → ys.length = xs.length
  | [], ys, e => by cases e; rfl
  | x :: xs, ys, e => by
    obtain ⟨b, _, e2⟩ := Option.bind_eq_some_iff.mp e
    obtain ⟨bs, e3, rfl⟩ := Option.map_eq_some_iff.mp e2
    rw [List.length_cons, List.length_cons, mapO_len e3]
section
variable {X : Cx} {T : Tab} {ι : List Addr} {F H : Hp} {M : Mem} {rs : List (Addr × HO)} {pins : List (Addr × Obj)} {σ : L2.St} {s : Shared}
theorem rpr_all {h : Heap} {prog : Program} {w : World} {f : D → Option PyData} (ih : ∀ d v u p, f d = some p → Rep (kx X T) ι F d v → RelV v u → p.showable = true → p.shown.length ≤ sizeLine → Rpr prog w h u p) :
    ∀ (ds : List D) (vs : List V) (us : List Value) (ps : List PyData), mapO f ds = some ps → RepL (kx X T) ι F ds vs → Vals vs us → PyData.showableAll ps = true → (∀ t ∈ PyData.shownAll ps, t.length ≤ sizeLine) →
      (∃ as, ReadsAll h us ps as) ∧ ∃ bs, ReadAtMost h (PyData.depthAll ps) bs ∧ ReprAllK prog w bs h (PyData.depthAll ps) us (PyData.shownAll ps)
  | [], vs, us, ps, e, r, rv, hs, hz => by
    cases e
    have e : vs = [] := r
    subst e
    cases rv
    exact ⟨⟨[], .nil⟩, [], (fun _ h => nomatch h), by simp only [PyData.shownAll]; exact .nil⟩
  | d :: ds, vs, us, ps, e, r, rv, hs, hz => by
    obtain ⟨p, e1, e2⟩ := Option.bind_eq_some_iff.mp e
    obtain ⟨ps', e3, rfl⟩ := Option.map_eq_some_iff.mp e2
    obtain ⟨v, vr, rfl, r1, r2⟩ := r
    cases rv with
    | cons rv1 rv2 =>
      have hs' : p.showable = true ∧ PyData.showableAll ps' = true := by simpa [PyData.showableAll] using hs
      obtain ⟨⟨a1, x1⟩, ⟨b1, hb1, k1⟩, _⟩ := ih d v _ p e1 r1 rv1 hs'.1 (hz _ (by simp only [PyData.shownAll]; exact List.mem_cons_self ..))
      obtain ⟨⟨a2, x2⟩, b2, hb2, k2⟩ := rpr_all ih ds vr _ ps' e3 r2 rv2 hs'.2 (fun t ht => hz t (by simp only [PyData.shownAll]; exact List.mem_cons_of_mem _ ht))
      refine ⟨⟨_, .cons x1 x2⟩, b1 ++ b2, ?_, ?_⟩
      · simp only [PyData.depthAll]
        exact (hb1.mono (Nat.le_max_left _ _)).append (hb2.mono (Nat.le_max_right _ _))
      · simp only [PyData.depthAll, PyData.shownAll]
        exact .cons ((k1.more fun b hb => List.mem_append_left _ hb).level_le (Nat.le_max_left _ _)) (k2.more_le (fun b hb => List.mem_append_right _ hb) (Nat.le_max_right _ _))
theorem rpr_list {prog : Program} {w : World} {h : Heap} {a : Addr} {o : Obj} {its : List Value} {n : Nat} {ps : List PyData} (ho : h.get? a = some o) (hc : o.cls = .type "list") (hd : o.data = .seq its.toArray n) (hz : (listText (PyData.shownAll ps)).length ≤ sizeLine)
    (x : (∃ as, ReadsAll h its ps as) ∧ ∃ bs, ReadAtMost h (PyData.depthAll ps) bs ∧ ReprAllK prog w bs h (PyData.depthAll ps) its (PyData.shownAll ps)) : Rpr prog w h (.ref a) (.list ps) := by
  obtain ⟨⟨as, x1⟩, bs, hb, hk⟩ := x
  have r : Reads h (.ref a) (.list ps) (a :: as) := .list ho hc hd (by simpa using x1)
  have hna : a ∉ bs := not_mem_of_deeper r (by simp only [PyData.depth]; omega) hb
  refine ⟨⟨_, r⟩, ⟨a :: bs, ReadAtMost.cons r (by simp only [PyData.depth]; omega) hb, ?_⟩, fun b e => ?_⟩
  · simp only [PyData.depth, PyData.shown]
    cases its with
    | nil =>
      cases x1
      simp only [PyData.shownAll, listText_nil]
      exact ReprK.listEmpty ho hc hd
    | cons x l => exact ReprK.list ho hc hd hna (by simpa using hk.length_eq) (fun i y e => hk.item i y (by simpa using e))
  · cases e
    refine ⟨"list", "list.__repr__", F.slot_list_repr.toG, F.slot_list_str, F.slot_list_format, fun s hk0 => ⟨o, hk0 _ _ ho, hc⟩, fun A E s Q hg hu hk0 hQ => ?_⟩
    simp only [PyData.depth] at hu
    simp only [PyData.shown] at hQ
    cases its with
    | nil =>
      cases x1
      simp only [PyData.shownAll, listText_nil] at hQ
      exact call_list_repr_empty ⟨o, hk0 _ _ ho, hc⟩ (hk0 _ _ ho) hd (hQ s.heap _ _ fun _ _ e => e)
    | cons x l => exact call_list_reprK ho hc hd hna (by simpa using hk.length_eq) (fun i y e => hk.item i y (by simpa using e)) hg (fun b _ => Clear.nil b) hu hk0 hQ hz
theorem rpr_tuple {prog : Program} {w : World} {h : Heap} {a : Addr} {o : Obj} {its : List Value} {n : Nat} {ps : List PyData} (ho : h.get? a = some o) (hc : o.cls = .type "tuple") (hd : o.data = .seq its.toArray n) (hz : (tupleText (PyData.shownAll ps)).length ≤ sizeLine)
    (x : (∃ as, ReadsAll h its ps as) ∧ ∃ bs, ReadAtMost h (PyData.depthAll ps) bs ∧ ReprAllK prog w bs h (PyData.depthAll ps) its (PyData.shownAll ps)) : Rpr prog w h (.ref a) (.tuple ps) := by
  obtain ⟨⟨as, x1⟩, bs, hb, hk⟩ := x
  have r : Reads h (.ref a) (.tuple ps) as := .tuple ho hc hd (by simpa using x1)
  have hna : a ∉ bs := not_mem_of_deeper r (by simp only [PyData.depth]; omega) hb
  have hk' : ReprAllK prog w bs h (PyData.depthAll ps) its.toArray.toList (PyData.shownAll ps) := by simpa using hk
  refine ⟨⟨_, r⟩, ⟨a :: bs, ReadAtMost.cons r (by simp only [PyData.depth]; omega) hb, ?_⟩, fun b e => ?_⟩
  · simp only [PyData.depth, PyData.shown]
    exact ReprK.tuple ho hc hd hna hk'
  · cases e
    refine ⟨"tuple", "tuple.__repr__", F.slot_tuple_repr, F.slot_tuple_str, F.slot_tuple_format, fun s hk0 => ⟨o, hk0 _ _ ho, hc⟩, fun A E s Q hg hu hk0 hQ => ?_⟩
    simp only [PyData.depth] at hu
    simp only [PyData.shown] at hQ
    exact call_tuple_reprK ho hc hd hna hk' hg (fun b _ => Clear.nil b) hu hk0 hQ hz
theorem rpr_dict {prog : Program} {w : World} {h : Heap} {a : Addr} {o : Obj} {es : Array DictEntry} {n : Nat} {kvs : List (PyData × PyData)} (ho : h.get? a = some o) (hc : o.cls = .type "dict") (hd : o.data = .dict es n) (hsys : (a == sysModules) = false)
    (hz : (dictText (PyData.shownKv kvs)).length ≤ sizeLine)
    (x : (∃ as, ReadsAll h (es.toList.map (·.key)) (kvs.map (·.1)) as) ∧ ∃ bs, ReadAtMost h (PyData.depthAll (kvs.map (·.1))) bs ∧ ReprAllK prog w bs h (PyData.depthAll (kvs.map (·.1))) (es.toList.map (·.key)) (PyData.shownAll (kvs.map (·.1))))
    (y : (∃ as, ReadsAll h (es.toList.map (·.val)) (kvs.map (·.2)) as) ∧ ∃ bs, ReadAtMost h (PyData.depthAll (kvs.map (·.2))) bs ∧ ReprAllK prog w bs h (PyData.depthAll (kvs.map (·.2))) (es.toList.map (·.val)) (PyData.shownAll (kvs.map (·.2)))) : Rpr prog w h (.ref a) (.dict kvs) := by
  obtain ⟨⟨as₁, h4⟩, b1, hb1, k1⟩ := x
  obtain ⟨⟨bs₁, h5⟩, b2, hb2, k2⟩ := y
  have r : Reads h (.ref a) (.dict kvs) _ := .dict ho hc hd h4 h5
  have hb : ReadAtMost h (PyData.depthKv kvs) (b1 ++ b2) := (hb1.mono (PyData.depthAll_keys_le kvs)).append (hb2.mono (PyData.depthAll_vals_le kvs))
  have hna : a ∉ b1 ++ b2 := not_mem_of_deeper r (by simp only [PyData.depth]; omega) hb
  have hE := ReprEntriesK.of_two es.toList _ _ (k1.more_le (fun b hb => List.mem_append_left b2 hb) (PyData.depthAll_keys_le kvs)) (k2.more_le (fun b hb => List.mem_append_right b1 hb) (PyData.depthAll_vals_le kvs))
  refine ⟨⟨_, r⟩, ⟨a :: (b1 ++ b2), ReadAtMost.cons r (by simp only [PyData.depth]; omega) hb, ?_⟩, fun b e => ?_⟩
  · simp only [PyData.depth, PyData.shown, PyData.shownKv_eq]
    exact ReprK.dict ho hc hd hsys hna hE
  · cases e
    refine ⟨"dict", "dict.__repr__", F.slot_dict_repr, F.slot_dict_str, F.slot_dict_format, fun s hk0 => ⟨o, hk0 _ _ ho, hc⟩, fun A E s Q hg hu hk0 hQ => ?_⟩
    simp only [PyData.depth] at hu
    simp only [PyData.shown, PyData.shownKv_eq] at hQ
    exact call_dict_reprK ho hc hd hsys hna hE hg (fun b _ => Clear.nil b) hu hk0 hQ (by rw [← PyData.shownKv_eq]; exact hz)
def keyDD : Key → D
  | .inl i => .int i
  | .inr x => .str x
theorem kv_vals {P : Program} {w : World} : ∀ {kvs : List (Key × V)} {vs : List (Key × Value)} {es : List DictEntry}, KV kvs vs → Pairs (mixKind P w) es vs → Vals (kvs.map fun kv => kV kv.1) (es.map (·.key)) ∧ Vals (kvs.map (·.2)) (es.map (·.val))
  | _, _, _, .nil, .nil => ⟨.nil, .nil⟩
  | _, _, _, .cons e r, .cons h1 h2 h3 => by
    obtain ⟨i1, i2⟩ := kv_vals r h3
    refine ⟨.cons ?_ i1, .cons ?_ i2⟩
    · have := relV_key h1
      show L2.RelV (kV _) _
      rw [e.1]
      exact this
    · show L2.RelV _ (DictEntry.val _)
      rw [h2]
      exact e.2
theorem keys_rep : ∀ (ks : List Key), RepL (kx X T) ι F (ks.map keyDD) (ks.map kV)
  | [] => rfl
  | .inl i :: ks => ⟨_, _, rfl, rfl, keys_rep ks⟩
  | .inr i :: ks => ⟨_, _, rfl, rfl, keys_rep ks⟩
def pyF (d : D) : Option PyData := if isF d then pyR 1 [] d else none
theorem keys_py : ∀ (ks : List Key), mapO pyF (ks.map keyDD) = some (ks.map keyP)
  | [] => rfl
  | .inl i :: ks => by
    show ((some (PyData.int i)).bind fun b => (mapO pyF (ks.map keyDD)).map fun bs => b :: bs) = _
    rw [keys_py ks] <;> rfl
  | .inr i :: ks => by
    show ((some (PyData.str i)).bind fun b => (mapO pyF (ks.map keyDD)).map fun bs => b :: bs) = _
    rw [keys_py ks] <;> rfl
theorem rpr_flat {prog : Program} {w : World} {h : Heap} {d : D} {v : V} {u : Value} {p : PyData} (e : pyR 1 [] d = some p) (hf : isF d = true) (r : Rep (kx X T) ι F d v) (rv : RelV v u) (hs : p.showable = true) (hz : p.shown.length ≤ sizeLine) : Rpr prog w h u p := by
  cases d with
  | non => cases e; cases r; cases rv; exact ⟨⟨_, .none⟩, ⟨[], (fun _ h => nomatch h), by simp only [PyData.shown]; exact .of_is ReprIs.none _ _ _⟩, fun a e => nomatch e⟩
  | bl b => cases e; cases r; cases rv; exact ⟨⟨_, .bool b⟩, ⟨[], (fun _ h => nomatch h), by simp only [PyData.shown]; exact .of_is (ReprIs.bool b) _ _ _⟩, fun a e => nomatch e⟩
  | int i =>
    cases e; cases r
    obtain ⟨t, rfl⟩ := rv
    exact ⟨⟨_, .int i t⟩, ⟨[], (fun _ h => nomatch h), by simp only [PyData.shown]; exact .of_is (ReprIs.int t (by simpa [PyData.showable] using hs)) _ _ _⟩, fun a e => nomatch e⟩
  | str x =>
    cases e; cases r
    obtain ⟨t, rfl⟩ := rv
    exact ⟨⟨_, .str x t⟩, ⟨[], (fun _ h => nomatch h), by simp only [PyData.shown]; exact .of_is (ReprIs.str x t (by simpa only [PyData.shown] using hz)) _ _ _⟩, fun a e => nomatch e⟩
  | _ => cases hf
theorem flat_py {d : D} {n : Nat} {M : Mem} (hf : isF d = true) : pyR (n + 1) M d = pyR 1 [] d := by
  cases d <;> first | rfl | cases hf
theorem rpr_of (I : Inv X pins σ H s) (r : Rel (kx X T) ι F rs H M) : ∀ (n : Nat) (d : D) (v : V) (u : Value) (p : PyData), pyR n M d = some p → Rep (kx X T) ι F d v → RelV v u → p.showable = true → p.shown.length ≤ sizeLine → Rpr X.prog X.w s.heap u p
  | 0, d, v, u, p, e, _, _, _, _ => nomatch e
  | n + 1, d, v, u, p, e, rd, rv, hs, hz => by
    by_cases hf : isF d = true
    · rw [flat_py hf] at e
      exact rpr_flat e hf rd rv hs hz
    have ih := rpr_of I r n
    have rest : ∀ {a : Addr}, v = .ref a → u = .ref a := fun {a} e => by subst e; exact rv
    by_cases ht : ∃ xs, d = .tup xs
    · obtain ⟨xs, rfl⟩ := ht
      obtain ⟨ps, e1, rfl⟩ := Option.map_eq_some_iff.mp (show (mapO (pyR n M) xs).map PyData.tuple = some p from e)
      obtain ⟨a, vs, ev, h1, h2⟩ := rd
      obtain rfl := rest ev
      obtain ⟨its, rvs, ⟨o, ho, hc, m, hd⟩, _⟩ := I.tuple (sqt_sub r h1)
      have hz' : (tupleText (PyData.shownAll ps)).length ≤ sizeLine := by simpa only [PyData.shown] using hz
      exact rpr_tuple ho hc hd hz' (rpr_all ih xs vs its ps e1 h2 rvs (by simpa [PyData.showable] using hs) fun t ht => Nat.le_trans (tupleText_mem_le ht) hz')
    have e' : (match dcOf M d with
      | some kvs => (mapO (pyR n M) (kvs.map (·.2))).map fun ps => PyData.dict ((kvs.map fun kv => keyP kv.1).zip ps)
      | none => match lsOf M d with
        | some xs => (mapO (pyR n M) xs).map .list
        | none => none) = some p := by
      cases d <;> first | exact e | exact absurd rfl hf | exact absurd ⟨_, rfl⟩ ht
    split at e'
    · rename_i kvs ek
      obtain ⟨ps, e1, rfl⟩ := Option.map_eq_some_iff.mp e'
      obtain ⟨a, vs, ev, h1, h2, h3⟩ := dcOf_at r ek rd
      obtain rfl := rest ev
      obtain ⟨_, hsys, us, rel, o, es, ep, ho, hx, hd, _, hp, _⟩ := dk_rd I.hok h1
      obtain ⟨r1, r2⟩ := kv_vals rel hp
      have hl : ps.length = kvs.length := by rw [mapO_len e1, List.length_map]
      have f1 : ((kvs.map fun kv => keyP kv.1).zip ps).map (·.1) = (kvs.map (·.1)).map keyP := by
        rw [List.map_map]
        exact List.map_fst_zip (by rw [List.length_map, hl]; exact Nat.le_refl _)
      have f2 : ((kvs.map fun kv => keyP kv.1).zip ps).map (·.2) = ps := List.map_snd_zip (by rw [List.length_map, hl]; exact Nat.le_refl _)
      have hz' : (dictText (PyData.shownKv ((kvs.map fun kv => keyP kv.1).zip ps))).length ≤ sizeLine := by simpa only [PyData.shown] using hz
      obtain ⟨hs1, hs2⟩ := PyData.showableKv_split _ (by simpa [PyData.showable] using hs : PyData.showableKv ((kvs.map fun kv => keyP kv.1).zip ps) = true)
      refine rpr_dict ho hx.1 hd hsys hz' ?_ ?_
      · have q1 := fun t ht => let ⟨p, hp, hl⟩ := PyData.shownKv_key_le ((kvs.map fun kv => keyP kv.1).zip ps) t ht; Nat.le_trans hl (Nat.le_trans (dictText_mem_le hp) hz')
        rw [f1] at hs1 q1 ⊢
        have m1 : kvs.map (·.1) = vs.map (·.1) := h2.symm
        refine rpr_all (X := X) (T := T) (ι := ι) (F := F) (f := pyF) (fun d v u p e rd rv hs hz => ?_) _ _ _ _ (keys_py (kvs.map (·.1))) (keys_rep _) (by rw [m1, List.map_map]; exact r1) hs1 q1
        unfold pyF at e
        split at e
        · rename_i hf
          exact rpr_flat e hf rd rv hs hz
        · cases e
      · have q2 := fun t ht => let ⟨p, hp, hl⟩ := PyData.shownKv_val_le ((kvs.map fun kv => keyP kv.1).zip ps) t ht; Nat.le_trans hl (Nat.le_trans (dictText_mem_le hp) hz')
        rw [f2] at hs2 q2 ⊢
        exact rpr_all ih _ _ _ _ e1 h3 r2 hs2 q2
    · split at e'
      · rename_i xs e1
        obtain ⟨ps, e2, rfl⟩ := Option.map_eq_some_iff.mp e'
        obtain ⟨a, vs, ev, h1, h2⟩ := lsOf_at r e1 rd
        obtain rfl := rest ev
        obtain ⟨its, rvs, ⟨o, m, ho, hc, _, hd⟩, _⟩ := I.list h1
        have hz' : (listText (PyData.shownAll ps)).length ≤ sizeLine := by simpa only [PyData.shown] using hz
        exact rpr_list ho hc hd hz' (rpr_all ih xs vs its ps e2 h2 rvs (by simpa [PyData.showable] using hs) fun t ht => Nat.le_trans (listText_mem_le ht) hz')
      · cases e'
/-- repr(x) -/
theorem c_repr {k : Nat} (hr : Room k X.A) : CallR X (.builtin "repr") (RC (kx X T) rs reprC) := by
  intro pins s σ H vs us Q I rv h
  obtain ⟨ι, F, M, ds, z, M', r, rd, e, q⟩ := h
  unfold reprC at e
  split at e
  · rename_i d
    split at e
    · rename_i p hp
      split at e
      · rename_i hc
        cases e
        rw [Bool.and_eq_true, Bool.and_eq_true, decide_eq_true_eq, decide_eq_true_eq] at hc
        obtain ⟨⟨hs, hd⟩, hz⟩ := hc
        rw [line_eq] at hz
        obtain ⟨v, rfl, h1⟩ := one_of rd
        obtain ⟨u, rfl, ru⟩ := vals1 rv
        have R := rpr_of I r 12 d v u p hp h1 ru hs hz
        have fin : ∀ h' t tk, (∀ b o, s.heap.get? b = some o → h'.get? b = some o) → EP X pins σ Q (.str p.shown t) { s with heap := h', toks := tk } := fun h' t tk k => ⟨.str p.shown, H, I.kept k, ⟨t, rfl⟩, q ι F H _ Le.refl r rfl⟩
        have hun := hr.un
        have ref : ∀ {a : Addr}, u = .ref a → wpAny (model X.prog X.w) X.A (call (.builtin "repr") [u]) (EP X pins σ Q) X.xe s := fun {a} eu => by
          subst eu
          obtain ⟨Ty, idr, S⟩ := R.top a rfl
          exact call_repr_slot (by omega) (S.typeIs s fun b o e => e) S.slotRepr (S.call X.A.in1 _ s _ hr.gu (by show X.A.units + 1 + p.depth < cLine; omega) (fun b o e => e) fun h' t tk k => ⟨_, _, rfl, fin h' t tk k⟩)
        cases d with
        | non =>
          cases h1; cases ru
          cases hp
          refine PySem.P.repr_of_none ?_
          have := fin s.heap s.toks (s.toks + 1) fun b o e => e
          simp only [PyData.shown] at this
          exact this
        | bl b =>
          cases h1; cases ru
          cases hp
          refine PySem.P.repr_of_bool ?_
          have := fin s.heap s.toks (s.toks + 1) fun b o e => e
          simp only [PyData.shown] at this
          exact this
        | int i =>
          cases h1
          obtain ⟨t, rfl⟩ := ru
          cases hp
          refine PySem.P.repr_of_int (by simpa [PyData.showable] using hs) ?_
          have := fin s.heap s.toks (s.toks + 1) fun b o e => e
          simp only [PyData.shown] at this
          exact this
        | str i =>
          cases h1
          obtain ⟨t, rfl⟩ := ru
          cases hp
          refine PySem.P.repr_of_str ?_ (by simpa only [PyData.shown] using hz)
          have := fin s.heap s.toks (s.toks + 1) fun b o e => e
          simp only [PyData.shown] at this
          exact this
        | ty i => cases hp
        | glb i => cases hp
        | lst xs => obtain ⟨a, vs, rfl, _⟩ := h1; exact ref ru
        | tup xs => obtain ⟨a, vs, rfl, _⟩ := h1; exact ref ru
        | dic xs ys => obtain ⟨a, vs, rfl, _⟩ := h1; exact ref ru
        | ref i => obtain ⟨a, rfl, _⟩ := h1; exact ref ru
      · cases e
    · cases e
  · cases e
end

/-! ### d.get(k, x) -/
def eGet (o a b : Sem1 D) : Sem1 D := fun s M => (o s M).bind fun x M1 => if (dcOf M1 x).isSome then (a s M1).bind fun y M2 => (b s M2).bind fun z M3 => match dcOf M3 x, keyOf y with
  | some kvs, some k => .ok ((getK kvs k).getD z) M3
  | _, _ => .bad else .bad
section
variable {X : Cx} {T : Tab} {W : WX} {o a b : Expr} {φ ψ χ : Sem1 D} {apos cpos : Pos}
theorem Get2 (hu : X.A.units + 1 < cLine) (ho : KE X T W o φ) (ha : KE X T W a ψ) (hb : KE X T W b χ) (m : M2 X o "get" apos a b cpos := by exact ⟨noSup rfl, rfl, rfl, rfl⟩) : KE X T W (.Call (.Attribute o "get" apos) [a, b] [] cpos) (eGet φ ψ χ) := fun rs => PE.imp (pe_dget2 hu (ho rs) (ha rs) (hb rs) m) fun σ H Q h => by
  obtain ⟨ι, F, s, M, r, rS, p⟩ := h
  refine ⟨ι, F, s, M, r, rS, p.step fun v H1 ι1 F1 M1 x l1 r1 rv p1 => ?_⟩
  split at p1
  · rename_i hsome
    obtain ⟨kvs0, e0⟩ := Option.isSome_iff_exists.mp hsome
    obtain ⟨c, vs0, rfl, h0, _, _⟩ := dcOf_at r1 e0 rv
    refine ⟨c, rfl, .inl ⟨vs0, h0⟩, ι1, F1, s, M1, r1, rS.le l1, p1.step fun y H2 ι2 F2 M2 yd l2 r2 ry p2 => ?_⟩
    refine ⟨ι2, F2, s, M2, r2, (rS.le l1).le l2, p2.step fun z H3 ι3 F3 M3 zd l3 r3 rz p3 => ?_⟩
    split at p3
    · rename_i kvs k e1 e2
      obtain ⟨c', vs, ec, hc, m1, m2⟩ := dcOf_at r3 e1 (l3 _ _ (l2 _ _ rv))
      cases ec
      have hv := valV_rep (k := k) m1 m2
      refine ⟨valV vs k, .inl ⟨vs, k, hc, keyOf_rep e2 (l3 _ _ ry), rfl⟩, ?_⟩
      split at hv
      · rename_i d' e3
        obtain ⟨w, e4, rw⟩ := hv
        rw [e3] at p3
        rw [e4]
        exact p3.fin r3 rw
      · rename_i e3
        rw [e3] at p3
        rw [hv]
        exact p3.fin r3 rz
    · exact p3.elim
  · exact p1.elim
end
end LD
namespace LD
open PySem PySem.Spec PyProof.Rows L2

/-! ### more evaluation rows -/
def okS {α : Type} (b : Bool) (r : R α) (_ : Tg r) : R α := if b then r else .bad
theorem okS_t {α : Type} {r : R α} {t : Tg r} : okS true r t = r := rfl
def lstK : Option DO → Bool
  | some (.lst _) => true
  | _ => false
theorem lstK_s {xs : List D} : lstK (some (.lst xs)) = true := rfl
def appK (o : Option DO) (i : Nat) (d : D) (M : Mem) : Option (D × Mem) := match o with
  | some (.lst xs) => if xs.length < LINE then some (.non, M.set i (.lst (xs ++ [d]))) else none
  | _ => none
def lsK (o : Option (List D)) (k : List D → R D) (_ : Tg k) : R D := match o with
  | some xs => k xs
  | none => .bad
theorem lsK_s {xs : List D} {k : List D → R D} {t : Tg k} : lsK (some xs) k t = k xs := rfl
def getKK (o : Option (List (Key × D))) (k : Option Key) (z : D) (M : Mem) : R D := match o, k with
  | some kvs, some k => .ok ((getK kvs k).getD z) M
  | _, _ => .bad
theorem getKK_s {kvs : List (Key × D)} {k : Key} {z : D} {M : Mem} : getKK (some kvs) (some k) z M = .ok ((getK kvs k).getD z) M := rfl
section
variable {s : DS} {M : Mem} {x y d : D} {i : Nat} {a b c : Sem1 D} {α : Sem1 (List D)}
theorem q_App : eBm isLst appG a α s M = bnd (a s M) (fun x M1 => okS (isLst M1 x) (bnd (α s M1) (fun ds M2 => ofO (appG x ds M2)) .mk) .mk) .mk := rfl
theorem v_isLst : isLst M (.ref i) = lstK M[i]? := by
  cases h : M[i]? with
  | none => simp only [isLst, lsOf, lstK, h] <;> rfl
  | some o => cases o <;> simp only [isLst, lsOf, lstK, h] <;> rfl
theorem v_app : appG (.ref i) [d] M = appK M[i]? i d M := by
  cases h : M[i]? with
  | none => simp only [appG, appK, h]
  | some o => cases o <;> simp only [appG, appK, h]
theorem appK_s {xs : List D} (h : xs.length < LINE) : appK (some (.lst xs)) i d M = some (.non, M.set i (.lst (xs ++ [d]))) := if_pos h
theorem q_Rev : eRev false a s M = bnd (a s M) (fun x M1 => lsK (lsOf M1 x) (fun xs => .ok (.lst xs.reverse) M1) .mk) .mk := by
  show R.bind _ _ = R.bind _ _
  congr 1
theorem q_Get : eGet a b c s M = bnd (a s M) (fun x M1 => okS (dcOf M1 x).isSome (bnd (b s M1) (fun y M2 => bnd (c s M2) (fun z M3 => getKK (dcOf M3 x) (keyOf y) z M3) .mk) .mk) .mk) .mk := by
  unfold eGet getKK
  rfl
theorem v_lsL {xs : List D} : lsOf M (.lst xs) = some xs := rfl
theorem v_lsR {xs : List D} (h : M[i]? = some (.lst xs)) : lsOf M (.ref i) = some xs := by
  simp only [lsOf, h]
theorem v_dcR {kvs : List (Key × D)} (h : M[i]? = some (.dic kvs)) : dcOf M (.ref i) = some kvs := by
  simp only [dcOf, h]
theorem v_keyI {k : Int} : keyOf (.int k) = some (.inl k) := rfl
theorem v_keyS {k : Str} : keyOf (.str k) = some (.inr k) := rfl
theorem v_srcR {xs : List D} (h : M[i]? = some (.lst xs)) : srcOf M (.ref i) = some ⟨xs, mutChk i xs⟩ := by
  simp only [srcOf, h]
  rfl
theorem v_listR {xs : List D} (h : M[i]? = some (.lst xs)) : listC false [.ref i] M = some (.lst xs, M) := by
  show (sqOf M (.ref i)).map _ = _
  have : sqOf M (.ref i) = some xs := by
    unfold sqOf
    exact v_lsR h
  rw [this] <;> rfl
theorem v_lenR {xs : List D} (h : M[i]? = some (.lst xs)) : lenC [.ref i] M = some (.int xs.length, M) := by
  unfold lenC
  simp only [h]
theorem v_lenRd {kvs : List (Key × D)} (h : M[i]? = some (.dic kvs)) : lenC [.ref i] M = some (.int kvs.length, M) := by
  unfold lenC
  simp only [h]
theorem v_eqs {p q : Str} : boD eqD (.str p) (.str q) M = some (.bl (p == q), M) := rfl
theorem v_nes {p q : Str} : boD (notB eqD) (.str p) (.str q) M = some (.bl (!(p == q)), M) := rfl
theorem v_adds {a b : Str} {M : Mem} (h : a.length + b.length ≤ LINE) : addD (.str a) (.str b) M = some (.str (a ++ b), M) := if_pos h
theorem v_isiBb {b : Bool} : isiC [.bl b, .ty "bool"] M = some (.bl true, M) := by cases b <;> rfl
/-- a list that may change and a value: equal if the items are the same -/
theorem v_neR {n : Nat} {xs : List D} (h : M[i]? = some (.lst xs)) (ho : okL n xs = true) (hn : n < 64) : boD (notB eqD) (.ref i) (.lst xs) M = some (.bl false, M) := by
  have e : eqD M (.ref i) (.lst xs) = eqD M (.lst xs) (.lst xs) := by
    unfold eqD
    have e1 : pyOf M (.ref i) = pyOf M (.lst xs) := by
      show (match M[i]? with | some (.lst xs) => (pyL xs).map PyData.list | _ => none) = _
      rw [h]
      show _ = pyD (.lst xs)
      rw [pyD]
    rw [e1] <;> rfl
  have e2 := eqD_self (n := n + 1) (d := .lst xs) (M := M) (by rw [okD]; exact ho) (by omega)
  show (notB eqD M (.ref i) (.lst xs)).map _ = _
  unfold notB
  rw [e, e2] <;> rfl
theorem v_repr {p : PyData} (h : pyR 12 M d = some p) (h1 : p.showable = true) (h2 : p.depth ≤ 60) (h3 : p.leavesShort 13 = true) (h4 : p.weight ≤ 2 ^ 20) : reprC [d] M = some (.str p.shown, M) := by
  simp only [reprC, h]
  rw [if_pos]
  rw [h1, decide_eq_true h2, decide_eq_true (show p.shown.length ≤ LINE by rw [line_eq]; exact PyData.shown_fits (by decide) (by decide) h3 h4)] <;> rfl
theorem mapO_map {α : Type} {f : D → Option PyData} {e : α → D} {g : α → PyData} : ∀ {as : List α}, (∀ a ∈ as, f (e a) = some (g a)) → mapO f (as.map e) = some (as.map g)
  | [], _ => rfl
  | a :: as, h => by
    show ((f (e a)).bind fun b => (mapO f (as.map e)).map fun bs => b :: bs) = _
    rw [h a List.mem_cons_self, mapO_map fun b hb => h b (List.mem_cons_of_mem _ hb)] <;> rfl
theorem seqN {ψ χ : SSem} {s1 : DS} {M1 : Mem} (h : ψ s M = .nx s1 M1) : sSeq ψ χ s M = χ s1 M1 := by rw [q_Seq, h] <;> rfl
theorem seqR {ψ χ : SSem} {M1 : Mem} (h : ψ s M = .rt d M1) : sSeq ψ χ s M = .rt d M1 := by rw [q_Seq, h] <;> rfl
end
end LD
namespace LD
open PySem PySem.Spec PyProof.Rows L2

/-! ### own __iter__: return iter(self.F) -/
def IterD (P : Program) (w : World) (K : PySem.W.Frag) (mg : Str → Option Value) (base : Heap) (T : Tab) (k c j : Nat) : Prop :=
  ∃ C ly g, T.ct[c]? = some (C, ly) ∧ PySem.W.findIn K (.ref C) "__iter__" = some (some (.ref g)) ∧ PySem.W.isFn K (.ref g) = true ∧
    ∀ (rs : List (Addr × HO)) (A : Around) (outer : List Env) (s : Shared) (H : Hp) (ι : List Addr) (F : Hp) (M : Mem) (i l : Nat) (fs : List (Option D)) (xs : List D) (a la : Addr), Room k A → Env0 P w K mg base A outer s H → Rel ⟨K, T⟩ ι F rs H M →
      M[i]? = some (.ins c fs) → fs[j]? = some (some (.ref l)) → M[l]? = some (.lst xs) → ι[i]? = some a → ι[l]? = some la →
      codeAny (model P w) A (.call (.ref g) ⟨[.ref a], []⟩) (CR (L2.CX P w) outer P w H s (fun v H' => ∃ it ι' F' H1, v = .ref it ∧ s.heap.objs.size ≤ it ∧ Le ⟨K, T⟩ ι F ι' F' ∧ Rel ⟨K, T⟩ ι' F' rs H1 M ∧ H1 it = none ∧ H' = upd H1 it (ItO la it 0)) fun _ _ _ => False) s
theorem iterD_of {P : Program} {w : World} {K : PySem.W.Frag} {mg : Str → Option Value} {base : Heap} {T : Tab} {k c j : Nat} {C g : Addr} {ly : List Str} {x qual self : Str} {st : Stmt} {fd : FuncData} (hc : T.ct[c]? = some (C, ly)) (hs : PySem.W.findIn K (.ref C) "__iter__" = some (some (.ref g)))
    (hf : PySem.W.isFn K (.ref g) = true) (Fx : L2.Fun K x qual st g fd) (S : FnScope [self] [self] (defScope st)) (hb : ∀ (s : Shared) (u : Value), BindsTo s fd ⟨[u], []⟩ [(self, u)])
    (hbody : ∀ (cdv : Value) (A : Around) (outer : List Env) (s : Shared) (H : Hp) (E : XK) (rs : List (Addr × HO)), PSs (cxOf (L2.CX P w) P w K mg base [self] qual (defScope st) g cdv A outer s H E) (defBody st)
      (tSeq (tRet (tCB (ItX.rIterN K s.heap.objs.size) (LA ⟨K, T⟩ rs (fun c d _ H => E c d H) (aCons (eAttr [] [(c, j)] (eVar 0)) aNil)))) tNext)) : IterD P w K mg base T (k + 1) c j := by
  refine ⟨C, ly, g, hc, hs, hf, fun rs A outer s H ι F M i l fs xs a la hr e0 r hM hj hl hi hil => ?_⟩
  refine fn_at (us := [Value.ref a]) (vs := [V.ref a]) Fx S hr e0 (hb s _) (.cons rfl .nil) rfl fun cdv hr' => ⟨_, hbody cdv A outer s H _ rs, ?_⟩
  have e : (aCons (eAttr [] [(c, j)] (eVar 0)) aNil) (startD 1 [D.ref i]) M = .ok [.ref l] M := by
    have e1 : eAttr [] [(c, j)] (eVar 0) (startD 1 [D.ref i]) M = .ok (.ref l) M := by
      rw [q_Attr]
      show bnd (R.ok (D.ref i) M) _ _ = _
      rw [bind_k, refK_r, hM, insK_i]
      show lookK none _ _ _ _ = _
      rw [lookK_n]
      show lookK (List.lookup c [(c, j)]) _ _ _ _ = _
      rw [List.lookup_cons, beq_self_eq_true]
      show lookK (some j) _ _ _ _ = _
      rw [lookK_s, hj] <;> rfl
    rw [q_Cons, e1] <;> rfl
  refine ⟨ι, F, startD 1 [D.ref i], M, r, start_rep (N := [self]) (ds := [D.ref i]) ⟨_, _, rfl, ⟨a, rfl, hi⟩, rfl⟩, ?_⟩
  rw [e]
  intro ι' F' H' vs le r' rv
  obtain ⟨v, rfl, la', rfl, h1⟩ := one_of rv
  obtain ⟨la2, e2, h2⟩ := le (.ref l) (.ref la) ⟨la, rfl, hil⟩
  cases e2
  rw [h1] at h2
  cases h2
  obtain ⟨_, us, h3, _⟩ := r'.obj l _ la hl h1 rfl
  exact ⟨la, us, rfl, .inl (.inl h3), fun it hn hs => ⟨it, ι', F', H', rfl, hs, le, r', hn, rfl⟩⟩
def iOwn (tbl : List (Nat × Nat)) (a : Sem1 D) : Sem1 Src := fun s M => (a s M).bind fun x M1 => match x with
  | .ref i => match M1[i]? with
    | some (.ins c fs) => match tbl.lookup c with
      | some j => match fs[j]? with
        | some (some (.ref l)) => match M1[l]? with
          | some (.lst xs) => .ok ⟨xs, mutChk l xs⟩ M1
          | _ => .bad
        | _ => .bad
      | none => .bad
    | _ => .bad
  | _ => .bad
theorem walk_mutF {K : KX} {a : Addr} {i : Nat} {xs : List D} : WalkD K (ItX.ItlF K.fr a 0) ⟨xs, mutChk i xs⟩ (fun ι F => Rep K ι F (.ref i) (.ref a)) where
  mono := fun l h => l _ _ h
  go := fun {ι F rs H M j} h r c hi => by
    have := (walk_mut (K := K) (a := a) (i := i) (xs := xs)).go h r c hi
    show (Itl K.fr a).go (0 + j) H
    rw [Nat.zero_add]; exact this
  stop := fun {ι F rs H M} h r c => by
    have := (walk_mut (K := K) (a := a) (i := i) (xs := xs)).stop h r c
    show (Itl K.fr a).stop (0 + _) H
    rw [Nat.zero_add]; exact this
  yld := fun {ι F rs H M j d x H'} h r c e y => by
    have y' : (Itl K.fr a).yld (0 + j) H x H' := y
    rw [Nat.zero_add] at y'
    exact (walk_mut (K := K) (a := a) (i := i) (xs := xs)).yld h r c e y'
section
variable {X : Cx} {T : Tab} {W : WX} {tg e : Expr} {φ : Sem1 D}
theorem ki_own {k k' : Nat} {tbl : List (Nat × Nat)} (ht : ∀ c j, tbl.lookup c = some j → IterD X.prog X.w X.K X.mg X.base T k' c j) (hr : Room k X.A) (he : KE X T W e φ) (hl : k' ≤ k := by first | decide | omega) : KI X T W tg e (iOwn tbl φ) := ⟨fun rs => ⟨fun pins s σ H R I h => by
  refine thn ((he rs).run pins s σ H (fun v H1 => ∃ ι F M i c fs j l xs, Rel (kx X T) ι F rs H1 M ∧ Rep (kx X T) ι F (.ref i) v ∧ M[i]? = some (.ins c fs) ∧ tbl.lookup c = some j ∧ fs[j]? = some (some (.ref l)) ∧ M[l]? = some (.lst xs) ∧
    ∀ ι' F' H' J, Le (kx X T) ι F ι' F' → Rel (kx X T) ι' F' rs H' M → repI (kx X T) ι' F' ⟨xs, mutChk l xs⟩ J → R J H') I ?_) fun u s1 ⟨v, H1, I1, rv, q⟩ => ?_
  · obtain ⟨ι, F, st, M, r, rS, p⟩ := h
    refine ⟨ι, F, st, M, r, rS, p.step fun v H1 ι1 F1 M1 x l1 r1 rv p1 => ?_⟩
    cases x with
    | ref i =>
      simp only at p1
      split at p1
      · rename_i c fs hM
        split at p1
        · rename_i j hj
          split at p1
          · rename_i l hfl
            split at p1
            · rename_i xs hl
              exact ⟨ι1, F1, M1, i, c, fs, j, l, xs, r1, rv, hM, hj, hfl, hl, p1⟩
            · exact p1.elim
          · exact p1.elim
        · exact p1.elim
      · exact p1.elim
    | _ => exact p1.elim
  · obtain ⟨ι, F, M, i, c, fs, j, l, xs, r, ri, hM, hj, hfl, hll, p⟩ := q
    obtain ⟨a, rfl, hi⟩ := ri
    obtain rfl : u = Value.ref a := rv
    obtain ⟨C, ly, g, hc, hs, hf, run⟩ := ht c j hj
    obtain ⟨_, C', ly', dx, vs, hc', hH, _, _, hlen, hget⟩ := r.obj i _ a hM hi rfl
    have e2 : (C, ly) = (C', ly') := Option.some.inj (hc.symm.trans hc')
    cases e2
    obtain ⟨mA, J, _⟩ := ins_get I1.hok hH
    obtain ⟨od, J, _⟩ := J.look
    obtain ⟨m, hF⟩ := I1.fr
    have hjl : j < ly.length := by rw [← hlen]; exact (List.getElem?_eq_some_iff.mp hfl).1
    obtain ⟨w, _, la, rfl, hla⟩ := hget j ly[j] (List.getElem?_eq_getElem hjl) _ hfl
    refine PySem.W.owit_iter hF I1.ok.mod.kin J hs hf (wpAny_call (codeAny_mono (run rs X.A X.stack s1 H1 ι F M i l fs xs a la (hr.mono hl) I1.env0 r hM hfl hll hi hla) fun rr s' hq => ?_))
    cases rr with
    | error er =>
      obtain ⟨_, _, _, _, _, _, _, _, _, _, _, _, z⟩ := hq
      exact z.elim
    | ok fl =>
      cases fl with
      | next => exact False.elim hq
      | brk => exact False.elim hq
      | cont => exact False.elim hq
      | ret u' =>
        obtain ⟨v', H2, I2, rv2, it, ι', F', H3, rfl, hsz, le, r3, hn, rfl⟩ := I1.after hq
        obtain rfl : u' = Value.ref it := rv2
        have hit : upd H3 it (ItO la it 0) it = some (ItO la it 0) := upd_same
        have eo := itO_get I2 hit
        have stt : s'.heap.IsListIter it la (0 + 0) := ⟨_, eo, rfl, rfl⟩
        unfold PySem.W.OwitIt
        refine wpAny_specialOf (T := "list_iterator") stt.typeIs PySem.slot_listiter_next.lookup ?_
        have hi' := hit
        unfold ItO at hi'
        have ed : ItX.dropH (upd H3 it (ItO la it 0)) it = H3 := ItX.dropH_upd hn
        refine ⟨it, [it], _, ItX.ItlF X.K la 0, H3, rfl, ?_, ItX.turn_listF la it 0, stt, fun b hb => ?_, p ι' F' H3 _ le r3 ⟨_, walk_mutF, le (.ref l) (.ref la) ⟨la, rfl, hla⟩⟩⟩
        · rw [← ed]
          exact ItX.inv_drop I2 hi'
        · have eb : b = it := by simpa using hb
          rw [eb, ← ed]
          exact ItX.inv_fp I2 hit (Nat.le_trans I1.sz hsz)⟩⟩
theorem q_iOwn {s : DS} {M : Mem} {tbl : List (Nat × Nat)} {i c j l : Nat} {fs : List (Option D)} {xs : List D} (h : φ s M = .ok (.ref i) M) (h1 : M[i]? = some (.ins c fs)) (h2 : tbl.lookup c = some j) (h3 : fs[j]? = some (some (.ref l))) (h4 : M[l]? = some (.lst xs)) : iOwn tbl φ s M = .ok ⟨xs, mutChk l xs⟩ M := by
  unfold iOwn
  rw [h]
  simp only [R.bind_ok, h1, h2, h3, h4]
end
end LD
namespace LD
open PySem PySem.Spec PyProof.Rows L2

/-! ### {'k': e, ..}: a dict that may change -/
structure KDs (X : Cx) (T : Tab) (W : WX) (pos : Pos) (keys : List (Option Expr)) (values : List Expr) (ks : List Key) (α : Sem1 (List D)) : Prop where
  pd : ∀ rs, ∃ trs, PPs X pos keys values trs ∧ ∀ σ H (Q : List (V × V) → Hp → Prop), LA (kx X T) rs W α σ H (fun vs H' => Q ((ks.map kV).zip vs) H') → tPairs trs σ H Q
  al : AL α keys.length
  kl : ks.length = keys.length
section
variable {X : Cx} {T : Tab} {W : WX} {pos p : Pos} {keys : List (Option Expr)} {values : List Expr} {ks : List Key} {α : Sem1 (List D)} {ψ : Sem1 D} {e v : Expr} {k : Key} {rs : List (Addr × HO)}
theorem kd_nil : KDs X T W pos [] [] [] aNil := ⟨fun rs => ⟨[], pps_nil, fun σ H Q h => by
  obtain ⟨ι, F, s, M, r, rS, p⟩ := h
  exact p.fin r rfl⟩, al_nil, rfl⟩
theorem keyD_rep {K : KX} {ι : List Addr} {F : Hp} {v : V} (h : Rep K ι F (keyDD k) v) : v = kV k := by
  cases k <;> exact h
theorem kd_cons (hk : KE X T W e (eC (keyDD k))) (hv : KE X T W v ψ) (hr : KDs X T W pos keys values ks α) : KDs X T W pos (some e :: keys) (v :: values) (k :: ks) (aCons ψ α) := ⟨fun rs => by
  obtain ⟨trs, hp, hq⟩ := hr.pd rs
  refine ⟨_, pps_cons (hk rs) (hv rs) hp, fun σ H Q h => ?_⟩
  obtain ⟨ι, F, s, M, r, rS, p⟩ := h
  refine ⟨ι, F, s, M, r, rS, fun ι1 F1 H1 x l1 r1 rx => ?_⟩
  have ex := keyD_rep rx
  subst ex
  refine ⟨ι1, F1, s, M, r1, rS.le l1, (Post.le l1 p).step fun w H2 ι2 F2 M2 d l2 r2 rw p2 => hq σ H2 _ ⟨ι2, F2, s, M2, r2, (rS.le l1).le l2, p2.step fun ws H3 ι3 F3 M3 ds l3 r3 rws p3 => ?_⟩⟩
  exact p3.fin r3 ⟨w, ws, rfl, l3 _ _ rw, rws⟩, al_cons hr.al, by rw [List.length_cons, List.length_cons, hr.kl]⟩
def eDisp (ks : List Key) (α : Sem1 (List D)) : Sem1 D := fun s M => (α s (M ++ [.dic []])).bind fun ds M1 => match M1[M.length]? with
  | some (.dic []) => .ok (.ref M.length) (M1.set M.length (.dic (ks.zip ds)))
  | _ => .bad
theorem merge_nodup : ∀ (more kvs : List (Key × V)), (kvs.map (·.1) ++ more.map (·.1)).Nodup → mergeK kvs more = kvs ++ more
  | [], kvs, _ => by rw [List.append_nil]; rfl
  | q :: more, kvs, h => by
    have hn : (kvs.any fun kv => decide (kv.1 = q.1)) = false := by
      rw [List.any_eq_false]
      intro kv hkv e
      have e' := of_decide_eq_true e
      exact (List.nodup_append.mp h).2.2 kv.1 (List.mem_map.mpr ⟨kv, hkv, rfl⟩) q.1 List.mem_cons_self e'
    show mergeK (putK kvs q.1 q.2) more = _
    have e1 : putK kvs q.1 q.2 = kvs ++ [q] := by
      unfold putK
      rw [hn, if_neg Bool.false_ne_true]
    rw [e1, merge_nodup more (kvs ++ [q]) (by rw [List.map_append, List.append_assoc]; exact h), List.append_assoc] <;> rfl
theorem zip_fst {α β : Type} : ∀ {l : List α} {m : List β}, l.length = m.length → (l.zip m).map (·.1) = l
  | [], _, _ => by simp
  | a :: l, [], h => by simp at h
  | a :: l, b :: m, h => by
    rw [List.zip_cons_cons, List.map_cons, zip_fst (by simpa using h)]
theorem zip_snd {α β : Type} : ∀ {l : List α} {m : List β}, l.length = m.length → (l.zip m).map (·.2) = m
  | [], [], _ => rfl
  | [], b :: m, h => by simp at h
  | a :: l, [], h => by simp at h
  | a :: l, b :: m, h => by
    rw [List.zip_cons_cons, List.map_cons, zip_snd (by simpa using h)]
theorem zip_map1 {α β γ : Type} {f : α → γ} : ∀ {l : List α} {m : List β}, (l.map f).zip m = (l.zip m).map fun p => (f p.1, p.2)
  | [], _ => by simp
  | a :: l, [] => by simp
  | a :: l, b :: m => by rw [List.map_cons, List.zip_cons_cons, List.zip_cons_cons, List.map_cons, zip_map1]
theorem d_disp (h : KDs X T W pos keys values ks α) (nd : ks.Nodup) (hall : keys.all (·.isSome) = true) (hl : keys.length = values.length) (h0 : keys ≠ []) (h15 : keys.length ≤ 15) : KE X T W (.Dict keys values pos) (eDisp ks α) := fun rs => by
  obtain ⟨trs, hp, hq⟩ := h.pd rs
  refine PE.imp (pe_disp hp hall hl h0 h15) fun σ H Q hw a ha => ?_
  obtain ⟨ι, F, st, M, r, rS, p⟩ := hw
  have p2 : Post (kx X T) rs (repD (kx X T)) ι F (fun c d => W c d σ) Q ((α st (M ++ [.dic []])).bind fun ds M1 => match M1[M.length]? with
    | some (.dic []) => .ok (.ref M.length) (M1.set M.length (.dic (ks.zip ds)))
    | _ => .bad) := p
  have r1 : Rel (kx X T) (ι ++ [a]) F rs (upd H a (.dK [])) (M ++ [.dic []]) := r.fresh ha rfl ⟨[], upd_same, rfl, rfl⟩
  refine hq σ _ _ ⟨ι ++ [a], F, st, M ++ [.dic []], r1, rS.le Le.push, Post.stepE (rep2 := repD (kx X T)) (Q := Q) (Post.le Le.push p2) fun vs H' ι' F' M' ds e l' r' rv p' => ?_⟩
  have hdl := h.al _ _ _ _ e
  split at p'
  · rename_i hM
    have hi : (ι ++ [a])[M.length]? = some a := by rw [← r.len]; simp
    obtain ⟨a', ea, hi'⟩ := l' (.ref M.length) (.ref a) ⟨a, rfl, hi⟩
    cases ea
    obtain ⟨_, us, h2, h3, h4⟩ := r'.obj _ _ _ hM hi' rfl
    have eus : us = [] := List.map_eq_nil_iff.mp h3
    subst eus
    have hvl : ks.length = vs.length := by rw [RepL.length rv, hdl, h.kl]
    have hdl' : ks.length = ds.length := by rw [hdl, h.kl]
    refine ⟨h2, ks.zip vs, zip_map1, by rw [List.length_zip, ← hvl, Nat.min_self, h.kl]; exact h15, ?_⟩
    rw [merge_nodup (ks.zip vs) [] (by rw [List.map_nil, List.nil_append, zip_fst hvl]; exact nd), List.nil_append]
    refine p'.fin (r'.write hM hi' rfl ⟨ks.zip vs, upd_same, by rw [zip_fst hvl, zip_fst hdl'], ?_⟩) ⟨a, rfl, hi'⟩
    rw [zip_snd hvl, zip_snd hdl']
    exact rv
  · exact p'.elim
theorem q_Disp {s : DS} {M : Mem} : eDisp ks α s M = (α s (M ++ [.dic []])).bind fun ds M1 => match M1[M.length]? with
  | some (.dic []) => .ok (.ref M.length) (M1.set M.length (.dic (ks.zip ds)))
  | _ => .bad := rfl

/-! ### xs.insert(i, y) -/
def insG : OMt := fun x ds M => match x, ds with
  | .ref i, [.int k, d] => match M[i]? with
    | some (.lst xs) => if xs.length < LINE ∧ 0 ≤ k ∧ k < 2 ^ 62 then some (.non, M.set i (.lst (xs.take k.toNat ++ [d] ++ xs.drop k.toNat))) else none
    | _ => none
  | _, _ => none
theorem m_insert : MtR X "list.insert" (RM (kx X T) rs insG) := fun pins s σ H x xs v us Q I rx rxs h => by
  refine mt_insert pins s σ H x xs v us Q I rx rxs ?_
  obtain ⟨ι, F, M, d, ds, z, M', r, rd, rds, e, q⟩ := h
  unfold insG at e
  split at e
  · rename_i i k y
    obtain ⟨a, rfl, hi⟩ := rd
    obtain ⟨w1, w2, rfl, hw1, hw2⟩ := two_of rds
    cases hw1
    split at e
    · rename_i ys hM
      split at e
      · rename_i hl
        cases e
        obtain ⟨f0, vs, h2, h3⟩ := r.obj i _ a hM hi rfl
        refine ⟨a, vs, k, w2, rfl, rfl, h2, by rw [RepL.length h3, ← line_eq]; exact hl.1, hl.2.1, by omega, ?_⟩
        exact q ι F _ _ Le.refl (r.write hM hi rfl ⟨_, upd_same, ((h3.take _).append (.one hw2)).append (h3.drop _)⟩) rfl
      · cases e
    · cases e
  · cases e
theorem Insert {o a b : Expr} {φ : Sem1 D} {apos : Pos} (ho : KE X T W o φ) (ha : KA X T W [a, b] α) (h1 : isSup o = false := by rfl) (hfew : ((backTo pos (starEach [a, b] X.env)).all (fun x => !x.1) && (backToKw pos (keywordEach [] X.env)).all (fun x => x.1.isSome)
      && decide (([a, b] : List Expr).length + ([] : List Keyword).length + (if ([] : List Keyword).isEmpty then 0 else 1) < 30)) = true := by rfl) (hline : (apos.endLine == pos.line) = true := by rfl) (h2 : [a, b].any isStar = false := by rfl) :
    KE X T W (.Call (.Attribute o "insert" apos) [a, b] [] pos) (eBm isLst insG φ α) := d_bm PySem.F.plainAttrs_list PySem.F.slot_list_insert PySem.F.type_list_insert (fun _ => m_insert) (fun r h e => ty_lst r h e) ho ha h1 hfew hline h2
theorem callee_bad {P : Program} {w : World} {K : PySem.W.Frag} {mg : Str → Option Value} {base : Heap} {T : Tab} {k n : Nat} {ks : List Str} {f : Addr} : Callee P w K mg base T k f n ks (fun _ _ => .bad) :=
  ⟨fun rs A outer s H us ws vs zs Q E hr e0 h1 h2 r1 r2 h => by
    obtain ⟨ι, F, ds, M, r, rd, p⟩ := h
    exact p.elim⟩
end
end LD
namespace LD
open PySem PySem.Spec PyProof.Rows L2
/-- list + list: one that may change -/
def addM : O2 := fun x y M => match lsOf M x, lsOf M y with
  | some a, some b => if a.length + b.length ≤ LINE then some (.ref M.length, M ++ [.lst (a ++ b)]) else none
  | _, _ => none
theorem o_addM {X : Cx} {T : Tab} {rs : List (Addr × HO)} : OpR X (binaryOp .Add) (RO2 (kx X T) rs addM) := OpR.imp op_catS fun x y H Q h => by
  obtain ⟨ι, F, M, d, e, z, M', r, h1, h2, g, q⟩ := h
  unfold addM at g
  split at g
  · rename_i xs ys e1 e2
    split at g
    · rename_i hz
      cases g
      obtain ⟨a, vs, rfl, s1, l1⟩ := lsOf_at r e1 h1
      obtain ⟨b, ws, rfl, s2, l2⟩ := lsOf_at r e2 h2
      refine ⟨a, b, vs, ws, rfl, rfl, s1, s2, by rw [l1.length, l2.length, ← line_eq]; exact hz, fun p hp => ?_⟩
      exact newL_at (mu := true) r (l1.append l2) rfl q p hp
    · cases g
  · cases g
theorem v_addM {x y : D} {a b : List D} {M : Mem} (h1 : lsOf M x = some a) (h2 : lsOf M y = some b) (h : a.length + b.length ≤ LINE) : addM x y M = some (.ref M.length, M ++ [.lst (a ++ b)]) := by
  unfold addM
  rw [h1, h2]
  exact if_pos h
end LD
namespace LD
open PySem PySem.Spec PyProof.Rows L2
def dispK (o : Option DO) (i : Nat) (ks : List Key) (ds : List D) (M : Mem) : R D := match o with
  | some (.dic []) => .ok (.ref i) (M.set i (.dic (ks.zip ds)))
  | _ => .bad
theorem dispK_s {i : Nat} {ks : List Key} {ds : List D} {M : Mem} : dispK (some (.dic [])) i ks ds M = .ok (.ref i) (M.set i (.dic (ks.zip ds))) := rfl
theorem q_DispK {ks : List Key} {α : Sem1 (List D)} {s : DS} {M : Mem} : eDisp ks α s M = bnd (α s (M ++ [.dic []])) (fun ds M1 => dispK M1[M.length]? M.length ks ds M1) .mk := rfl
theorem q_Ins {a : Sem1 D} {α : Sem1 (List D)} {s : DS} {M : Mem} : eBm isLst insG a α s M = bnd (a s M) (fun x M1 => okS (isLst M1 x) (bnd (α s M1) (fun ds M2 => ofO (insG x ds M2)) .mk) .mk) .mk := rfl
theorem v_ins {i : Nat} {k : Int} {d : D} {xs : List D} {M : Mem} (h : M[i]? = some (.lst xs)) (hl : xs.length < LINE) (h0 : 0 ≤ k) (h1 : k < 2 ^ 62) : insG (.ref i) [.int k, d] M = some (.non, M.set i (.lst (xs.take k.toNat ++ [d] ++ xs.drop k.toNat))) := by
  unfold insG
  simp only [h]
  rw [if_pos ⟨hl, h0, h1⟩]
end LD
namespace LD
open PySem PySem.Spec PyProof.Rows L2 SrtO

/-! ### sorted: tuples of ints and bools -/
def lexL : List Int → List Int → Bool
  | [], [] => false
  | [], _ :: _ => true
  | _ :: _, [] => false
  | x :: xs, y :: ys => if x = y then lexL xs ys else decide (x < y)
theorem lexL_asym : ∀ x y : List Int, lexL x y = true → lexL y x = false
  | [], [], h => nomatch h
  | [], _ :: _, _ => rfl
  | _ :: _, [], h => nomatch h
  | x :: xs, y :: ys, h => by
    rw [lexL] at h ⊢
    by_cases e : x = y
    · rw [if_pos e] at h
      rw [if_pos e.symm]
      exact lexL_asym xs ys h
    · rw [if_neg e, decide_eq_true_eq] at h
      rw [if_neg (fun z => e z.symm)]
      exact decide_eq_false (by omega)
theorem lexL_tr : ∀ x y z : List Int, lexL y x = false → lexL z y = false → lexL z x = false
  | [], [], [], _, _ => rfl
  | [], [], _ :: _, _, h => h
  | [], _ :: _, [], h, h2 => by cases h2
  | [], _ :: _, _ :: _, h, h2 => rfl
  | _ :: _, [], [], h, _ => h
  | _ :: _, [], _ :: _, h, _ => by cases h
  | _ :: _, _ :: _, [], _, h => by cases h
  | x :: xs, y :: ys, z :: zs, h1, h2 => by
    rw [lexL] at h1 h2 ⊢
    by_cases e1 : y = x
    · rw [if_pos e1] at h1
      by_cases e2 : z = y
      · rw [if_pos e2] at h2
        rw [if_pos (e2.trans e1)]
        exact lexL_tr xs ys zs h1 h2
      · rw [if_neg e2, decide_eq_false_iff_not] at h2
        rw [if_neg (fun w => e2 (w.trans e1.symm))]
        exact decide_eq_false (by omega)
    · rw [if_neg e1, decide_eq_false_iff_not] at h1
      by_cases e2 : z = y
      · rw [if_neg (fun w => e1 (e2.symm.trans w))]
        exact decide_eq_false (by omega)
      · rw [if_neg e2, decide_eq_false_iff_not] at h2
        rw [if_neg (by omega)]
        exact decide_eq_false (by omega)
theorem swo_key {α : Type} (k : α → List Int) : Swo fun a b => lexL (k a) (k b) := ⟨fun x y h => lexL_asym _ _ h, fun x y z h1 h2 => lexL_tr _ _ _ h1 h2⟩
/-- a sort that keeps equal ones in their order -/
def insT {α : Type} (lt : α → α → Bool) (x : α) : List α → List α
  | [] => [x]
  | y :: r => if lt y x then y :: insT lt x r else x :: y :: r
def isort {α : Type} (lt : α → α → Bool) : List α → List α
  | [] => []
  | x :: r => insT lt x (isort lt r)
section
variable {α β : Type} {lt : α → α → Bool}
theorem insT_perm (x : α) : ∀ l : List α, (insT lt x l).Perm (x :: l)
  | [] => List.Perm.refl _
  | y :: r => by
    unfold insT
    split
    · exact ((insT_perm x r).cons y).trans (List.Perm.swap x y r)
    · exact List.Perm.refl _
theorem isort_perm : ∀ l : List α, (isort lt l).Perm l
  | [] => List.Perm.refl _
  | x :: r => (insT_perm x _).trans ((isort_perm r).cons x)
theorem insT_srtd (O : Swo lt) (x : α) : ∀ l : List α, Srtd lt l → Srtd lt (insT lt x l)
  | [], _ => srtd_one x
  | y :: r, h => by
    have hh := List.pairwise_cons.mp h
    unfold insT
    split
    · rename_i hy
      refine List.pairwise_cons.mpr ⟨fun z hz => ?_, insT_srtd O x r hh.2⟩
      rcases List.mem_cons.mp ((insT_perm x r).mem_iff.mp hz) with rfl | hz
      · exact O.asym _ _ hy
      · exact hh.1 z hz
    · rename_i hy
      have hy' : lt y x = false := by cases e : lt y x with | true => exact absurd e hy | false => rfl
      refine List.pairwise_cons.mpr ⟨fun z hz => ?_, h⟩
      rcases List.mem_cons.mp hz with rfl | hz
      · exact hy'
      · exact O.tr _ _ _ hy' (hh.1 z hz)
theorem isort_srtd (O : Swo lt) : ∀ l : List α, Srtd lt (isort lt l)
  | [] => List.Pairwise.nil
  | x :: r => insT_srtd O x _ (isort_srtd O r)
theorem insT_stb (O : Swo lt) (x : α) : ∀ l : List α, Stb lt (insT lt x l) (x :: l)
  | [] => Stb.refl _
  | y :: r => by
    unfold insT
    split
    · rename_i hy
      have h1 : Stb lt ([y] ++ insT lt x r) ([y] ++ (x :: r)) := (Stb.refl _).app (insT_stb O x r)
      have h2 : Stb lt (([y] ++ [x]) ++ r) (([x] ++ [y]) ++ r) := (Stb.swap O (fun a ha b hb => by rw [List.mem_singleton.mp ha, List.mem_singleton.mp hb]; exact hy)).app (Stb.refl _)
      exact h1.trans h2
    · exact Stb.refl _
theorem isort_stb (O : Swo lt) : ∀ l : List α, Stb lt (isort lt l) l
  | [] => Stb.refl _
  | x :: r => (insT_stb O x _).trans ((Stb.refl [x]).app (isort_stb O r))
theorem insT_map (f : β → α) (x : β) : ∀ l : List β, insT lt (f x) (l.map f) = (insT (fun a b => lt (f a) (f b)) x l).map f
  | [] => rfl
  | y :: r => by
    rw [List.map_cons]
    unfold insT
    split
    · rw [List.map_cons, insT_map f x r]
    · rfl
theorem isort_map (f : β → α) : ∀ l : List β, isort lt (l.map f) = (isort (fun a b => lt (f a) (f b)) l).map f
  | [] => rfl
  | x :: r => by
    show insT lt (f x) (isort lt (r.map f)) = (insT _ x (isort _ r)).map f
    rw [isort_map f r, insT_map]
end
/-- ints and bools -/
def scD : D → Option (Bool × Int)
  | .int i => some (false, i)
  | .bl b => some (true, if b then 1 else 0)
  | _ => none
def tupS (d : D) : Option (List (Bool × Int)) := match d with
  | .tup (.int i :: r) => mapO scD (.int i :: r)
  | _ => none
def keyT (d : D) : List Int := ((tupS d).getD []).map (·.2)
def ltD (a b : D) : Bool := lexL (keyT a) (keyT b)
def sortC : OL := fun ds M => match ds with
  | [x] => match lsOf M x with
    | some xs => match mapO tupS xs with
      | some ks => if ks.all (fun k => decide (k.map (·.1) = ((ks.head?).getD []).map (·.1))) then some (.lst (isort ltD xs), M) else none
      | none => none
    | none => none
  | _ => none
/-- at the level of Python's values -/
def scV (u : Value) (p : Bool × Int) : Prop := (∃ t, u = .int p.2 t ∧ p.1 = false) ∨ (∃ b : Bool, u = .bool b ∧ p = (true, if b then 1 else 0))
def TupV (h : Heap) (u : Value) (k : List (Bool × Int)) : Prop := ∃ a o items n i t r kr, u = .ref a ∧ h.get? a = some o ∧ o.cls = .type "tuple" ∧ o.data = .seq items n ∧ items.toList = .int i t :: r ∧ k = (false, i) :: kr ∧ Paired scV r kr
section
variable {prog : Program} {w : World} {A : Around} {s : Shared}
theorem kat_sc {Q : Bool → Shared → Prop} : ∀ (r r' : List Value) (k k' : List (Bool × Int)) (i : Nat), Paired scV r k → Paired scV r' k' → k.map (·.1) = k'.map (·.1) → Q (lexL (k.map (·.2)) (k'.map (·.2))) s → PySem.W.KatLex prog w A true false Q (r.zip r') (i + 1) s
  | [], _, _, k', i, .nil, h2, hs, q => by
    have e : k' = [] := by simpa using hs.symm
    subst e
    cases h2
    exact PySem.W.kat_nil q
  | u :: r, _, _, _, i, .cons (b := p) (l₂ := k) h1 h1r, h2, hs, q => by
    cases h2 with
    | nil => simp at hs
    | @cons u' p' r' k' h2 h2r =>
      rw [List.map_cons, List.map_cons, List.cons.injEq] at hs
      rw [List.map_cons, List.map_cons, lexL] at q
      obtain ⟨b, x⟩ := p
      obtain ⟨b', x'⟩ := p'
      have hb : b = b' := hs.1
      subst hb
      dsimp only at q
      rw [List.zip_cons_cons]
      have hi : (true && (i + 1 == 0)) = false := rfl
      have go : ∀ (e : Bool), e = decide (x = x') → (x ≠ x' → wpAny (model prog w) A (oneLt' (true && (i + 1 == 0)) u u') Q (fun _ _ => False) s) → PySem.W.KatGo prog w A true false Q u u' (r.zip r') (i + 1) e s := fun e he hlt => by
        refine PySem.W.kat_go (fun e1 => ?_) (fun e1 => ?_)
        · subst he
          have ex := of_decide_eq_true e1
          rw [if_pos ex] at q
          exact PySem.W.kat_yes (kat_sc r r' k k' (i + 1) h1r h2r hs.2 q)
        · subst he
          exact PySem.W.kat_no (hlt (of_decide_eq_false e1))
      rcases h1 with ⟨t, rfl, hf⟩ | ⟨c, rfl, hf⟩
      · rcases h2 with ⟨t', rfl, _⟩ | ⟨c', rfl, hf'⟩
        · refine PySem.W.kat_cons (SeqAt.EqAt.int_int x t x' t' prog w _ _ (go _ (by by_cases e : x = x' <;> simp [e]) fun hx => ?_))
          rw [if_neg hx] at q
          rw [hi]
          exact PySem.W.kat_one _ _ (PyProof.Rows.lt_int q)
        · injection hf' with e1 _
          dsimp only at hf
          rw [hf] at e1
          cases e1
      · rcases h2 with ⟨t', rfl, hf'⟩ | ⟨c', rfl, hf'⟩
        · injection hf with e1 _
          dsimp only at hf'
          rw [hf'] at e1
          cases e1
        · injection hf with _ e1
          injection hf' with _ e2
          refine PySem.W.kat_cons (SeqAt.EqAt.bool_bool c c' prog w _ _ (go _ (by rw [e1, e2]; cases c <;> cases c' <;> rfl) fun hx => ?_))
          rw [if_neg hx, e1, e2] at q
          rw [hi]
          exact PySem.W.kat_one _ _ (PyProof.Rows.lt_bool q)
theorem tups_cmp {vs : List Value} {K : Value → List (Bool × Int)} {sh : List Bool} (hp : ∀ v ∈ vs, TupV s.heap v (K v)) (hs : ∀ v ∈ vs, (K v).map (·.1) = sh) : Cmp prog w A s (tuples' true) (fun p => p.1 ∈ vs) (lt2 fun v u => lexL ((K v).map (·.2)) ((K u).map (·.2))) := by
  intro p q hm hm'
  have hsh := (hs _ hm).trans (hs _ hm').symm
  obtain ⟨a, o, items, n, i, t, r, kr, e, ho, hc, hd, hi, hk, hpr⟩ := hp _ hm
  obtain ⟨a', o', items', n', i', t', r', kr', e', ho', hc', hd', hi', hk', hpr'⟩ := hp _ hm'
  show wpAny (model prog w) A (keyLt' (tuples' true) p.1 q.1) (fun rr s' => s' = s ∧ rr = lexL ((K p.1).map (·.2)) ((K q.1).map (·.2))) (fun _ _ => False) s
  rw [hk, hk'] at hsh ⊢
  rw [List.map_cons, List.map_cons, List.cons.injEq] at hsh
  have hlen : items.size = items'.size := by
    have h1 := congrArg List.length hi
    have h2 := congrArg List.length hi'
    have h3 := congrArg List.length hsh.2
    have l1 : r.length = kr.length := by
      clear hsh hi hk h1 h3
      induction hpr with
      | nil => rfl
      | cons _ _ ih => rw [List.length_cons, List.length_cons, ih]
    have l2 : r'.length = kr'.length := by
      clear hsh hi' hk' h2 h3 l1
      induction hpr' with
      | nil => rfl
      | cons _ _ ih => rw [List.length_cons, List.length_cons, ih]
    rw [Array.length_toList, List.length_cons] at h1 h2
    rw [List.length_map, List.length_map] at h3
    omega
  rw [e, e']
  refine PySem.W.kat_lt ho hd ho' hd' ?_
  rw [hi, hi', show decide (items.size < items'.size) = false by rw [hlen]; exact decide_eq_false (Nat.lt_irrefl _), List.zip_cons_cons]
  refine PySem.W.kat_cons (SeqAt.EqAt.int_int i t i' t' prog w _ _ ?_)
  refine PySem.W.kat_go (fun e1 => ?_) (fun e1 => ?_)
  · have ei : i = i' := by simpa using e1
    refine PySem.W.kat_yes (kat_sc r r' kr kr' 0 hpr hpr' hsh.2 ⟨rfl, ?_⟩)
    rw [List.map_cons, List.map_cons, lexL, if_pos ei]
  · have ei : ¬ i = i' := by simpa using e1
    refine PySem.W.kat_no (oneLt_int ⟨rfl, ?_⟩)
    rw [List.map_cons, List.map_cons, lexL, if_neg ei]
theorem TupV.keeps {h h' : Heap} {u : Value} {k : List (Bool × Int)} (x : TupV h u k) (kk : ∀ b o, h.get? b = some o → o.cls = .type "tuple" → h'.get? b = some o) : TupV h' u k := by
  obtain ⟨a, o, items, n, i, t, r, kr, e, ho, hc, hd, hi, hk, hpr⟩ := x
  exact ⟨a, o, items, n, i, t, r, kr, e, kk _ _ ho hc, hc, hd, hi, hk, hpr⟩
theorem tups_firsts {h : Heap} {K : Value → List (Bool × Int)} : ∀ {vs : List Value}, (∀ v ∈ vs, TupV h v (K v)) → ∃ fs : List Value, PySem.W.KatTups h vs fs ∧ fs.length = vs.length ∧ ∀ f ∈ fs, ∃ x t, f = Value.int x t
  | [], _ => ⟨[], PySem.W.KatTups.nil, rfl, fun _ hm => by simp at hm⟩
  | v :: vs, hp => by
    obtain ⟨fs, h1, h2, h3⟩ := tups_firsts (vs := vs) fun v' hm => hp v' (List.mem_cons_of_mem _ hm)
    obtain ⟨a, o, items, n, i, t, r, kr, e, ho, hc, hd, hi, hk, hpr⟩ := hp v (List.mem_cons_self ..)
    subst e
    refine ⟨.int i t :: fs, PySem.W.KatTups.cons ho hc hd (by rw [← Array.getElem?_toList, hi] <;> rfl) h1, by rw [List.length_cons, List.length_cons, h2], fun f hm => ?_⟩
    rcases List.mem_cons.mp hm with rfl | hm
    · exact ⟨i, t, rfl⟩
    · exact h3 f hm
theorem tups_sortable {a : Addr} {vs : List Value} {K : Value → List (Bool × Int)} {sh : List Bool} (h0 : 0 < vs.length) (hp : ∀ v ∈ vs, TupV s.heap v (K v)) (hs : ∀ v ∈ vs, (K v).map (·.1) = sh) (ha : ∀ o, s.heap.get? a = some o → o.cls ≠ .type "tuple") :
    SortableO prog w A s a vs fun v u => lexL ((K v).map (·.2)) ((K u).map (·.2)) := by
  intro h' keep
  have hp' : ∀ v ∈ vs, TupV h' v (K v) := fun v hm => (hp v hm).keeps fun b o e c => keep b o (fun z => by subst z; exact ha o e c) e
  obtain ⟨fs, h1, h2, h3⟩ := tups_firsts hp'
  refine ⟨tuples' true, fun Q E hq => ?_, tups_cmp hp' hs⟩
  refine PySem.W.kat_kind (T := .type "int") h1 (by omega) (fun f hm => ?_) (by rfl) ?_
  · obtain ⟨x, t, rfl⟩ := h3 f hm
    exact PySem.W.Looks.now
  · have e : (Value.type "int" != Value.type "tuple") = true := by first | decide +kernel | rfl | decide
    rw [e]
    exact hq
end
end LD
namespace LD
open PySem PySem.Spec PyProof.Rows L2 SrtO
theorem insT_congr {α : Type} {f g : α → α → Bool} {x : α} : ∀ {l : List α}, (∀ y ∈ l, f y x = g y x) → insT f x l = insT g x l
  | [], _ => rfl
  | y :: r, h => by
    unfold insT
    rw [h y List.mem_cons_self, insT_congr fun z hz => h z (List.mem_cons_of_mem _ hz)]
theorem isort_congr {α : Type} {f g : α → α → Bool} : ∀ {l : List α}, (∀ x ∈ l, ∀ y ∈ l, f x y = g x y) → isort f l = isort g l
  | [], _ => rfl
  | x :: r, h => by
    show insT f x (isort f r) = insT g x (isort g r)
    rw [isort_congr fun a ha b hb => h a (List.mem_cons_of_mem _ ha) b (List.mem_cons_of_mem _ hb)]
    exact insT_congr fun y hy => h y (List.mem_cons_of_mem _ ((isort_perm r).mem_iff.mp hy)) x List.mem_cons_self
def scK : Value → Bool × Int
  | .int i _ => (false, i)
  | .bool b => (true, if b then 1 else 0)
  | _ => (false, 0)
def kvH (h : Heap) (u : Value) : List (Bool × Int) := match u with
  | .ref a => match h.get? a with
    | some o => match o.data with
      | .seq its _ => its.toList.map scK
      | _ => []
    | none => []
  | _ => []
theorem sc_map : ∀ {r : List Value} {k : List (Bool × Int)}, Paired scV r k → r.map scK = k
  | _, _, .nil => rfl
  | _, _, .cons h t => by
    rw [List.map_cons, sc_map t]
    congr 1
    rcases h with ⟨t, rfl, hf⟩ | ⟨b, rfl, hf⟩
    · exact Prod.ext hf.symm rfl
    · exact hf.symm
theorem TupV.key {h : Heap} {u : Value} {k : List (Bool × Int)} (x : TupV h u k) : kvH h u = k := by
  obtain ⟨a, o, items, n, i, t, r, kr, rfl, ho, hc, hd, hi, hk, hpr⟩ := x
  simp only [kvH, ho, hd, hi, hk, List.map_cons, scK, sc_map hpr]
section
variable {X : Cx} {T : Tab} {ι : List Addr} {F H : Hp} {M : Mem} {rs : List (Addr × HO)} {pins : List (Addr × Obj)} {σ : L2.St} {s : Shared}
theorem zipP {K : KX} : ∀ {ds : List D} {vs : List V} {us : List Value}, RepL K ι F ds vs → Vals vs us → ∃ P : List (D × V × Value), P.map (·.1) = ds ∧ P.map (·.2.1) = vs ∧ P.map (·.2.2) = us ∧ ∀ p ∈ P, Rep K ι F p.1 p.2.1 ∧ RelV p.2.1 p.2.2
  | [], vs, us, h, r => by
    have e : vs = [] := h
    subst e
    cases r
    exact ⟨[], rfl, rfl, rfl, fun _ h => nomatch h⟩
  | d :: ds, vs, us, h, r => by
    obtain ⟨v, vr, rfl, h1, h2⟩ := h
    cases r with
    | cons r1 r2 =>
      obtain ⟨P, e1, e2, e3, hP⟩ := zipP h2 r2
      refine ⟨(d, v, _) :: P, by rw [List.map_cons, e1], by rw [List.map_cons, e2], by rw [List.map_cons, e3], fun p hp => ?_⟩
      rcases List.mem_cons.mp hp with rfl | hp
      · exact ⟨h1, r1⟩
      · exact hP p hp
theorem sc_rep {K : KX} : ∀ {ds : List D} {vs : List V} {us : List Value} {k : List (Bool × Int)}, mapO scD ds = some k → RepL K ι F ds vs → Vals vs us → Paired scV us k
  | [], vs, us, k, e, h, r => by
    cases e
    have e : vs = [] := h
    subst e
    cases r
    exact .nil
  | d :: ds, vs, us, k, e, h, r => by
    obtain ⟨b, e1, e2⟩ := Option.bind_eq_some_iff.mp e
    obtain ⟨bs, e3, rfl⟩ := Option.map_eq_some_iff.mp e2
    obtain ⟨v, vr, rfl, h1, h2⟩ := h
    cases r with
    | cons r1 r2 =>
      refine .cons ?_ (sc_rep e3 h2 r2)
      cases d with
      | int i =>
        cases e1
        cases h1
        obtain ⟨t, rfl⟩ := r1
        exact .inl ⟨t, rfl, rfl⟩
      | bl c =>
        cases e1
        cases h1
        cases r1
        exact .inr ⟨c, rfl, rfl⟩
      | _ => cases e1
theorem tup_rep (I : Inv X pins σ H s) (r : Rel (kx X T) ι F rs H M) {d : D} {v : V} {u : Value} {k : List (Bool × Int)} (e : tupS d = some k) (rd : Rep (kx X T) ι F d v) (rv : RelV v u) : TupV s.heap u k := by
  unfold tupS at e
  split at e
  · rename_i i xs
    obtain ⟨a, ws, rfl, s1, l1⟩ := rd
    obtain rfl : u = Value.ref a := rv
    obtain ⟨its, rvs, ⟨o, ho, hc, m, hd⟩, _⟩ := I.tuple (sqt_sub r s1)
    have hp := sc_rep e l1 rvs
    obtain ⟨b, e1, e2⟩ := Option.bind_eq_some_iff.mp e
    obtain ⟨bs, e3, rfl⟩ := Option.map_eq_some_iff.mp e2
    cases e1
    cases hp with
    | cons h1 h2 =>
      rcases h1 with ⟨t, rfl, _⟩ | ⟨c, _, hf⟩
      · exact ⟨a, o, _, m, i, t, _, bs, rfl, ho, hc, hd, by simp, rfl, h2⟩
      · cases hf
  · cases e
theorem mapO_mem {α β : Type} {f : α → Option β} : ∀ {xs : List α} {ys : List β} {x : α}, mapO f xs = some ys → x ∈ xs → ∃ y ∈ ys, f x = some y
  | [], _, _, _, h => nomatch h
  | a :: r, ys, x, e, h => by
    obtain ⟨b, e1, e2⟩ := Option.bind_eq_some_iff.mp e
    obtain ⟨bs, e3, rfl⟩ := Option.map_eq_some_iff.mp e2
    rcases List.mem_cons.mp h with rfl | h
    · exact ⟨b, List.mem_cons_self, e1⟩
    · obtain ⟨y, hy, e4⟩ := mapO_mem e3 h
      exact ⟨y, List.mem_cons_of_mem _ hy, e4⟩
theorem vals_P : ∀ {P : List (D × V × Value)}, (∀ p ∈ P, RelV p.2.1 p.2.2) → Vals (P.map (·.2.1)) (P.map (·.2.2))
  | [], _ => .nil
  | p :: P, h => .cons (h p List.mem_cons_self) (vals_P fun q hq => h q (List.mem_cons_of_mem _ hq))
theorem rep_P {K : KX} : ∀ {P : List (D × V × Value)}, (∀ p ∈ P, Rep K ι F p.1 p.2.1) → RepL K ι F (P.map (·.1)) (P.map (·.2.1))
  | [], _ => rfl
  | p :: P, h => ⟨p.2.1, _, rfl, h p List.mem_cons_self, rep_P fun q hq => h q (List.mem_cons_of_mem _ hq)⟩
theorem c_sorted : CallR X (.builtin "sorted") (RC (kx X T) rs sortC) := by
  intro pins s σ H vs us Q I rv h
  obtain ⟨ι, F, M, ds, z, M', r, rd, e, q⟩ := h
  unfold sortC at e
  split at e
  · rename_i x
    split at e
    · rename_i xs hxs
      split at e
      · rename_i ks hks
        split at e
        · rename_i hsh
          cases e
          obtain ⟨v, rfl, h1⟩ := one_of rd
          obtain ⟨u, rfl, ru⟩ := vals1 rv
          obtain ⟨a, ws, rfl, s1, l1⟩ := lsOf_at r hxs h1
          obtain rfl : u = Value.ref a := ru
          obtain ⟨its, rvs, hl, hz⟩ := I.list s1
          obtain ⟨P, p1, p2, p3, hP⟩ := zipP l1 rvs
          have hT : ∀ p ∈ P, ∃ k, k ∈ ks ∧ tupS p.1 = some k ∧ TupV s.heap p.2.2 k := fun p hp => by
            obtain ⟨k, hk, e⟩ := mapO_mem hks (by rw [← p1]; exact List.mem_map.mpr ⟨p, hp, rfl⟩)
            exact ⟨k, hk, e, tup_rep I r e (hP p hp).1 (hP p hp).2⟩
          have hV : ∀ v ∈ its, TupV s.heap v (kvH s.heap v) ∧ (kvH s.heap v).map (·.1) = ((ks.head?).getD []).map (·.1) := fun v hv => by
            rw [← p3] at hv
            obtain ⟨p, hp, rfl⟩ := List.mem_map.mp hv
            obtain ⟨k, hk, _, ht⟩ := hT p hp
            rw [ht.key]
            exact ⟨ht, of_decide_eq_true (List.all_eq_true.mp hsh k hk)⟩
          have O := swo_key (fun v : Value => (kvH s.heap v).map (·.2))
          refine sorted_ord O hl.isList (by rw [← rvs.length]; exact hz) (fun h2 h₁ a ha kk => ?_) fun out hs hb => ?_
          · refine tups_sortable (s := { s with heap := h₁ }) (by omega) (fun v hm => (hV v hm).1.keeps fun b o e _ => (kk b o e).2) (fun v hm => (hV v hm).2) fun o e => ?_
            have e' : some o = some (seqObj "list" its.toArray 0) := e.symm.trans ha
            cases e'
            intro c
            exact absurd (Value.type.inj c) (by decide)
          · have eout : out = (isort (fun p q : D × V × Value => lexL ((kvH s.heap p.2.2).map (·.2)) ((kvH s.heap q.2.2).map (·.2))) P).map (·.2.2) := by
              have O2 : Swo (fun p q : D × V × Value => lexL ((kvH s.heap p.2.2).map (·.2)) ((kvH s.heap q.2.2).map (·.2))) := swo_key (fun p : D × V × Value => (kvH s.heap p.2.2).map (·.2))
              refine stb_uniq O hs (List.pairwise_map.mpr (isort_srtd O2 P)) ?_
              have h3 := Stb.map O (fun p : D × V × Value => p.2.2) (isort_stb O2 P)
              rw [p3] at h3
              exact hb.trans ⟨h3.perm.symm, fun x => (h3.cls x).symm⟩
            have hsame : isort ltD xs = (isort (fun p q : D × V × Value => lexL ((kvH s.heap p.2.2).map (·.2)) ((kvH s.heap q.2.2).map (·.2))) P).map (·.1) := by
              rw [← p1, isort_map]
              congr 1
              refine isort_congr fun p hp q hq => ?_
              obtain ⟨k, _, e1, t1⟩ := hT p hp
              obtain ⟨k', _, e2, t2⟩ := hT q hq
              rw [t1.key, t2.key]
              unfold ltD keyT
              rw [e1, e2] <;> rfl
            generalize hP' : isort (fun p q : D × V × Value => lexL ((kvH s.heap p.2.2).map (·.2)) ((kvH s.heap q.2.2).map (·.2))) P = P' at eout hsame
            have hm : ∀ p ∈ P', p ∈ P := fun p hp => by rw [← hP'] at hp; exact (isort_perm P).mem_iff.mp hp
            have kp := fun b o (e : s.heap.get? b = some o) => sortedAll_old (vs := its) (out := out.toArray) e
            obtain ⟨n, hn⟩ := sortedAll_at s.heap its out.toArray
            subst eout
            have hlen : (P'.map (·.2.1)).length ≤ sizeLine := by
              have : P'.length = P.length := by rw [← hP']; exact (isort_perm P).length_eq
              have h4 := congrArg List.length p2
              rw [List.length_map] at h4 ⊢
              omega
            have hnone := I.hok.fresh (Nat.le_succ s.heap.objs.size)
            refine ⟨.ref _, _, I.laid (t' := s.toks) (o := .lst (P'.map (·.2.1))) kp (Nat.le_succ _) ⟨hlen, _, n, vals_P fun p hp => (hP p (hm p hp)).2, hn⟩, rfl, ?_⟩
            rw [hsame] at q
            exact q ι (upd F _ (.lst (P'.map (·.2.1)))) _ _ (Le.new (r.free hnone)) (r.frozen hnone) ⟨_, _, rfl, .inl (.inl upd_same), RepL.le (Le.new (r.free hnone)) (rep_P fun p hp => (hP p (hm p hp)).1)⟩
        · cases e
      · cases e
    · cases e
  · cases e
end
end LD
namespace LD
open PySem PySem.Spec PyProof.Rows L2

/-! ### one keyword-only parameter with a default, the last one, not written at the call -/
/-- the def at f as the text has it; its keyword-only defaults stand in the dict at D -/
def FnAtD (K : PySem.W.Frag) (x qual : Str) (st : Stmt) (f D : Addr) : Prop := ∃ (oc : Value) (od : Option Addr) (doc pm : Value) (an : Option Addr) (cdv ct : Value) (osl : Array (Option Value)),
  K.lookup f = some ⟨oc, od, .func (PySem.W.fnOf x qual (defArgs st) (defBody st) (defScope st) .none (.ref D) doc pm an cdv ct), osl⟩ ∧ PySem.W.codeIn K cdv qual = true ∧ PySem.W.keepIn K (.ref f) = true
theorem fnAtD_mk {K : PySem.W.Frag} {x qual : Str} {st : Stmt} {f D : Addr} {oc : Value} {od : Option Addr} {doc pm : Value} {an : Option Addr} {cdv ct : Value} {osl : Array (Option Value)}
    (l : K.lookup f = some ⟨oc, od, .func (PySem.W.fnOf x qual (defArgs st) (defBody st) (defScope st) .none (.ref D) doc pm an cdv ct), osl⟩) (c : PySem.W.codeIn K cdv qual = true) (k : PySem.W.keepIn K (.ref f) = true) : FnAtD K x qual st f D := ⟨_, _, _, _, _, _, _, _, l, c, k⟩
def withD (φ : FnD) (d : D) : FnD := fun ds M => φ (ds ++ [d]) M
theorem callee_kw1 {P : Program} {w : World} {K : PySem.W.Frag} {mg : Str → Option Value} {base : Heap} {T : Tab} {f D : Addr} {fd : FuncData} {ps ks : List Str} {k n : Nat} {φ : FnD} {nm : Str} {d : LD.D} {v : V} {u : Value} (F : FnX P w K mg base T k f fd ps φ)
    (hn : PySem.W.nsIn K D nm = some (some u)) (rv : RelV v u) (hr : ∀ ι F, Rep ⟨K, T⟩ ι F d v)
    (hb : ∀ (us ws : List Value), us.length = n → ws.length = ks.length → KwChain D [(nm, u)] (bindArgs fd ⟨us, ks.zip ws⟩) (ps.zip (us ++ ws ++ [u]))) : Callee P w K mg base T k f n ks (withD φ d) := ⟨fun rs A outer s H us ws vs zs Q E hr0 e0 h1 h2 r1 r2 h => by
  have KX : K.In s.heap := e0.mod.kin.keeps fun b o e => (e0.bs b o e).1
  refine F.run rs A outer s H _ (us ++ ws ++ [u]) (vs ++ zs ++ [v]) Q E hr0 e0 (BindsTo.of_looks fun M => KwChain.looks KX (fun q hq => ?_) (hb us ws h1 h2)) ((r1.append r2).append (.cons rv .nil)) ?_
  · rw [List.mem_singleton.mp hq]
    exact hn
  · obtain ⟨ι, F', ds, M, r, rd, p⟩ := h
    exact ⟨ι, F', ds ++ [d], M, r, rd.append (.one (hr ι F')), p⟩⟩
end LD
namespace LD
open PySem PySem.Spec PyProof.Rows L2

/-! ### what sorted gives, by a key -/
def byK {α : Type} (k : α → List Int) (l : List α) : List α := isort (fun a b => lexL (k a) (k b)) l
theorem byK_perm {α : Type} {k : α → List Int} {l : List α} : (byK k l).Perm l := isort_perm l
theorem byK_srtd {α : Type} {k : α → List Int} {l : List α} : (byK k l).Pairwise fun a b => lexL (k b) (k a) = false := isort_srtd (swo_key k) l
theorem keyT_of {d : D} {ks : List (Bool × Int)} (h : tupS d = some ks) : keyT d = ks.map (·.2) := by
  unfold keyT
  rw [h] <;> rfl
theorem v_sort {α : Type} {e : α → D} {f : α → List (Bool × Int)} {sh : List Bool} {as : List α} {x : D} {M : Mem} (hl : lsOf M x = some (as.map e)) (h : ∀ a ∈ as, tupS (e a) = some (f a)) (hs : ∀ a ∈ as, (f a).map (·.1) = sh) :
    sortC [x] M = some (.lst ((byK (fun a => (f a).map (·.2)) as).map e), M) := by
  have e1 : mapO tupS (as.map e) = some (as.map f) := by
    clear hl hs
    induction as with
    | nil => rfl
    | cons a as ih =>
      show ((tupS (e a)).bind fun b => (mapO tupS (as.map e)).map fun bs => b :: bs) = _
      rw [h a List.mem_cons_self, ih fun b hb => h b (List.mem_cons_of_mem _ hb)] <;> rfl
  have e2 : (as.map f).all (fun k => decide (k.map (·.1) = (((as.map f).head?).getD []).map (·.1))) = true := List.all_eq_true.mpr fun k hk => by
    obtain ⟨a, ha, rfl⟩ := List.mem_map.mp hk
    refine decide_eq_true ?_
    cases as with
    | nil => nomatch ha
    | cons b as =>
      show _ = (f b).map (·.1)
      rw [hs a ha, hs b List.mem_cons_self]
  have e3 : isort ltD (as.map e) = (byK (fun a => (f a).map (·.2)) as).map e := by
    rw [isort_map]
    unfold byK
    congr 1
    exact isort_congr fun a ha b hb => by
      unfold ltD
      rw [keyT_of (h a ha), keyT_of (h b hb)]
  show (match lsOf M x with | some xs => _ | none => none) = _
  rw [hl]
  show (match mapO tupS (as.map e) with | some ks => _ | none => none) = _
  rw [e1]
  show (if _ then some (D.lst (isort ltD (as.map e)), M) else none) = _
  rw [if_pos e2, e3]
theorem rng' (n : Nat) : rangeL 0 n 1 = (List.range' 0 n).map fun i : Nat => D.int (i : Int) := by
  rw [rangeL_map, List.range_eq_range', List.map_map] <;> rfl
end LD
namespace LD
open PySem PySem.Spec PyProof.Rows L2

/-! ### == of lists, tuples and dicts that hold one another -/
def allO (f : D → D → Option Bool) : List D → List D → Option Bool
  | x :: xs, y :: ys => (f x y).bind fun a => (allO f xs ys).map fun b => a && b
  | [], [] => some true
  | _, _ => none
def tupO : D → Option (List D)
  | .tup xs => some xs
  | _ => none
def eqG : Nat → Mem → D → D → Option Bool
  | 0, _, _, _ => none
  | n + 1, M, x, y => if isF x && isF y then some (eqF x y) else
    match tupO x, tupO y with
    | some xs, some ys => allO (eqG n M) xs ys
    | _, _ => match lsOf M x, lsOf M y with
      | some xs, some ys => if xs.length = ys.length then allO (eqG n M) xs ys else some false
      | _, _ => match dcOf M x, dcOf M y with
        | some ks, some ls => if ks.length = 0 ∧ ls.length = 0 then some true else none
        | _, _ => none
section
variable {X : Cx} {T : Tab} {ι : List Addr} {F H : Hp} {M : Mem} {rs : List (Addr × HO)} {pins : List (Addr × Obj)} {σ : L2.St} {s : Shared}
theorem tup_at (r : Rel (kx X T) ι F rs H M) {d : D} {v : V} {xs : List D} (e : tupO d = some xs) (h : Rep (kx X T) ι F d v) : ∃ a vs, v = .ref a ∧ SqT X.K H a vs ∧ RepL (kx X T) ι F xs vs := by
  cases d <;> try cases e
  obtain ⟨a, vs, e1, h1, h2⟩ := h
  exact ⟨a, vs, e1, sqt_sub r h1, h2⟩
theorem rd_inj {a : Addr} {u w : List (Key × V)} (h : Rd H a (.dK u)) (h' : Rd H a (.dK w)) : u = w := by
  rcases h with h | ⟨o, h⟩ <;> rcases h' with h' | ⟨o', h'⟩ <;> rw [h] at h' <;> cases h' <;> rfl
theorem eqF_self {d e : D} {v : V} (hd : isF d = true) (he : isF e = true) (h : Rep (kx X T) ι F d v) (h' : Rep (kx X T) ι F e v) : eqF d e = true := by
  cases d <;> first
    | (cases hd; done)
    | (cases e <;> first
      | (cases he; done)
      | (cases h; cases h'; simp [eqF]; done)
      | (cases h; cases h'; rfl)
      | (cases h; cases h'; done)
      | (cases h; cases h'))
theorem allO_same {f : D → D → Option Bool} (hf : ∀ x y v b, f x y = some b → Rep (kx X T) ι F x v → Rep (kx X T) ι F y v → b = true) : ∀ {xs ys : List D} {vs : List V} {k : Bool}, allO f xs ys = some k → RepL (kx X T) ι F xs vs → RepL (kx X T) ι F ys vs → k = true
  | [], [], _, _, e, _, _ => by cases e; rfl
  | [], _ :: _, _, _, e, _, _ => by cases e
  | _ :: _, [], _, _, e, _, _ => by cases e
  | x :: xs, y :: ys, vs, k, e, h, h' => by
    obtain ⟨v, r, rfl, h1, h2⟩ := h
    obtain ⟨v', r', e1, h1', h2'⟩ := h'
    cases e1
    obtain ⟨a, ea, e⟩ := Option.bind_eq_some_iff.mp e
    obtain ⟨b, eb, e⟩ := Option.map_eq_some_iff.mp e
    rw [← e, hf _ _ _ _ ea h1 h1', allO_same hf eb h2 h2'] <;> rfl
theorem eqG_same (I : Inv X pins σ H s) (r : Rel (kx X T) ι F rs H M) : ∀ (n : Nat) (x y : D) (v : V) (k : Bool), eqG n M x y = some k → Rep (kx X T) ι F x v → Rep (kx X T) ι F y v → k = true
  | 0, _, _, _, _, e, _, _ => by cases e
  | n + 1, x, y, v, k, e, h, h' => by
    have ih := eqG_same I r n
    unfold eqG at e
    split at e
    · rename_i hf
      rw [Bool.and_eq_true] at hf
      cases e
      exact eqF_self hf.1 hf.2 h h'
    · split at e
      · rename_i xs ys e1 e2
        obtain ⟨a, vs, rfl, s1, l1⟩ := tup_at r e1 h
        obtain ⟨a', vs', e3, s2, l2⟩ := tup_at r e2 h'
        cases e3
        have := I.tuple_inj s1 s2
        subst this
        exact allO_same ih e l1 l2
      · split at e
        · rename_i xs ys e1 e2
          obtain ⟨a, vs, rfl, s1, l1⟩ := lsOf_at r e1 h
          obtain ⟨a', vs', e3, s2, l2⟩ := lsOf_at r e2 h'
          cases e3
          have := I.list_inj s1 s2
          subst this
          have hl : xs.length = ys.length := by rw [← RepL.length l1, RepL.length l2]
          rw [if_pos hl] at e
          exact allO_same ih e l1 l2
        · split at e
          · split at e
            · cases e; rfl
            · cases e
          · cases e
def pyA : D → PyData
  | .bl b => .bool b
  | .int i => .int i
  | .str x => .str x
  | _ => .none
theorem flat_val {d : D} {v : V} {u : Value} (hf : isF d = true) (h : Rep (kx X T) ι F d v) (rv : RelV v u) : PyProof.V.Flat u (pyA d) := by
  cases d <;> first
    | (cases hf; done)
    | (cases h; obtain ⟨t, rfl⟩ := rv; exact PyProof.V.Flat.int _ t)
    | (cases h; obtain ⟨t, rfl⟩ := rv; exact PyProof.V.Flat.str _ t)
    | (cases h; cases rv; exact PyProof.V.Flat.bool _)
    | (cases h; cases rv; exact PyProof.V.Flat.none)
theorem eqv_flat {d e : D} (hd : isF d = true) (he : isF e = true) : PyData.eqv (pyA d) (pyA e) = eqF d e := by
  cases d <;> first
    | (cases hd; done)
    | (cases e <;> first
      | (cases he; done)
      | rfl)
theorem allO_at {f : D → D → Option Bool} {P : Value → Value → Bool → Prop} (hf : ∀ x y v w u u' b, f x y = some b → Rep (kx X T) ι F x v → Rep (kx X T) ι F y w → RelV v u → RelV w u' → P u u' b) :
    ∀ {xs ys : List D} {vs ws : List V} {us us' : List Value} {k : Bool}, allO f xs ys = some k → RepL (kx X T) ι F xs vs → RepL (kx X T) ι F ys ws → Vals vs us → Vals ws us' →
    us.length = us'.length ∧ ∃ es : List Bool, es.length = us.length ∧ es.all id = k ∧ ∀ j (h1 : j < us.length) (h2 : j < us'.length), P us[j] us'[j] (es.getD j true)
  | [], [], _, _, us, us', _, e, h, h', r, r' => by
    cases e
    have h : _ = [] := h
    have h' : _ = [] := h'
    subst h; subst h'
    cases r; cases r'
    exact ⟨rfl, [], rfl, rfl, fun j h1 => absurd h1 (Nat.not_lt_zero _)⟩
  | [], _ :: _, _, _, _, _, _, e, _, _, _, _ => by cases e
  | _ :: _, [], _, _, _, _, _, e, _, _, _, _ => by cases e
  | x :: xs, y :: ys, vs, ws, us, us', k, e, h, h', r, r' => by
    obtain ⟨v, vr, rfl, h1, h2⟩ := h
    obtain ⟨w, wr, rfl, h3, h4⟩ := h'
    cases r with
    | cons ra rb =>
      cases r' with
      | cons rc rd =>
        obtain ⟨a, ea, e⟩ := Option.bind_eq_some_iff.mp e
        obtain ⟨b, eb, e⟩ := Option.map_eq_some_iff.mp e
        obtain ⟨hl, es, q1, q2, q3⟩ := allO_at hf eb h2 h4 rb rd
        refine ⟨by rw [List.length_cons, List.length_cons, hl], a :: es, by rw [List.length_cons, List.length_cons, q1], by rw [List.all_cons, q2]; exact e, fun j h1' h2' => ?_⟩
        cases j with
        | zero => exact hf _ _ _ _ _ _ _ ea h1 h3 ra rc
        | succ j => exact q3 j (Nat.lt_of_succ_lt_succ h1') (Nat.lt_of_succ_lt_succ h2')
theorem all_getD (es : List Bool) : ((List.range es.length).all fun j => es.getD j true) = es.all id := by
  rw [Bool.eq_iff_iff, List.all_eq_true, List.all_eq_true]
  constructor
  · intro h b hb
    obtain ⟨i, hi, rfl⟩ := List.mem_iff_getElem.mp hb
    have := h i (List.mem_range.mpr hi)
    rw [List.getD_eq_getElem?_getD, List.getElem?_eq_getElem hi] at this
    exact this
  · intro h i hi
    have hi := List.mem_range.mp hi
    rw [List.getD_eq_getElem?_getD, List.getElem?_eq_getElem hi]
    exact h _ (List.getElem_mem hi)
theorem dictOf_nil {P P' : Program} {w w' : World} {h : Heap} {a : Addr} (d : h.DictOf (mixKind P w) a []) : h.DictOf (mixKind P' w') a [] := by
  obtain ⟨o, es, ep, h1, h2, h3, h4, h5, h6⟩ := d
  have e : es.toList = [] := by
    generalize es.toList = l at h5
    cases h5
    rfl
  have e2 : es = #[] := by simpa using congrArg List.toArray e
  subst e2
  exact ⟨o, #[], ep, h1, h2, h3, fun x hx => absurd hx (by simp), .nil, List.Pairwise.nil⟩
theorem eqG_at (I : Inv X pins σ H s) (r : Rel (kx X T) ι F rs H M) : ∀ (n : Nat) (A : Around), A.units + n < cLine → ∀ (x y : D) (v w : V) (u u' : Value) (k : Bool), eqG n M x y = some k → Rep (kx X T) ι F x v → Rep (kx X T) ι F y w → RelV v u → RelV w u' → SeqAt.EqAt A s u u' k
  | 0, _, _, _, _, _, _, _, _, _, e, _, _, _, _ => by cases e
  | n + 1, A, hu, x, y, v, w, u, u', k, e0, h, h', rv, rw' => by
    have hin : A.in1.units + n < cLine := by
      have : A.in1.units ≤ A.units + 1 := by simp [Around.in1]
      omega
    have ih := eqG_at I r n A.in1 hin
    have e := e0
    unfold eqG at e
    split at e
    · rename_i hf
      rw [Bool.and_eq_true] at hf
      cases e
      rw [← eqv_flat hf.1 hf.2]
      exact PySem.W.keq_flat (flat_val hf.1 h rv) (flat_val hf.2 h' rw')
    · have same : ∀ {a : Addr}, v = .ref a → w = .ref a → SeqAt.EqAt A s u u' k := fun {a} e1 e2 => by
        subst e1; subst e2
        cases rv; cases rw'
        rw [eqG_same I r (n + 1) x y (.ref a) k e0 h h']
        exact SeqAt.EqAt.same _
      split at e
      · rename_i xs ys e1 e2
        obtain ⟨a, vs, rfl, s1, l1⟩ := tup_at r e1 h
        obtain ⟨b, ws, rfl, s2, l2⟩ := tup_at r e2 h'
        by_cases hab : a = b
        · exact same rfl (by rw [hab])
        · cases rv; cases rw'
          obtain ⟨us, r1, ⟨o1, p1⟩, _⟩ := I.tuple s1
          obtain ⟨us', r2, ⟨o2, p2⟩, _⟩ := I.tuple s2
          obtain ⟨hl, es, q1, q2, q3⟩ := allO_at (P := fun u u' b => SeqAt.EqAt A.in1 s u u' b) ih e l1 l2 r1 r2
          have z := SeqAt.RcAt.tuples (A := A) (s := s) (l := a) (b := b) (items := us.toArray) (items2 := us'.toArray) (e := fun j => es.getD j true) ⟨o1, p1⟩ ⟨o2, p2⟩ (by omega) (fun j h1 h2 => q3 j (by simpa using h1) (by simpa using h2))
          have e3 : ((List.range (min us.toArray.size us'.toArray.size)).all (fun j => es.getD j true) && us.toArray.size == us'.toArray.size) = k := by
            rw [List.size_toArray, List.size_toArray, ← hl, Nat.min_self, ← q1, all_getD, q2, beq_self_eq_true, Bool.and_true]
          rw [e3] at z
          exact SeqAt.EqAt.of_refs hab z
      · split at e
        · rename_i xs ys e1 e2
          obtain ⟨a, vs, rfl, s1, l1⟩ := lsOf_at r e1 h
          obtain ⟨b, ws, rfl, s2, l2⟩ := lsOf_at r e2 h'
          by_cases hab : a = b
          · exact same rfl (by rw [hab])
          · cases rv; cases rw'
            obtain ⟨us, r1, p1, _⟩ := I.list s1
            obtain ⟨us', r2, p2, _⟩ := I.list s2
            split at e
            · obtain ⟨hl, es, q1, q2, q3⟩ := allO_at (P := fun u u' b => SeqAt.EqAt A.in1 s u u' b) ih e l1 l2 r1 r2
              have z := SeqAt.RcAt.lists (A := A) (s := s) (e := fun j => es.getD j true) p1.isList p2.isList (by simpa using hl) (by omega) (fun j h1 h2 => q3 j (by simpa using h1) (by simpa using h2))
              have e3 : (List.range us.toArray.size).all (fun j => es.getD j true) = k := by
                rw [List.size_toArray, ← q1, all_getD, q2]
              rw [e3] at z
              exact SeqAt.EqAt.of_refs hab z
            · rename_i hl
              cases e
              have d1 := RepL.length l1
              have d2 := RepL.length l2
              have d3 := r1.length
              have d4 := r2.length
              have z := SeqAt.RcAt.lists_lengths (A := A) (s := s) p1.isList p2.isList (by rw [List.size_toArray, List.size_toArray, bne_iff_ne]; omega) (by omega)
              exact SeqAt.EqAt.of_refs hab z
        · split at e
          · rename_i ks ls e1 e2
            obtain ⟨a, vs, rfl, s1, m1, m2⟩ := dcOf_at r e1 h
            obtain ⟨b, ws, rfl, s2, m3, m4⟩ := dcOf_at r e2 h'
            by_cases hab : a = b
            · exact same rfl (by rw [hab])
            · cases rv; cases rw'
              obtain ⟨_, ya, va, ra, da⟩ := dk_rd I.hok s1
              obtain ⟨_, yb, vb, rb, db⟩ := dk_rd I.hok s2
              split at e
              · rename_i hz
                cases e
                have d1 := congrArg List.length m1
                have d2 := congrArg List.length m3
                rw [List.length_map, List.length_map] at d1 d2
                have z1 : va = [] := List.length_eq_zero_iff.mp (by rw [← ra.length]; omega)
                have z2 : vb = [] := List.length_eq_zero_iff.mp (by rw [← rb.length]; omega)
                subst z1; subst z2
                have go : SeqAt.RcAt A s (.ref a) (.ref b) true := fun prog' w' E Q hq => PySem.W.keq_eq (knd := mixKind prog' w') (r := true) ya yb (dictOf_nil da) (dictOf_nil db) (by omega) (fun _ => .nil) hq
                exact SeqAt.EqAt.of_refs hab go
              · cases e
          · cases e
theorem eqG_top (I : Inv X pins σ H s) (r : Rel (kx X T) ι F rs H M) (n : Nat) (A : Around) (hu : A.units + (n + 1) < cLine) (x y : D) (v w : V) (u u' : Value) (k : Bool) (e : eqG (n + 1) M x y = some k) (hx : ((tupO x).isSome || (lsOf M x).isSome) = true) (h : Rep (kx X T) ι F x v) (h' : Rep (kx X T) ι F y w) (rv : RelV v u) (rw' : RelV w u') :
    SeqAt.RcAt A s u u' k ∧ SeqAt.RcNeAt A s u u' (!k) := by
  have hin : A.in1.units + n < cLine := by
    have : A.in1.units ≤ A.units + 1 := by simp [Around.in1]
    omega
  have ih := eqG_at I r n A.in1 hin
  unfold eqG at e
  split at e
  · rename_i hf
    rw [Bool.and_eq_true] at hf
    exfalso
    have h1 := hf.1
    cases x <;> first | (cases h1; done) | (cases hx; done)
  · split at e
    · rename_i xs ys e1 e2
      obtain ⟨a, vs, rfl, s1, l1⟩ := tup_at r e1 h
      obtain ⟨b, ws, rfl, s2, l2⟩ := tup_at r e2 h'
      cases rv; cases rw'
      obtain ⟨us, r1, ⟨o1, p1⟩, _⟩ := I.tuple s1
      obtain ⟨us', r2, ⟨o2, p2⟩, _⟩ := I.tuple s2
      obtain ⟨hl, es, q1, q2, q3⟩ := allO_at (P := fun u u' b => SeqAt.EqAt A.in1 s u u' b) ih e l1 l2 r1 r2
      have z := SeqAt.RcAt.tuples (A := A) (s := s) (l := a) (b := b) (items := us.toArray) (items2 := us'.toArray) (e := fun j => es.getD j true) ⟨o1, p1⟩ ⟨o2, p2⟩ (by omega) (fun j h1 h2 => q3 j (by simpa using h1) (by simpa using h2))
      have z' := SeqAt.RcNeAt.tuples (A := A) (s := s) (l := a) (b := b) (items := us.toArray) (items2 := us'.toArray) (e := fun j => es.getD j true) ⟨o1, p1⟩ ⟨o2, p2⟩ (by omega) (fun j h1 h2 => q3 j (by simpa using h1) (by simpa using h2))
      have e3 : ((List.range (min us.toArray.size us'.toArray.size)).all (fun j => es.getD j true) && us.toArray.size == us'.toArray.size) = k := by
        rw [List.size_toArray, List.size_toArray, ← hl, Nat.min_self, ← q1, all_getD, q2, beq_self_eq_true, Bool.and_true]
      rw [e3] at z z'
      exact ⟨z, z'⟩
    · split at e
      · rename_i xs ys e1 e2
        obtain ⟨a, vs, rfl, s1, l1⟩ := lsOf_at r e1 h
        obtain ⟨b, ws, rfl, s2, l2⟩ := lsOf_at r e2 h'
        cases rv; cases rw'
        obtain ⟨us, r1, p1, _⟩ := I.list s1
        obtain ⟨us', r2, p2, _⟩ := I.list s2
        split at e
        · obtain ⟨hl, es, q1, q2, q3⟩ := allO_at (P := fun u u' b => SeqAt.EqAt A.in1 s u u' b) ih e l1 l2 r1 r2
          have z := SeqAt.RcAt.lists (A := A) (s := s) (e := fun j => es.getD j true) p1.isList p2.isList (by simpa using hl) (by omega) (fun j h1 h2 => q3 j (by simpa using h1) (by simpa using h2))
          have z' := SeqAt.RcNeAt.lists (A := A) (s := s) (e := fun j => es.getD j true) p1.isList p2.isList (by simpa using hl) (by omega) (fun j h1 h2 => q3 j (by simpa using h1) (by simpa using h2))
          have e3 : (List.range us.toArray.size).all (fun j => es.getD j true) = k := by
            rw [List.size_toArray, ← q1, all_getD, q2]
          rw [e3] at z z'
          exact ⟨z, z'⟩
        · rename_i hl
          cases e
          have d1 := RepL.length l1
          have d2 := RepL.length l2
          have d3 := r1.length
          have d4 := r2.length
          exact ⟨SeqAt.RcAt.lists_lengths (A := A) (s := s) p1.isList p2.isList (by rw [List.size_toArray, List.size_toArray, bne_iff_ne]; omega) (by omega), SeqAt.RcNeAt.lists_lengths (A := A) (s := s) p1.isList p2.isList (by rw [List.size_toArray, List.size_toArray, bne_iff_ne]; omega) (by omega)⟩
      · rename_i hn1 hn2
        exfalso
        split at e
        · rename_i ks ls e1 e2
          have key : ∀ z : D, dcOf M z = some ks → ((tupO z).isSome || (lsOf M z).isSome) = true → False := fun z e1 hx => by
            cases z with
            | ref i =>
              simp only [dcOf] at e1
              split at e1
              · rename_i hM
                have q : lsOf M (.ref i) = none := by simp only [lsOf, hM]
                rw [q] at hx
                cases hx
              · cases e1
            | tup xs => cases e1
            | lst xs => cases e1
            | _ => cases hx
          exact key x e1 hx
        · cases e
/-- == and != of lists and tuples, with what they hold -/
def eqQ (M : Mem) (x y : D) : Option Bool := if (tupO x).isSome || (lsOf M x).isSome then eqG 12 M x y else eqD M x y
theorem o_eqQ (hu : X.A.units + 64 < cLine) : OpR X (compareOp .Eq) (RO2 (kx X T) rs (boD eqQ)) := fun pins s σ H x y v u Q I rx ry h => by
  obtain ⟨ι, F, M, d, e, z, M', r, h1, h2, g, q⟩ := h
  unfold boD at g
  obtain ⟨k, g1, g2⟩ := Option.map_eq_some_iff.mp g
  cases g2
  unfold eqQ at g1
  split at g1
  · rename_i hs
    exact (eqG_top I r 11 X.A (by omega) d e x y v u k g1 hs h1 h2 rx ry).1 X.prog X.w _ _ ⟨.bl k, H, I, rfl, q ι F H _ Le.refl r rfl⟩
  · exact o_eq hu pins s σ H x y v u Q I rx ry ⟨ι, F, M, d, e, .bl k, M, r, h1, h2, by unfold boD; rw [g1] <;> rfl, q⟩
theorem o_neQ (hu : X.A.units + 64 < cLine) : OpR X (compareOp .NotEq) (RO2 (kx X T) rs (boD (notB eqQ))) := fun pins s σ H x y v u Q I rx ry h => by
  obtain ⟨ι, F, M, d, e, z, M', r, h1, h2, g, q⟩ := h
  unfold boD at g
  obtain ⟨k, g1, g2⟩ := Option.map_eq_some_iff.mp g
  cases g2
  obtain ⟨k', g3, g4⟩ := Option.map_eq_some_iff.mp g1
  unfold eqQ at g3
  split at g3
  · rename_i hs
    have z := (eqG_top I r 11 X.A (by omega) d e x y v u k' g3 hs h1 h2 rx ry).2
    rw [g4] at z
    exact z X.prog X.w _ _ ⟨.bl k, H, I, rfl, q ι F H _ Le.refl r rfl⟩
  · exact o_ne hu pins s σ H x y v u Q I rx ry ⟨ι, F, M, d, e, .bl k, M, r, h1, h2, by unfold boD notB; rw [g3]; show some (D.bl (!k'), M) = _; rw [g4], q⟩
end
/-! ### rows for evaluation -/
theorem v_lenO {tb : List (Nat × FnD)} {xs : List D} {M : Mem} : lenO tb [.lst xs] M = some (.int xs.length, M) := rfl
theorem v_eqQi {p q : Int} {M : Mem} : boD eqQ (.int p) (.int q) M = some (.bl (p == q), M) := rfl
theorem v_neQi {p q : Int} {M : Mem} : boD (notB eqQ) (.int p) (.int q) M = some (.bl (!(p == q)), M) := rfl
end LD
namespace K65
open PySem PySem.Spec PyProof.Rows L2 LD

def top (i : Nat) : Stmt := PySem.Challenge.pw_viewloom_k65_choosing.main.body.getD i (.Pass ⟨0, 0, 0, 0⟩)
abbrev st_Controls___len__ : Stmt := (inClass (top 12) 1)
abbrev st_Controls___contains__ : Stmt := (inClass (top 12) 2)
abbrev st_text_of_attribute : Stmt := (top 3)
abbrev st_option_value : Stmt := (top 8)
abbrev st_elements_of : Stmt := (top 7)
abbrev st_free_options : Stmt := (top 9)
abbrev st_bound_value : Stmt := (top 10)
abbrev st_Controls_choose_first : Stmt := (inClass (top 12) 4)
abbrev st_first_value : Stmt := (top 11)
abbrev st_kind_of_control : Stmt := (top 6)
abbrev st_Controls_settle : Stmt := (inClass (top 12) 3)
abbrev st_settle : Stmt := (top 17)
abbrev st_Controls_shown : Stmt := (inClass (top 12) 5)
abbrev st_can_prevent : Stmt := (top 21)
abbrev st_Rehearsal_send_event : Stmt := (inClass (top 23) 1)
abbrev st_way_to : Stmt := (top 2)
abbrev st_is_disabled : Stmt := (top 4)
abbrev st_send : Stmt := (top 16)
abbrev st_Controls_show : Stmt := (inClass (top 12) 6)
abbrev st_element_at : Stmt := (top 14)
abbrev st_is_control : Stmt := (top 15)
abbrev st_set_text : Stmt := (top 18)
abbrev st_choose : Stmt := (top 19)
abbrev st__law_attribute : Stmt := (top 30)
abbrev st__law_kind : Stmt := (top 31)
abbrev st__law_shut : Stmt := (top 32)
abbrev st__law_all : Stmt := (top 29)
abbrev st__law_free : Stmt := (top 35)
abbrev st__law_bound : Stmt := (top 33)
abbrev st__law_told : Stmt := (top 34)
abbrev st_Controls___init__ : Stmt := (inClass (top 12) 0)
abbrev st_Rehearsal___init__ : Stmt := (inClass (top 23) 0)
abbrev st__law_attributes : Stmt := (top 26)
abbrev st__law_nodes : Stmt := (top 27)
abbrev st__law_document : Stmt := (top 28)
abbrev st__law_rows : Stmt := (top 25)
abbrev st_law : Stmt := (top 36)
abbrev N_Controls___len__ : List Str := ["self"]
abbrev N_Controls___contains__ : List Str := ["self", "number"]
abbrev N_text_of_attribute : List Str := ["node", "name", "pair"]
abbrev N_option_value : List Str := ["node", "value"]
abbrev N_elements_of : List Str := ["nodes", "disabled", "rows", "node", "shut"]
abbrev N_free_options : List Str := ["node", "disabled", "rows", "row", "shut"]
abbrev N_bound_value : List Str := ["node", "kind", "checked"]
abbrev N_Controls_choose_first : List Str := ["self", "node", "shut", "values"]
abbrev N_first_value : List Str := ["node", "kind", "default"]
abbrev N_kind_of_control : List Str := ["node"]
abbrev N_Controls_settle : List Str := ["self", "document", "before", "node", "shut", "kind", "value"]
abbrev N_settle : List Str := ["root"]
abbrev N_Controls_shown : List Str := ["self", "number"]
abbrev N_can_prevent : List Str := ["event"]
abbrev N_Rehearsal_send_event : List Str := ["self", "number", "event", "details"]
abbrev N_way_to : List Str := ["nodes", "number", "node", "way"]
abbrev N_is_disabled : List Str := ["document", "number", "way", "node"]
abbrev N_send : List Str := ["root", "number", "event", "details"]
abbrev N_Controls_show : List Str := ["self", "number", "value"]
abbrev N_element_at : List Str := ["root", "number", "way"]
abbrev N_is_control : List Str := ["root", "number", "kind", "node"]
abbrev N_set_text : List Str := ["root", "number", "kind", "text"]
abbrev N_choose : List Str := ["root", "number", "value", "node"]
abbrev N__law_attribute : List Str := ["_law_node", "_law_name", "_law_pair"]
abbrev N__law_kind : List Str := ["_law_node"]
abbrev N__law_shut : List Str := ["_law_node", "_law_around", "_law_one"]
abbrev N__law_all : List Str := ["_law_nodes_here", "_law_around", "_law_found", "_law_node"]
abbrev N__law_free : List Str := ["_law_node", "_law_values", "_law_one", "_law_outer", "_law_value"]
abbrev N__law_bound : List Str := ["_law_node"]
abbrev N__law_told : List Str := ["_law_root", "_law_pairs", "_law_pair"]
abbrev N_Controls___init__ : List Str := ["self"]
abbrev N_Rehearsal___init__ : List Str := ["self", "document", "prevented"]
abbrev N__law_attributes : List Str := ["_law_row", "_law_names", "_law_texts", "_law_pairs", "_law_j"]
abbrev N__law_nodes : List Str := ["_law_rows_here", "_law_world", "_law_depth", "_law_nodes_here", "_law_turn", "_law_row", "_law_number", "_law_tag", "_law_kids"]
abbrev N__law_document : List Str := ["_law_rows_here", "_law_seed", "_law_many", "_law_ids", "_law_k"]
abbrev N__law_rows : List Str := ["_law_script", "_law_count", "_law_rows_here", "_law_k", "_law_cell"]
abbrev N_law : List Str := ["_law_script", "_law_rows_here", "_law_document_here", "_law_root", "_law_pairs", "_law_k", "_law_node", "_law_around", "_law_value", "_law_before", "_law_count", "_law_due", "_law_after", "_law_shown", "_law_pair", "_law_number", "_law_told_here"]
abbrev P_Controls___len__ : List Str := ["self"]
abbrev P_Controls___contains__ : List Str := ["self", "number"]
abbrev P_text_of_attribute : List Str := ["node", "name"]
abbrev P_option_value : List Str := ["node"]
abbrev P_elements_of : List Str := ["nodes", "disabled"]
abbrev P_free_options : List Str := ["node", "disabled"]
abbrev P_bound_value : List Str := ["node", "kind"]
abbrev P_Controls_choose_first : List Str := ["self", "node", "shut"]
abbrev P_first_value : List Str := ["node", "kind"]
abbrev P_kind_of_control : List Str := ["node"]
abbrev P_Controls_settle : List Str := ["self", "document"]
abbrev P_settle : List Str := ["root"]
abbrev P_Controls_shown : List Str := ["self", "number"]
abbrev P_can_prevent : List Str := ["event"]
abbrev P_Rehearsal_send_event : List Str := ["self", "number", "event", "details"]
abbrev P_way_to : List Str := ["nodes", "number"]
abbrev P_is_disabled : List Str := ["document", "number"]
abbrev P_send : List Str := ["root", "number", "event", "details"]
abbrev P_Controls_show : List Str := ["self", "number", "value"]
abbrev P_element_at : List Str := ["root", "number"]
abbrev P_is_control : List Str := ["root", "number", "kind"]
abbrev P_set_text : List Str := ["root", "number", "kind", "text"]
abbrev P_choose : List Str := ["root", "number", "value"]
abbrev P__law_attribute : List Str := ["_law_node", "_law_name"]
abbrev P__law_kind : List Str := ["_law_node"]
abbrev P__law_shut : List Str := ["_law_node", "_law_around"]
abbrev P__law_all : List Str := ["_law_nodes_here", "_law_around"]
abbrev P__law_free : List Str := ["_law_node"]
abbrev P__law_bound : List Str := ["_law_node"]
abbrev P__law_told : List Str := ["_law_root", "_law_pairs"]
abbrev P_Controls___init__ : List Str := ["self"]
abbrev P_Rehearsal___init__ : List Str := ["self", "document", "prevented"]
abbrev P__law_attributes : List Str := ["_law_row"]
abbrev P__law_nodes : List Str := ["_law_rows_here", "_law_world", "_law_depth"]
abbrev P__law_document : List Str := ["_law_rows_here", "_law_seed", "_law_many"]
abbrev P__law_rows : List Str := ["_law_script", "_law_count"]
abbrev P_law : List Str := ["_law_script"]
/-! ### what each def is worth -/
def ψ_Controls___len__ : SSem := (sSeq (sRet (eBlt lenC (aCons (eAttr [] ((0, 0) :: []) (eVar 0)) aNil))) sNext)
def φ_Controls___len__ : FnD := defD 1 1 ψ_Controls___len__
def ψ_Controls___contains__ : SSem := (sSeq (sRet (eBin (boD inD) (eVar 1) (eAttr [] ((0, 0) :: []) (eVar 0)))) sNext)
def φ_Controls___contains__ : FnD := defD 2 2 ψ_Controls___contains__
def β_text_of_attribute_1 : SSem := (sSeq (sIf (tCmp (boD eqD) (eBin ixD (eVar 2) (eC (.int 0))) (eVar 1)) (sSeq (sRet (eBin ixD (eVar 2) (eC (.int 1)))) sNext) sNext) sNext)
def ψ_text_of_attribute : SSem := (sSeq (sFor (iOf (eBin ixD (eVar 0) (eC (.int 3)))) (gNm 2) β_text_of_attribute_1) (sSeq (sRet (eC .non)) sNext))
def φ_text_of_attribute : FnD := defD 3 2 ψ_text_of_attribute
def ψ_option_value : SSem := (sSeq (sAsg (gNm 1) (eCall φ_text_of_attribute (aCons (eVar 0) (aCons (eC (.str "value")) aNil)) aNil)) (sSeq (sRet (eIf (tCmp (boD isB) (eVar 1) (eC .non)) (eC (.str "")) (eVar 1))) sNext))
def φ_option_value : FnD := defD 2 1 ψ_option_value
def β_elements_of_2 (φr : FnD) : SSem := (sSeq (sIf (tCmp (boD eqD) (eBin ixD (eVar 3) (eC (.int 0))) (eC (.str "element"))) (sSeq (sAsg (gNm 4) (eOr (eVar 1) (eBin (boD (notB isB)) (eCall φ_text_of_attribute (aCons (eVar 3) (aCons (eC (.str "disabled")) aNil)) aNil) (eC .non)))) (sSeq (sExpr (eBm isLst appG (eVar 2) (aCons (eTup (aCons (eVar 3) (aCons (eVar 4) aNil))) aNil))) (sSeq (sAsg (gNm 2) (eBin addM (eVar 2) (eCall φr (aCons (eBin ixD (eVar 3) (eC (.int 4))) (aCons (eVar 4) aNil)) aNil))) sNext))) sNext) sNext)
def ψ_elements_of (φr : FnD) : SSem := (sSeq (sAsg (gNm 2) (eLst true aNil)) (sSeq (sFor (iOf (eVar 0)) (gNm 3) (β_elements_of_2 φr)) (sSeq (sRet (eVar 2)) sNext)))
def φ_elements_of : Nat → FnD
  | 0 => fun _ _ => .bad
  | m + 1 => defD 5 2 (ψ_elements_of (φ_elements_of m))
def ψ_free_options : SSem := (sSeq (sAsg (gNm 2) (eCall (φ_elements_of 30) (aCons (eBin ixD (eVar 0) (eC (.int 4))) (aCons (eVar 1) aNil)) aNil)) (sSeq (sRet (eComp false (iOf (eVar 2)) (gTp [3, 4]) (tAnd (tCmp (boD eqD) (eBin ixD (eVar 3) (eC (.int 2))) (eC (.str "option"))) (tNot (tOf (eVar 4)))) (eCall φ_option_value (aCons (eVar 3) aNil) aNil) [3, 4])) sNext))
def φ_free_options : FnD := defD 5 2 ψ_free_options
def ψ_bound_value : SSem := (sSeq (sIf (tCmp (boD eqD) (eVar 1) (eC (.str "box"))) (sSeq (sAsg (gNm 2) (eCall φ_text_of_attribute (aCons (eVar 0) (aCons (eC (.str "checked")) aNil)) aNil)) (sSeq (sRet (eIf (tCmp (boD isB) (eVar 2) (eC .non)) (eC .non) (eBin (boD eqD) (eVar 2) (eC (.str "true"))))) sNext)) sNext) (sSeq (sRet (eCall φ_text_of_attribute (aCons (eVar 0) (aCons (eC (.str "value")) aNil)) aNil)) sNext))
def φ_bound_value : FnD := defD 3 2 ψ_bound_value
def ψ_Controls_choose_first : SSem := (sSeq (sAsg (gNm 3) (eCall φ_free_options (aCons (eVar 1) (aCons (eVar 2) aNil)) aNil)) (sSeq (sIf (tCmp (inO ((0, φ_Controls___contains__) :: []) true) (eBin ixD (eBin ixD (eAttr [] ((0, 0) :: []) (eVar 0)) (eBin ixD (eVar 1) (eC (.int 1)))) (eC (.int 1))) (eVar 3)) (sSeq (sSub (eAttr [] ((0, 0) :: []) (eVar 0)) (eBin ixD (eVar 1) (eC (.int 1))) (eTup (aCons (eC (.str "select")) (aCons (eIf (tCmp (boD gtB) (eBlt (lenO ((0, φ_Controls___len__) :: [])) (aCons (eVar 3) aNil)) (eC (.int 0))) (eBin ixD (eVar 3) (eC (.int 0))) (eC (.str ""))) aNil)))) sNext) sNext) sNext))
def φ_Controls_choose_first : FnD := defD 4 3 ψ_Controls_choose_first
def ψ_first_value : SSem := (sSeq (sAsg (gNm 2) (eCall φ_text_of_attribute (aCons (eVar 0) (aCons (eC (.str "default")) aNil)) aNil)) (sSeq (sIf (tCmp (boD eqD) (eVar 1) (eC (.str "box"))) (sSeq (sRet (eBin (boD eqD) (eVar 2) (eC (.str "true")))) sNext) sNext) (sSeq (sRet (eIf (tCmp (boD isB) (eVar 2) (eC .non)) (eC (.str "")) (eVar 2))) sNext)))
def φ_first_value : FnD := defD 3 2 ψ_first_value
def ψ_kind_of_control : SSem := (sSeq (sIf (tOr (tCmp (boD (notB eqD)) (eBin ixD (eVar 0) (eC (.int 0))) (eC (.str "element"))) (tCmp (inO ((0, φ_Controls___contains__) :: []) true) (eBin ixD (eVar 0) (eC (.int 2))) (eTup (aCons (eC (.str "input")) (aCons (eC (.str "area")) (aCons (eC (.str "select")) aNil)))))) (sSeq (sRet (eC .non)) sNext) sNext) (sSeq (sIf (tCmp (boD eqD) (eBin ixD (eVar 0) (eC (.int 2))) (eC (.str "select"))) (sSeq (sRet (eC (.str "select"))) sNext) sNext) (sSeq (sIf (tAnd (tCmp (boD eqD) (eBin ixD (eVar 0) (eC (.int 2))) (eC (.str "input"))) (tCmp (boD eqD) (eCall φ_text_of_attribute (aCons (eVar 0) (aCons (eC (.str "kind")) aNil)) aNil) (eC (.str "box")))) (sSeq (sRet (eC (.str "box"))) sNext) sNext) (sSeq (sRet (eC (.str "field"))) sNext))))
def φ_kind_of_control : FnD := defD 1 1 ψ_kind_of_control
def β_Controls_settle_3 : SSem := (sSeq (sAsg (gNm 5) (eCall φ_kind_of_control (aCons (eVar 3) aNil) aNil)) (sSeq (sIf (tCmp (boD (notB isB)) (eVar 5) (eC .non)) (sSeq (sAsg (gNm 6) (eCall φ_bound_value (aCons (eVar 3) (aCons (eVar 5) aNil)) aNil)) (sSeq (sIf (tAnd (tCmp (boD isB) (eVar 6) (eC .non)) (tAnd (tCmp (inO ((0, φ_Controls___contains__) :: []) false) (eBin ixD (eVar 3) (eC (.int 1))) (eVar 2)) (tCmp (boD eqD) (eBin ixD (eBin ixD (eVar 2) (eBin ixD (eVar 3) (eC (.int 1)))) (eC (.int 0))) (eVar 5)))) (sSeq (sAsg (gNm 6) (eBin ixD (eBin ixD (eVar 2) (eBin ixD (eVar 3) (eC (.int 1)))) (eC (.int 1)))) sNext) (sSeq (sIf (tCmp (boD isB) (eVar 6) (eC .non)) (sSeq (sAsg (gNm 6) (eCall φ_first_value (aCons (eVar 3) (aCons (eVar 5) aNil)) aNil)) sNext) sNext) sNext)) (sSeq (sSub (eAttr [] ((0, 0) :: []) (eVar 0)) (eBin ixD (eVar 3) (eC (.int 1))) (eTup (aCons (eVar 5) (aCons (eVar 6) aNil)))) (sSeq (sIf (tAnd (tCmp (boD eqD) (eVar 5) (eC (.str "select"))) (tCmp (boD isB) (eCall φ_bound_value (aCons (eVar 3) (aCons (eVar 5) aNil)) aNil) (eC .non))) (sSeq (sExpr (eMeth ((0, φ_Controls_choose_first) :: []) (eVar 0) (aCons (eVar 3) (aCons (eVar 4) aNil)) aNil)) sNext) sNext) sNext)))) sNext) sNext))
def ψ_Controls_settle : SSem := (sSeq (sAsg (gNm 2) (eAttr [] ((0, 0) :: []) (eVar 0))) (sSeq (sFldD ((0, 0) :: []) (eVar 0) (eDic0 true)) (sSeq (sFor (iOf (eCall (φ_elements_of 30) (aCons (eVar 1) (aCons (eC (.bl false)) aNil)) aNil)) (gTp [3, 4]) β_Controls_settle_3) sNext)))
def φ_Controls_settle : FnD := defD 7 2 ψ_Controls_settle
def ψ_settle : SSem := (sSeq (sExpr (eMeth ((0, φ_Controls_settle) :: []) (eAttr [] ((1, 1) :: []) (eVar 0)) (aCons (eAttr [] ((1, 0) :: []) (eVar 0)) aNil) aNil)) sNext)
def φ_settle : FnD := defD 1 1 ψ_settle
def ψ_Controls_shown : SSem := (sSeq (sIf (tCmp (inO ((0, φ_Controls___contains__) :: []) false) (eVar 1) (eAttr [] ((0, 0) :: []) (eVar 0))) (sSeq (sRet (eBin ixD (eBin ixD (eAttr [] ((0, 0) :: []) (eVar 0)) (eVar 1)) (eC (.int 1)))) sNext) sNext) (sSeq (sRet (eC .non)) sNext))
def φ_Controls_shown : FnD := defD 2 2 ψ_Controls_shown
def ψ_can_prevent : SSem := (sSeq (sRet (eBin (inO ((0, φ_Controls___contains__) :: []) true) (eVar 0) (eTup (aCons (eC (.str "input")) (aCons (eC (.str "change")) aNil))))) sNext)
def φ_can_prevent : FnD := defD 1 1 ψ_can_prevent
def ψ_Rehearsal_send_event : SSem := (sSeq (sExpr (eBm isLst appG (eAttr [] ((1, 3) :: []) (eVar 0)) (aCons (eTup (aCons (eVar 1) (aCons (eVar 2) (aCons (eBlt (dictC false) (aCons (eVar 3) aNil)) aNil)))) aNil))) (sSeq (sRet (eAnd (eBin (inO ((0, φ_Controls___contains__) :: []) false) (eVar 2) (eAttr [] ((1, 2) :: []) (eVar 0))) (eCall φ_can_prevent (aCons (eVar 2) aNil) aNil))) sNext))
def φ_Rehearsal_send_event : FnD := defD 4 4 ψ_Rehearsal_send_event
def β_way_to_1 (φr : FnD) : SSem := (sSeq (sIf (tCmp (boD eqD) (eBin ixD (eVar 2) (eC (.int 1))) (eVar 1)) (sSeq (sRet (eLst false (aCons (eVar 2) aNil))) sNext) sNext) (sSeq (sIf (tCmp (boD eqD) (eBin ixD (eVar 2) (eC (.int 0))) (eC (.str "element"))) (sSeq (sAsg (gNm 3) (eCall φr (aCons (eBin ixD (eVar 2) (eC (.int 4))) (aCons (eVar 1) aNil)) aNil)) (sSeq (sIf (tCmp (boD gtB) (eBlt (lenO ((0, φ_Controls___len__) :: [])) (aCons (eVar 3) aNil)) (eC (.int 0))) (sSeq (sRet (eBin addD (eLst false (aCons (eVar 2) aNil)) (eVar 3))) sNext) sNext) sNext)) sNext) sNext))
def ψ_way_to (φr : FnD) : SSem := (sSeq (sFor (iOf (eVar 0)) (gNm 2) (β_way_to_1 φr)) (sSeq (sRet (eLst false aNil)) sNext))
def φ_way_to : Nat → FnD
  | 0 => fun _ _ => .bad
  | m + 1 => defD 4 2 (ψ_way_to (φ_way_to m))
def β_is_disabled_4 : SSem := (sSeq (sIf (tAnd (tCmp (boD eqD) (eBin ixD (eVar 3) (eC (.int 0))) (eC (.str "element"))) (tCmp (boD (notB isB)) (eCall φ_text_of_attribute (aCons (eVar 3) (aCons (eC (.str "disabled")) aNil)) aNil) (eC .non))) (sSeq (sRet (eC (.bl true))) sNext) sNext) sNext)
def ψ_is_disabled : SSem := (sSeq (sAsg (gNm 2) (eCall (φ_way_to 30) (aCons (eVar 0) (aCons (eVar 1) aNil)) aNil)) (sSeq (sIf (tCmp (boD eqD) (eBlt (lenO ((0, φ_Controls___len__) :: [])) (aCons (eVar 2) aNil)) (eC (.int 0))) (sSeq (sRet (eC (.bl true))) sNext) sNext) (sSeq (sFor (iOf (eVar 2)) (gNm 3) β_is_disabled_4) (sSeq (sRet (eC (.bl false))) sNext))))
def φ_is_disabled : FnD := defD 4 2 ψ_is_disabled
def ψ_send : SSem := (sSeq (sIf (tOf (eCall φ_is_disabled (aCons (eAttr [] ((1, 0) :: []) (eVar 0)) (aCons (eVar 1) aNil)) aNil)) (sSeq (sRet (eC (.bl false))) sNext) sNext) (sSeq (sRet (eMeth ((1, φ_Rehearsal_send_event) :: []) (eVar 0) (aCons (eVar 1) (aCons (eVar 2) (aCons (eVar 3) aNil))) aNil)) sNext))
def φ_send : FnD := defD 4 4 ψ_send
def ψ_Controls_show : SSem := (sSeq (sIf (tCmp (inO ((0, φ_Controls___contains__) :: []) false) (eVar 1) (eAttr [] ((0, 0) :: []) (eVar 0))) (sSeq (sSub (eAttr [] ((0, 0) :: []) (eVar 0)) (eVar 1) (eTup (aCons (eBin ixD (eBin ixD (eAttr [] ((0, 0) :: []) (eVar 0)) (eVar 1)) (eC (.int 0))) (aCons (eVar 2) aNil)))) sNext) sNext) sNext)
def φ_Controls_show : FnD := defD 3 3 ψ_Controls_show
def ψ_element_at : SSem := (sSeq (sAsg (gNm 2) (eCall (φ_way_to 30) (aCons (eAttr [] ((1, 0) :: []) (eVar 0)) (aCons (eVar 1) aNil)) aNil)) (sSeq (sIf (tOr (tCmp (boD eqD) (eBlt (lenO ((0, φ_Controls___len__) :: [])) (aCons (eVar 2) aNil)) (eC (.int 0))) (tOr (tCmp (boD (notB eqD)) (eBin ixD (eBin ixD (eVar 2) (eUn negD (eC (.int 1)))) (eC (.int 0))) (eC (.str "element"))) (tOf (eCall φ_is_disabled (aCons (eAttr [] ((1, 0) :: []) (eVar 0)) (aCons (eVar 1) aNil)) aNil)))) (sSeq (sRet (eC .non)) sNext) sNext) (sSeq (sRet (eBin ixD (eVar 2) (eUn negD (eC (.int 1))))) sNext)))
def φ_element_at : FnD := defD 3 2 ψ_element_at
def ψ_is_control : SSem := (sSeq (sAsg (gNm 3) (eCall φ_element_at (aCons (eVar 0) (aCons (eVar 1) aNil)) aNil)) (sSeq (sRet (eAnd (eBin (boD (notB isB)) (eVar 3) (eC .non)) (eBin (boD eqD) (eCall φ_kind_of_control (aCons (eVar 3) aNil) aNil) (eVar 2)))) sNext))
def φ_is_control : FnD := defD 4 3 ψ_is_control
def ψ_set_text : SSem := (sSeq (sIf (tNot (tOf (eCall φ_is_control (aCons (eVar 0) (aCons (eVar 1) (aCons (eVar 2) aNil))) aNil))) (sSeq sRetN sNext) sNext) (sSeq (sIf (tCmp (boD (notB eqD)) (eMeth ((0, φ_Controls_shown) :: []) (eAttr [] ((1, 1) :: []) (eVar 0)) (aCons (eVar 1) aNil) aNil) (eVar 3)) (sSeq (sExpr (eMeth ((0, φ_Controls_show) :: []) (eAttr [] ((1, 1) :: []) (eVar 0)) (aCons (eVar 1) (aCons (eVar 3) aNil)) aNil)) (sSeq (sExpr (eCall φ_send (aCons (eVar 0) (aCons (eVar 1) (aCons (eC (.str "input")) (aCons (eDic0 true) aNil)))) aNil)) (sSeq (sIf (tCmp (boD eqD) (eVar 2) (eC (.str "select"))) (sSeq (sExpr (eCall φ_send (aCons (eVar 0) (aCons (eVar 1) (aCons (eC (.str "change")) (aCons (eDic0 true) aNil)))) aNil)) sNext) sNext) sNext))) sNext) (sSeq (sExpr (eCall φ_settle (aCons (eVar 0) aNil) aNil)) sNext)))
def φ_set_text : FnD := defD 4 4 ψ_set_text
def ψ_choose : SSem := (sSeq (sAsg (gNm 3) (eCall φ_element_at (aCons (eVar 0) (aCons (eVar 1) aNil)) aNil)) (sSeq (sIf (tOr (tCmp (boD isB) (eVar 3) (eC .non)) (tCmp (boD (notB eqD)) (eCall φ_kind_of_control (aCons (eVar 3) aNil) aNil) (eC (.str "select")))) (sSeq sRetN sNext) sNext) (sSeq (sIf (tCmp (inO ((0, φ_Controls___contains__) :: []) false) (eVar 2) (eCall φ_free_options (aCons (eVar 3) (aCons (eC (.bl false)) aNil)) aNil)) (sSeq (sExpr (eCall φ_set_text (aCons (eVar 0) (aCons (eVar 1) (aCons (eC (.str "select")) (aCons (eVar 2) aNil)))) aNil)) sNext) sNext) sNext)))
def φ_choose : FnD := defD 4 3 ψ_choose
def β__law_attribute_1 : SSem := (sSeq (sIf (tCmp (boD eqD) (eBin ixD (eVar 2) (eC (.int 0))) (eVar 1)) (sSeq (sRet (eBin ixD (eVar 2) (eC (.int 1)))) sNext) sNext) sNext)
def ψ__law_attribute : SSem := (sSeq (sFor (iOf (eBin ixD (eVar 0) (eC (.int 3)))) (gNm 2) β__law_attribute_1) (sSeq (sRet (eC .non)) sNext))
def φ__law_attribute : FnD := defD 3 2 ψ__law_attribute
def ψ__law_kind : SSem := (sSeq (sIf (tOr (tCmp (boD (notB eqD)) (eBin ixD (eVar 0) (eC (.int 0))) (eC (.str "element"))) (tCmp (inO ((0, φ_Controls___contains__) :: []) true) (eBin ixD (eVar 0) (eC (.int 2))) (eLst false (aCons (eC (.str "input")) (aCons (eC (.str "area")) (aCons (eC (.str "select")) aNil)))))) (sSeq (sRet (eC .non)) sNext) sNext) (sSeq (sIf (tCmp (boD eqD) (eBin ixD (eVar 0) (eC (.int 2))) (eC (.str "select"))) (sSeq (sRet (eC (.str "select"))) sNext) sNext) (sSeq (sRet (eIf (tAnd (tCmp (boD eqD) (eBin ixD (eVar 0) (eC (.int 2))) (eC (.str "input"))) (tCmp (boD eqD) (eCall φ__law_attribute (aCons (eVar 0) (aCons (eC (.str "kind")) aNil)) aNil) (eC (.str "box")))) (eC (.str "box")) (eC (.str "field")))) sNext)))
def φ__law_kind : FnD := defD 1 1 ψ__law_kind
def β__law_shut_1 : SSem := (sSeq (sIf (tAnd (tCmp (boD eqD) (eBin ixD (eVar 2) (eC (.int 0))) (eC (.str "element"))) (tCmp (boD (notB isB)) (eCall φ__law_attribute (aCons (eVar 2) (aCons (eC (.str "disabled")) aNil)) aNil) (eC .non))) (sSeq (sRet (eC (.bl true))) sNext) sNext) sNext)
def ψ__law_shut : SSem := (sSeq (sFor (iOf (eBin addD (eVar 1) (eLst false (aCons (eVar 0) aNil)))) (gNm 2) β__law_shut_1) (sSeq (sRet (eC (.bl false))) sNext))
def φ__law_shut : FnD := defD 3 2 ψ__law_shut
def β__law_all_2 (φr : FnD) : SSem := (sSeq (sExpr (eBm isLst appG (eVar 2) (aCons (eTup (aCons (eVar 3) (aCons (eVar 1) aNil))) aNil))) (sSeq (sIf (tCmp (boD eqD) (eBin ixD (eVar 3) (eC (.int 0))) (eC (.str "element"))) (sSeq (sAsg (gNm 2) (eBin addM (eVar 2) (eCall φr (aCons (eBin ixD (eVar 3) (eC (.int 4))) (aCons (eBin addD (eVar 1) (eLst false (aCons (eVar 3) aNil))) aNil)) aNil))) sNext) sNext) sNext))
def ψ__law_all (φr : FnD) : SSem := (sSeq (sAsg (gNm 2) (eLst true aNil)) (sSeq (sFor (iOf (eVar 0)) (gNm 3) (β__law_all_2 φr)) (sSeq (sRet (eVar 2)) sNext)))
def φ__law_all : Nat → FnD
  | 0 => fun _ _ => .bad
  | m + 1 => defD 4 2 (ψ__law_all (φ__law_all m))
def β__law_free_2 : SSem := (sSeq (sIf (tAnd (tCmp (boD eqD) (eBin ixD (eVar 2) (eC (.int 0))) (eC (.str "element"))) (tAnd (tCmp (boD eqD) (eBin ixD (eVar 2) (eC (.int 2))) (eC (.str "option"))) (tNot (tOf (eCall φ__law_shut (aCons (eVar 2) (aCons (eVar 3) aNil)) aNil))))) (sSeq (sAsg (gNm 4) (eCall φ__law_attribute (aCons (eVar 2) (aCons (eC (.str "value")) aNil)) aNil)) (sSeq (sExpr (eBm isLst appG (eVar 1) (aCons (eIf (tCmp (boD isB) (eVar 4) (eC .non)) (eC (.str "")) (eVar 4)) aNil))) sNext)) sNext) sNext)
def ψ__law_free : SSem := (sSeq (sAsg (gNm 1) (eLst true aNil)) (sSeq (sFor (iOf (eCall (φ__law_all 30) (aCons (eBin ixD (eVar 0) (eC (.int 4))) (aCons (eLst false (aCons (eVar 0) aNil)) aNil)) aNil)) (gTp [2, 3]) β__law_free_2) (sSeq (sRet (eVar 1)) sNext)))
def φ__law_free : FnD := defD 5 1 ψ__law_free
def ψ__law_bound : SSem := (sSeq (sRet (eCall φ__law_attribute (aCons (eVar 0) (aCons (eIf (tCmp (boD eqD) (eCall φ__law_kind (aCons (eVar 0) aNil) aNil) (eC (.str "box"))) (eC (.str "checked")) (eC (.str "value"))) aNil)) aNil)) sNext)
def φ__law_bound : FnD := defD 1 1 ψ__law_bound
def ψ__law_told : SSem := (sSeq (sRet (eComp false (iOf (eVar 1)) (gNm 2) tTrue (eTup (aCons (eBin ixD (eBin ixD (eVar 2) (eC (.int 0))) (eC (.int 1))) (aCons (eMeth ((0, φ_Controls_shown) :: []) (eAttr [] ((1, 1) :: []) (eVar 0)) (aCons (eBin ixD (eBin ixD (eVar 2) (eC (.int 0))) (eC (.int 1))) aNil) aNil) aNil))) [2])) sNext)
def φ__law_told : FnD := defD 3 2 ψ__law_told
def ψ_Controls___init__ : SSem := (sSeq (sFldD ((0, 0) :: []) (eVar 0) (eDic0 true)) sNext)
def φ_Controls___init__ : FnD := defD 1 1 ψ_Controls___init__
def ψ_Rehearsal___init__ : SSem := (sSeq (sFldD ((1, 0) :: []) (eVar 0) (eVar 1)) (sSeq (sFldD ((1, 1) :: []) (eVar 0) (eCall (mkF 0 1 φ_Controls___init__) aNil aNil)) (sSeq (sExpr (eMeth ((0, φ_Controls_settle) :: []) (eAttr [] ((1, 1) :: []) (eVar 0)) (aCons (eVar 1) aNil) aNil)) (sSeq (sFldD ((1, 2) :: []) (eVar 0) (eBlt (listC false) (aCons (eVar 2) aNil))) (sSeq (sFldD ((1, 3) :: []) (eVar 0) (eLst true aNil)) sNext)))))
def φ_Rehearsal___init__ : FnD := defD 3 3 ψ_Rehearsal___init__
def β__law_attributes_4 : SSem := (sSeq (sIf (tCmp (boD eqD) (eBin modD (eBlt intC (aCons (eBin fdivD (eVar 0) (eBin ixD (eLst false (aCons (eC (.int 3)) (aCons (eC (.int 12)) (aCons (eC (.int 48)) (aCons (eC (.int 192)) (aCons (eC (.int 768)) (aCons (eC (.int 3072)) (aCons (eC (.int 12288)) aNil)))))))) (eVar 4))) aNil)) (eC (.int 4))) (eC (.int 1))) (sSeq (sExpr (eBm isLst appG (eVar 3) (aCons (eTup (aCons (eBin ixD (eVar 1) (eVar 4)) (aCons (eBin ixD (eVar 2) (eBin modD (eBlt intC (aCons (eBin fdivD (eVar 0) (eBin addD (eC (.int 5)) (eBin mulD (eC (.int 7)) (eVar 4)))) aNil)) (eC (.int 7)))) aNil))) aNil))) sNext) sNext) sNext)
def ψ__law_attributes : SSem := (sSeq (sAsg (gNm 1) (eLst false (aCons (eC (.str "checked")) (aCons (eC (.str "default")) (aCons (eC (.str "disabled")) (aCons (eC (.str "kind")) (aCons (eC (.str "locked")) (aCons (eC (.str "name")) (aCons (eC (.str "value")) aNil))))))))) (sSeq (sAsg (gNm 2) (eLst false (aCons (eC (.str "true")) (aCons (eC (.str "false")) (aCons (eC (.str "")) (aCons (eC (.str "box")) (aCons (eC (.str "a")) (aCons (eC (.str "b")) (aCons (eC (.str "yes")) aNil))))))))) (sSeq (sAsg (gNm 3) (eLst true aNil)) (sSeq (sFor (iRange (aCons (eC (.int 7)) aNil)) (gNm 4) β__law_attributes_4) (sSeq (sRet (eBlt tupleC (aCons (eVar 3) aNil))) sNext)))))
def φ__law_attributes : FnD := defD 5 1 ψ__law_attributes
def β__law_nodes_2 (φr : FnD) : SSem := (sSeq (sAsg (gNm 5) (eBin fdivD (eBin ixD (eVar 0) (eBin modD (eBin ixD (eVar 1) (eC (.str "at"))) (eBlt (lenO ((0, φ_Controls___len__) :: [])) (aCons (eVar 0) aNil)))) (eC (.int 3)))) (sSeq (sSub (eVar 1) (eC (.str "at")) (eBin addD (eBin ixD (eVar 1) (eC (.str "at"))) (eC (.int 1)))) (sSeq (sIf (tCmp (boD leB) (eBin ixD (eVar 1) (eC (.str "left"))) (eC (.int 0))) (sSeq sBk sNext) sNext) (sSeq (sSub (eVar 1) (eC (.str "left")) (eBin subD (eBin ixD (eVar 1) (eC (.str "left"))) (eC (.int 1)))) (sSeq (sAsg (gNm 6) (eBin ixD (eBin ixD (eVar 1) (eC (.str "ids"))) (eBin ixD (eVar 1) (eC (.str "left"))))) (sSeq (sIf (tCmp (boD eqD) (eBin modD (eVar 5) (eC (.int 4))) (eC (.int 0))) (sSeq (sExpr (eBm isLst appG (eVar 3) (aCons (eTup (aCons (eC (.str "text")) (aCons (eVar 6) (aCons (eBin addD (eC (.str "t")) (eBlt strC (aCons (eBin modD (eBlt intC (aCons (eBin fdivD (eVar 5) (eC (.int 4))) aNil)) (eC (.int 50))) aNil))) aNil)))) aNil))) sNext) (sSeq (sAsg (gNm 7) (eBin ixD (eLst false (aCons (eC (.str "input")) (aCons (eC (.str "area")) (aCons (eC (.str "select")) (aCons (eC (.str "option")) (aCons (eC (.str "box")) (aCons (eC (.str "div")) (aCons (eC (.str "form")) (aCons (eC (.str "input")) aNil))))))))) (eBin modD (eBlt intC (aCons (eBin fdivD (eVar 5) (eC (.int 4))) aNil)) (eC (.int 8))))) (sSeq (sAsg (gNm 8) (eTup aNil)) (sSeq (sIf (tAnd (tCmp (boD ltB) (eVar 2) (eC (.int 4))) (tCmp (boD gtB) (eBin modD (eBin fdivD (eVar 5) (eC (.int 32))) (eC (.int 3))) (eC (.int 0)))) (sSeq (sAsg (gNm 8) (eCall φr (aCons (eVar 0) (aCons (eVar 1) (aCons (eBin addD (eVar 2) (eC (.int 1))) aNil))) aNil)) sNext) sNext) (sSeq (sExpr (eBm isLst appG (eVar 3) (aCons (eTup (aCons (eC (.str "element")) (aCons (eVar 6) (aCons (eVar 7) (aCons (eCall φ__law_attributes (aCons (eBlt intC (aCons (eBin fdivD (eVar 5) (eC (.int 96))) aNil)) aNil) aNil) (aCons (eVar 8) aNil)))))) aNil))) sNext))))) sNext))))))
def ψ__law_nodes (φr : FnD) : SSem := (sSeq (sAsg (gNm 3) (eLst true aNil)) (sSeq (sFor (iRange (aCons (eBin addD (eC (.int 1)) (eBin modD (eBlt intC (aCons (eBin ixD (eVar 0) (eBin modD (eBin ixD (eVar 1) (eC (.str "at"))) (eBlt (lenO ((0, φ_Controls___len__) :: [])) (aCons (eVar 0) aNil)))) aNil)) (eC (.int 3)))) aNil)) (gNm 4) (β__law_nodes_2 φr)) (sSeq (sRet (eBlt tupleC (aCons (eVar 3) aNil))) sNext)))
def φ__law_nodes : Nat → FnD
  | 0 => fun _ _ => .bad
  | m + 1 => defD 9 3 (ψ__law_nodes (φ__law_nodes m))
def β__law_document_2 : SSem := (sSeq (sExpr (eBm isLst insG (eVar 3) (aCons (eBin modD (eBlt intC (aCons (eBin fdivD (eBin ixD (eVar 0) (eBin modD (eBin addD (eVar 1) (eVar 4)) (eBlt (lenO ((0, φ_Controls___len__) :: [])) (aCons (eVar 0) aNil)))) (eC (.int 11))) aNil)) (eBin addD (eBlt (lenO ((0, φ_Controls___len__) :: [])) (aCons (eVar 3) aNil)) (eC (.int 1)))) (aCons (eBin addD (eVar 4) (eC (.int 1))) aNil)))) sNext)
def ψ__law_document : SSem := (sSeq (sAsg (gNm 3) (eLst true aNil)) (sSeq (sFor (iRange (aCons (eVar 2) aNil)) (gNm 4) β__law_document_2) (sSeq (sRet (eCall (φ__law_nodes 10) (aCons (eVar 0) (aCons (eDisp [.inr "at", .inr "left", .inr "ids"] (aCons (eVar 1) (aCons (eVar 2) (aCons (eVar 3) aNil)))) (aCons (eC (.int 0)) aNil))) aNil)) sNext)))
def φ__law_document : FnD := defD 5 3 ψ__law_document
def β__law_rows_2 : SSem := (sSeq (sAsg (gNm 4) (eC (.int 0))) (sSeq (sIf (tCmp (boD gtB) (eBlt (lenO ((0, φ_Controls___len__) :: [])) (aCons (eVar 0) aNil)) (eC (.int 0))) (sSeq (sAsg (gNm 4) (eBlt intC (aCons (eBin ixD (eVar 0) (eBin modD (eBlt intC (aCons (eVar 3) aNil)) (eBlt (lenO ((0, φ_Controls___len__) :: [])) (aCons (eVar 0) aNil)))) aNil))) sNext) sNext) (sSeq (sIf (tCmp (boD ltB) (eVar 4) (eC (.int 0))) (sSeq (sAsg (gNm 4) (eBin subD (eC (.int 1)) (eBin mulD (eC (.int 2)) (eVar 4)))) sNext) sNext) (sSeq (sIf (tOr (tCmp (boD geB) (eVar 3) (eBlt (lenO ((0, φ_Controls___len__) :: [])) (aCons (eVar 0) aNil))) (tCmp (boD ltB) (eVar 4) (eC (.int 1000000000)))) (sSeq (sAsg (gNm 4) (eBin modD (eBlt intC (aCons (eBin addD (eBin mulD (eBin addD (eBin addD (eVar 4) (eBin mulD (eC (.int 131)) (eVar 3))) (eC (.int 7))) (eC (.int 48271))) (eBin mulD (eBin mulD (eVar 3) (eVar 3)) (eC (.int 69621)))) aNil)) (eC (.int 1000000007)))) (sSeq (sAsg (gNm 4) (eBin modD (eBlt intC (aCons (eBin mulD (eBin addD (eBin addD (eVar 4) (eBin mulD (eC (.int 17)) (eVar 3))) (eC (.int 3))) (eC (.int 2862933555777941757))) aNil)) (eC (.int 18446744073709551557)))) sNext)) sNext) (sSeq (sExpr (eBm isLst appG (eVar 2) (aCons (eVar 4) aNil))) sNext)))))
def ψ__law_rows : SSem := (sSeq (sAsg (gNm 2) (eLst true aNil)) (sSeq (sFor (iRange (aCons (eVar 1) aNil)) (gNm 3) β__law_rows_2) (sSeq (sRet (eVar 2)) sNext)))
def φ__law_rows : FnD := defD 5 2 ψ__law_rows
def β_law_20 : SSem := (sSeq (sIf (tAnd (tCmp (boD (notB eqD)) (eVar 15) (eBin ixD (eVar 6) (eC (.int 1)))) (tCmp (boD (notB eqD)) (eMeth ((0, φ_Controls_shown) :: []) (eAttr [] ((1, 1) :: []) (eVar 3)) (aCons (eVar 15) aNil) aNil) (eVar 16))) (sSeq (sRet (eC (.bl false))) sNext) sNext) (sSeq (sIf (tAnd (tCmp (boD eqQ) (eVar 15) (eBin ixD (eVar 6) (eC (.int 1)))) (tAnd (tCmp (boD eqQ) (eVar 11) (eLst false aNil)) (tCmp (boD (notB eqQ)) (eMeth ((0, φ_Controls_shown) :: []) (eAttr [] ((1, 1) :: []) (eVar 3)) (aCons (eVar 15) aNil) aNil) (eVar 16)))) (sSeq (sRet (eC (.bl false))) sNext) sNext) sNext))
def β_law_5 : SSem := (sSeq (sAsg (gTp [6, 7]) (eBin ixD (eVar 4) (eBin modD (eBin addD (eVar 5) (eBlt intC (aCons (eBin ixD (eVar 1) (eC (.int 1))) aNil))) (eBlt (lenO ((0, φ_Controls___len__) :: [])) (aCons (eVar 4) aNil))))) (sSeq (sAsg (gNm 8) (eBin ixD (eLst false (aCons (eC (.str "")) (aCons (eC (.str "a")) (aCons (eC (.str "b")) (aCons (eC (.str "true")) (aCons (eC (.str "yes")) (aCons (eC (.str "none")) aNil))))))) (eBin modD (eBlt intC (aCons (eBin ixD (eVar 1) (eBin addD (eBin modD (eVar 5) (eC (.int 58))) (eC (.int 2)))) aNil)) (eC (.int 6))))) (sSeq (sAsg (gNm 9) (eCall φ__law_told (aCons (eVar 3) (aCons (eVar 4) aNil)) aNil)) (sSeq (sAsg (gNm 10) (eBlt (lenO ((0, φ_Controls___len__) :: [])) (aCons (eAttr [] ((1, 3) :: []) (eVar 3)) aNil))) (sSeq (sExpr (eCall φ_choose (aCons (eVar 3) (aCons (eBin ixD (eVar 6) (eC (.int 1))) (aCons (eVar 8) aNil))) aNil)) (sSeq (sAsg (gNm 11) (eLst false aNil)) (sSeq (sAsg (gNm 12) (eMeth ((0, φ_Controls_shown) :: []) (eAttr [] ((1, 1) :: []) (eVar 3)) (aCons (eBin ixD (eVar 6) (eC (.int 1))) aNil) aNil)) (sSeq (sIf (tAnd (tCmp (boD eqD) (eCall φ__law_kind (aCons (eVar 6) aNil) aNil) (eC (.str "select"))) (tAnd (tNot (tOf (eCall φ__law_shut (aCons (eVar 6) (aCons (eVar 7) aNil)) aNil))) (tCmp (inO ((0, φ_Controls___contains__) :: []) false) (eVar 8) (eCall φ__law_free (aCons (eVar 6) aNil) aNil)))) (sSeq (sAsg (gNm 13) (eBin ixD (eComp false (iOf (eVar 9)) (gNm 14) (tCmp (boD eqD) (eBin ixD (eVar 14) (eC (.int 0))) (eBin ixD (eVar 6) (eC (.int 1)))) (eBin ixD (eVar 14) (eC (.int 1))) [14]) (eC (.int 0)))) (sSeq (sAsg (gNm 12) (eIf (tCmp (boD isB) (eCall φ__law_bound (aCons (eVar 6) aNil) aNil) (eC .non)) (eVar 8) (eCall φ__law_bound (aCons (eVar 6) aNil) aNil))) (sSeq (sIf (tCmp (boD (notB eqD)) (eVar 13) (eVar 8)) (sSeq (sAsg (gNm 11) (eLst false (aCons (eTup (aCons (eBin ixD (eVar 6) (eC (.int 1))) (aCons (eC (.str "input")) (aCons (eDic0 true) aNil)))) (aCons (eTup (aCons (eBin ixD (eVar 6) (eC (.int 1))) (aCons (eC (.str "change")) (aCons (eDic0 true) aNil)))) aNil)))) sNext) sNext) sNext))) sNext) (sSeq (sIf (tOr (tCmp (boD (notB eqQ)) (eSlice false (eAttr [] ((1, 3) :: []) (eVar 3)) (oSome (eVar 10)) oNone) (eVar 11)) (tCmp (boD (notB eqQ)) (eMeth ((0, φ_Controls_shown) :: []) (eAttr [] ((1, 1) :: []) (eVar 3)) (aCons (eBin ixD (eVar 6) (eC (.int 1))) aNil) aNil) (eVar 12))) (sSeq (sRet (eC (.bl false))) sNext) sNext) (sSeq (sFor (iOf (eVar 9)) (gTp [15, 16]) β_law_20) sNext))))))))))
def ψ_law : SSem := (sSeq (sAsg (gNm 1) (eCall φ__law_rows (aCons (eVar 0) (aCons (eC (.int 60)) aNil)) aNil)) (sSeq (sAsg (gNm 2) (eCall φ__law_document (aCons (eVar 1) (aCons (eC (.int 1)) (aCons (eBin addD (eC (.int 1)) (eBin modD (eBlt intC (aCons (eBin ixD (eVar 1) (eC (.int 0))) aNil)) (eC (.int 22)))) aNil))) aNil)) (sSeq (sAsg (gNm 3) (eCall (mkF 1 4 φ_Rehearsal___init__) (aCons (eVar 2) aNil) (aCons (eLst false (aCons (eC (.str "input")) (aCons (eC (.str "change")) (aCons (eC (.str "click")) aNil)))) aNil))) (sSeq (sAsg (gNm 4) (eCall (φ__law_all 30) (aCons (eVar 2) (aCons (eLst false aNil) aNil)) aNil)) (sSeq (sFor (iRange (aCons (eBin mulD (eC (.int 2)) (eBlt (lenO ((0, φ_Controls___len__) :: [])) (aCons (eVar 4) aNil))) aNil)) (gNm 5) β_law_5) (sSeq (sAsg (gNm 10) (eBlt (lenO ((0, φ_Controls___len__) :: [])) (aCons (eAttr [] ((1, 3) :: []) (eVar 3)) aNil))) (sSeq (sExpr (eCall φ_choose (aCons (eVar 3) (aCons (eC (.int 99)) (aCons (eC (.str "a")) aNil))) aNil)) (sSeq (sRet (eBin (boD eqD) (eBlt (lenO ((0, φ_Controls___len__) :: [])) (aCons (eAttr [] ((1, 3) :: []) (eVar 3)) aNil)) (eVar 10))) sNext))))))))
def φ_law : FnD := defD 17 1 ψ_law
/-! ### facts of the text -/
structure Ad where
  C_Controls : Addr
  C_Rehearsal : Addr
  f_Controls___len__ : Addr
  f_Controls___contains__ : Addr
  f_text_of_attribute : Addr
  f_option_value : Addr
  f_elements_of : Addr
  f_free_options : Addr
  f_bound_value : Addr
  f_Controls_choose_first : Addr
  f_first_value : Addr
  f_kind_of_control : Addr
  f_Controls_settle : Addr
  f_settle : Addr
  f_Controls_shown : Addr
  f_can_prevent : Addr
  f_Rehearsal_send_event : Addr
  f_way_to : Addr
  f_is_disabled : Addr
  f_send : Addr
  f_Controls_show : Addr
  f_element_at : Addr
  f_is_control : Addr
  f_set_text : Addr
  f_choose : Addr
  f__law_attribute : Addr
  f__law_kind : Addr
  f__law_shut : Addr
  f__law_all : Addr
  f__law_free : Addr
  f__law_bound : Addr
  f__law_told : Addr
  f_Controls___init__ : Addr
  f_Rehearsal___init__ : Addr
  f__law_attributes : Addr
  f__law_nodes : Addr
  f__law_document : Addr
  f__law_rows : Addr
  f_law : Addr
  kd_Rehearsal___init__ : Addr
abbrev tb (a : Ad) : Tab := ⟨[(a.C_Controls, ["known"]), (a.C_Rehearsal, ["document", "controls", "prevented", "sent"])], []⟩
structure Tx (K : PySem.W.Frag) (mg : Str → Option Value) (a : Ad) : Prop where
  fn_Controls___len__ : FnAt K "__len__" "Controls.__len__" st_Controls___len__ a.f_Controls___len__
  fn_Controls___contains__ : FnAt K "__contains__" "Controls.__contains__" st_Controls___contains__ a.f_Controls___contains__
  fn_text_of_attribute : FnAt K "text_of_attribute" "text_of_attribute" st_text_of_attribute a.f_text_of_attribute
  fn_option_value : FnAt K "option_value" "option_value" st_option_value a.f_option_value
  fn_elements_of : FnAt K "elements_of" "elements_of" st_elements_of a.f_elements_of
  fn_free_options : FnAt K "free_options" "free_options" st_free_options a.f_free_options
  fn_bound_value : FnAt K "bound_value" "bound_value" st_bound_value a.f_bound_value
  fn_Controls_choose_first : FnAt K "choose_first" "Controls.choose_first" st_Controls_choose_first a.f_Controls_choose_first
  fn_first_value : FnAt K "first_value" "first_value" st_first_value a.f_first_value
  fn_kind_of_control : FnAt K "kind_of_control" "kind_of_control" st_kind_of_control a.f_kind_of_control
  fn_Controls_settle : FnAt K "settle" "Controls.settle" st_Controls_settle a.f_Controls_settle
  fn_settle : FnAt K "settle" "settle" st_settle a.f_settle
  fn_Controls_shown : FnAt K "shown" "Controls.shown" st_Controls_shown a.f_Controls_shown
  fn_can_prevent : FnAt K "can_prevent" "can_prevent" st_can_prevent a.f_can_prevent
  fn_Rehearsal_send_event : FnAt K "send_event" "Rehearsal.send_event" st_Rehearsal_send_event a.f_Rehearsal_send_event
  fn_way_to : FnAt K "way_to" "way_to" st_way_to a.f_way_to
  fn_is_disabled : FnAt K "is_disabled" "is_disabled" st_is_disabled a.f_is_disabled
  fn_send : FnAt K "send" "send" st_send a.f_send
  fn_Controls_show : FnAt K "show" "Controls.show" st_Controls_show a.f_Controls_show
  fn_element_at : FnAt K "element_at" "element_at" st_element_at a.f_element_at
  fn_is_control : FnAt K "is_control" "is_control" st_is_control a.f_is_control
  fn_set_text : FnAt K "set_text" "set_text" st_set_text a.f_set_text
  fn_choose : FnAt K "choose" "choose" st_choose a.f_choose
  fn__law_attribute : FnAt K "_law_attribute" "_law_attribute" st__law_attribute a.f__law_attribute
  fn__law_kind : FnAt K "_law_kind" "_law_kind" st__law_kind a.f__law_kind
  fn__law_shut : FnAt K "_law_shut" "_law_shut" st__law_shut a.f__law_shut
  fn__law_all : FnAt K "_law_all" "_law_all" st__law_all a.f__law_all
  fn__law_free : FnAt K "_law_free" "_law_free" st__law_free a.f__law_free
  fn__law_bound : FnAt K "_law_bound" "_law_bound" st__law_bound a.f__law_bound
  fn__law_told : FnAt K "_law_told" "_law_told" st__law_told a.f__law_told
  fn_Controls___init__ : FnAt K "__init__" "Controls.__init__" st_Controls___init__ a.f_Controls___init__
  fn_Rehearsal___init__ : FnAtD K "__init__" "Rehearsal.__init__" st_Rehearsal___init__ a.f_Rehearsal___init__ a.kd_Rehearsal___init__
  fn__law_attributes : FnAt K "_law_attributes" "_law_attributes" st__law_attributes a.f__law_attributes
  fn__law_nodes : FnAt K "_law_nodes" "_law_nodes" st__law_nodes a.f__law_nodes
  fn__law_document : FnAt K "_law_document" "_law_document" st__law_document a.f__law_document
  fn__law_rows : FnAt K "_law_rows" "_law_rows" st__law_rows a.f__law_rows
  fn_law : FnAt K "law" "law" st_law a.f_law
  na_Controls_known : NoAttr K a.C_Controls "known"
  cl_Controls : Cls K a.C_Controls
  no_len : mg "len" = none
  na_Rehearsal_sent : NoAttr K a.C_Rehearsal "sent"
  cl_Rehearsal : Cls K a.C_Rehearsal
  mg_text_of_attribute : mg "text_of_attribute" = some (.ref a.f_text_of_attribute)
  kp_text_of_attribute : PySem.W.keepIn K (.ref a.f_text_of_attribute) = true
  mg_option_value : mg "option_value" = some (.ref a.f_option_value)
  kp_option_value : PySem.W.keepIn K (.ref a.f_option_value) = true
  mg_elements_of : mg "elements_of" = some (.ref a.f_elements_of)
  kp_elements_of : PySem.W.keepIn K (.ref a.f_elements_of) = true
  mg_free_options : mg "free_options" = some (.ref a.f_free_options)
  kp_free_options : PySem.W.keepIn K (.ref a.f_free_options) = true
  na_Rehearsal_controls : NoAttr K a.C_Rehearsal "controls"
  na_Rehearsal_document : NoAttr K a.C_Rehearsal "document"
  mg_bound_value : mg "bound_value" = some (.ref a.f_bound_value)
  kp_bound_value : PySem.W.keepIn K (.ref a.f_bound_value) = true
  me_Controls_choose_first : Meth K a.C_Controls "choose_first" a.f_Controls_choose_first
  mg_first_value : mg "first_value" = some (.ref a.f_first_value)
  kp_first_value : PySem.W.keepIn K (.ref a.f_first_value) = true
  mg_kind_of_control : mg "kind_of_control" = some (.ref a.f_kind_of_control)
  kp_kind_of_control : PySem.W.keepIn K (.ref a.f_kind_of_control) = true
  me_Controls_settle : Meth K a.C_Controls "settle" a.f_Controls_settle
  mg_settle : mg "settle" = some (.ref a.f_settle)
  kp_settle : PySem.W.keepIn K (.ref a.f_settle) = true
  me_Controls_shown : Meth K a.C_Controls "shown" a.f_Controls_shown
  na_Rehearsal_prevented : NoAttr K a.C_Rehearsal "prevented"
  mg_can_prevent : mg "can_prevent" = some (.ref a.f_can_prevent)
  kp_can_prevent : PySem.W.keepIn K (.ref a.f_can_prevent) = true
  no_dict : mg "dict" = none
  me_Rehearsal_send_event : Meth K a.C_Rehearsal "send_event" a.f_Rehearsal_send_event
  mg_way_to : mg "way_to" = some (.ref a.f_way_to)
  kp_way_to : PySem.W.keepIn K (.ref a.f_way_to) = true
  mg_is_disabled : mg "is_disabled" = some (.ref a.f_is_disabled)
  kp_is_disabled : PySem.W.keepIn K (.ref a.f_is_disabled) = true
  mg_send : mg "send" = some (.ref a.f_send)
  kp_send : PySem.W.keepIn K (.ref a.f_send) = true
  me_Controls_show : Meth K a.C_Controls "show" a.f_Controls_show
  mg_element_at : mg "element_at" = some (.ref a.f_element_at)
  kp_element_at : PySem.W.keepIn K (.ref a.f_element_at) = true
  mg_is_control : mg "is_control" = some (.ref a.f_is_control)
  kp_is_control : PySem.W.keepIn K (.ref a.f_is_control) = true
  mg_set_text : mg "set_text" = some (.ref a.f_set_text)
  kp_set_text : PySem.W.keepIn K (.ref a.f_set_text) = true
  mg_choose : mg "choose" = some (.ref a.f_choose)
  kp_choose : PySem.W.keepIn K (.ref a.f_choose) = true
  no_range : mg "range" = none
  mg__law_attribute : mg "_law_attribute" = some (.ref a.f__law_attribute)
  kp__law_attribute : PySem.W.keepIn K (.ref a.f__law_attribute) = true
  mg__law_kind : mg "_law_kind" = some (.ref a.f__law_kind)
  kp__law_kind : PySem.W.keepIn K (.ref a.f__law_kind) = true
  mg__law_shut : mg "_law_shut" = some (.ref a.f__law_shut)
  kp__law_shut : PySem.W.keepIn K (.ref a.f__law_shut) = true
  mg__law_all : mg "_law_all" = some (.ref a.f__law_all)
  kp__law_all : PySem.W.keepIn K (.ref a.f__law_all) = true
  mg__law_free : mg "_law_free" = some (.ref a.f__law_free)
  kp__law_free : PySem.W.keepIn K (.ref a.f__law_free) = true
  mg__law_bound : mg "_law_bound" = some (.ref a.f__law_bound)
  kp__law_bound : PySem.W.keepIn K (.ref a.f__law_bound) = true
  mg__law_told : mg "_law_told" = some (.ref a.f__law_told)
  kp__law_told : PySem.W.keepIn K (.ref a.f__law_told) = true
  no_int : mg "int" = none
  no_list : mg "list" = none
  mg_Controls : mg "Controls" = some (.ref a.C_Controls)
  mk_Controls : Mk K a.C_Controls a.f_Controls___init__
  mg_Rehearsal : mg "Rehearsal" = some (.ref a.C_Rehearsal)
  mk_Rehearsal : Mk K a.C_Rehearsal a.f_Rehearsal___init__
  no_tuple : mg "tuple" = none
  no_str : mg "str" = none
  mg__law_attributes : mg "_law_attributes" = some (.ref a.f__law_attributes)
  kp__law_attributes : PySem.W.keepIn K (.ref a.f__law_attributes) = true
  mg__law_nodes : mg "_law_nodes" = some (.ref a.f__law_nodes)
  kp__law_nodes : PySem.W.keepIn K (.ref a.f__law_nodes) = true
  mg__law_document : mg "_law_document" = some (.ref a.f__law_document)
  kp__law_document : PySem.W.keepIn K (.ref a.f__law_document) = true
  mg__law_rows : mg "_law_rows" = some (.ref a.f__law_rows)
  kp__law_rows : PySem.W.keepIn K (.ref a.f__law_rows) = true
  co_Controls : PySem.W.findIn K (.ref a.C_Controls) "__contains__" = some (some (.ref a.f_Controls___contains__))
  coF_Controls : PySem.W.isFn K (.ref a.f_Controls___contains__) = true
  ln_Controls : PySem.W.findIn K (.ref a.C_Controls) "__len__" = some (some (.ref a.f_Controls___len__))
  lnF_Controls : PySem.W.isFn K (.ref a.f_Controls___len__) = true
section
variable {P : Program} {w : World} {K : PySem.W.Frag} {mg : Str → Option Value} {base : Heap} {a : Ad}
theorem tb_Controls (a : Ad) : (tb a).ct[0]? = some (a.C_Controls, (["known"] : List Str)) := rfl
theorem fld_Controls_known (t : Tx K mg a) : FldD K (tb a) 0 "known" 0 := ⟨_, _, tb_Controls a, t.cl_Controls, t.na_Controls_known, rfl, (by decide), (by decide +kernel)⟩
theorem tb_Rehearsal (a : Ad) : (tb a).ct[1]? = some (a.C_Rehearsal, (["document", "controls", "prevented", "sent"] : List Str)) := rfl
theorem fld_Rehearsal_sent (t : Tx K mg a) : FldD K (tb a) 1 "sent" 3 := ⟨_, _, tb_Rehearsal a, t.cl_Rehearsal, t.na_Rehearsal_sent, rfl, (by decide), (by decide +kernel)⟩
theorem fld_Rehearsal_controls (t : Tx K mg a) : FldD K (tb a) 1 "controls" 1 := ⟨_, _, tb_Rehearsal a, t.cl_Rehearsal, t.na_Rehearsal_controls, rfl, (by decide), (by decide +kernel)⟩
theorem fld_Rehearsal_document (t : Tx K mg a) : FldD K (tb a) 1 "document" 0 := ⟨_, _, tb_Rehearsal a, t.cl_Rehearsal, t.na_Rehearsal_document, rfl, (by decide), (by decide +kernel)⟩
theorem fld_Rehearsal_prevented (t : Tx K mg a) : FldD K (tb a) 1 "prevented" 2 := ⟨_, _, tb_Rehearsal a, t.cl_Rehearsal, t.na_Rehearsal_prevented, rfl, (by decide), (by decide +kernel)⟩
theorem sc_Controls___len__ : FnScope N_Controls___len__ P_Controls___len__ (defScope st_Controls___len__) := ⟨rfl, rfl, rfl, by decide +kernel, rfl, by decide +kernel, by decide +kernel⟩
theorem kb_Controls___len__ (t : Tx K mg a) {cdv : Value} {A : Around} {outer : List Env} {s : Shared} {H : Hp} {E : XK} (hr : LD.Room 0 (A.deeper (envOfC "Controls.__len__" (defScope st_Controls___len__) s.heap.objs.size a.f_Controls___len__ cdv))) :
    KB (cxOf (L2.CX P w) P w K mg base N_Controls___len__ "Controls.__len__" (defScope st_Controls___len__) a.f_Controls___len__ cdv A outer s H E) (tb a) (fun c d _ H => E c d H) (defBody st_Controls___len__) ψ_Controls___len__ := by
  have hN := sc_Controls___len__.nd
  have h65 := u65 hr
  have h64 := u64 hr
  have h0 := u0 hr
  have h1 := u1 hr
  exact (b_cons (s_ret (Blt (fun _ => c_len) t.no_len (A1 (Fld (tblC (fld_Controls_known t) tblN) (Vr 0)) a_nil))) b_nil)
theorem ce_Controls___len___1 (t : Tx K mg a) : Callee P w K mg base (tb a) 1 a.f_Controls___len__ 1 [] φ_Controls___len__ := by
  obtain ⟨oc, od, kV, doc, pm, an, cdv, ct, osl, l, c, k⟩ := t.fn_Controls___len__
  exact callee_of (kfn (fun_mk l c k) sc_Controls___len__ fun cdv A outer s H E hr => kb_Controls___len__ t hr) fun _ us ws h1 h2 => match us, ws, h1, h2 with | [_], [], _, _ => .of_eq rfl
theorem len_Controls___len__ (t : Tx K mg a) : LenD P w K mg base (tb a) 1 0 φ_Controls___len__ := ⟨_, _, _, tb_Controls a, t.ln_Controls, t.lnF_Controls, ce_Controls___len___1 t⟩
theorem sc_Controls___contains__ : FnScope N_Controls___contains__ P_Controls___contains__ (defScope st_Controls___contains__) := ⟨rfl, rfl, rfl, by decide +kernel, rfl, by decide +kernel, by decide +kernel⟩
theorem kb_Controls___contains__ (t : Tx K mg a) {cdv : Value} {A : Around} {outer : List Env} {s : Shared} {H : Hp} {E : XK} (hr : LD.Room 0 (A.deeper (envOfC "Controls.__contains__" (defScope st_Controls___contains__) s.heap.objs.size a.f_Controls___contains__ cdv))) :
    KB (cxOf (L2.CX P w) P w K mg base N_Controls___contains__ "Controls.__contains__" (defScope st_Controls___contains__) a.f_Controls___contains__ cdv A outer s H E) (tb a) (fun c d _ H => E c d H) (defBody st_Controls___contains__) ψ_Controls___contains__ := by
  have hN := sc_Controls___contains__.nd
  have h65 := u65 hr
  have h64 := u64 hr
  have h0 := u0 hr
  have h1 := u1 hr
  exact (b_cons (s_ret (Cq (fun _ => o_in h65) (Vr 1) (Fld (tblC (fld_Controls_known t) tblN) (Vr 0)))) b_nil)
theorem ce_Controls___contains___2 (t : Tx K mg a) : Callee P w K mg base (tb a) 1 a.f_Controls___contains__ 2 [] φ_Controls___contains__ := by
  obtain ⟨oc, od, kV, doc, pm, an, cdv, ct, osl, l, c, k⟩ := t.fn_Controls___contains__
  exact callee_of (kfn (fun_mk l c k) sc_Controls___contains__ fun cdv A outer s H E hr => kb_Controls___contains__ t hr) fun _ us ws h1 h2 => match us, ws, h1, h2 with | [_, _], [], _, _ => .of_eq rfl
theorem con_Controls___contains__ (t : Tx K mg a) : ConD P w K mg base (tb a) 1 0 φ_Controls___contains__ := ⟨_, _, _, tb_Controls a, t.co_Controls, t.coF_Controls, ce_Controls___contains___2 t⟩
theorem sc_text_of_attribute : FnScope N_text_of_attribute P_text_of_attribute (defScope st_text_of_attribute) := ⟨rfl, rfl, rfl, by decide +kernel, rfl, by decide +kernel, by decide +kernel⟩
theorem kb_text_of_attribute (t : Tx K mg a) {cdv : Value} {A : Around} {outer : List Env} {s : Shared} {H : Hp} {E : XK} (hr : LD.Room 0 (A.deeper (envOfC "text_of_attribute" (defScope st_text_of_attribute) s.heap.objs.size a.f_text_of_attribute cdv))) :
    KB (cxOf (L2.CX P w) P w K mg base N_text_of_attribute "text_of_attribute" (defScope st_text_of_attribute) a.f_text_of_attribute cdv A outer s H E) (tb a) (fun c d _ H => E c d H) (defBody st_text_of_attribute) ψ_text_of_attribute := by
  have hN := sc_text_of_attribute.nd
  have h65 := u65 hr
  have h64 := u64 hr
  have h0 := u0 hr
  have h1 := u1 hr
  exact (b_cons (s_for passes_k rfl (ki_of (Ix h1 (Vr 0) d_c_int)) (kg_name (i := 2) hN rfl (by first | exact Or.inl rfl | exact Or.inr rfl) (by first | exact Or.inl rfl | exact Or.inr rfl)) (b_cons (s_if (Tq (fun _ => o_eq h64) (Ix h1 (Vr 2) d_c_int) (Vr 1)) (b_cons (s_ret (Ix h1 (Vr 2) d_c_int)) b_nil) b_nil) b_nil) (fun _ => rfl)) (b_cons (s_ret d_c_non) b_nil))
theorem ce_text_of_attribute_2 (t : Tx K mg a) : Callee P w K mg base (tb a) 1 a.f_text_of_attribute 2 [] φ_text_of_attribute := by
  obtain ⟨oc, od, kV, doc, pm, an, cdv, ct, osl, l, c, k⟩ := t.fn_text_of_attribute
  exact callee_of (kfn (fun_mk l c k) sc_text_of_attribute fun cdv A outer s H E hr => kb_text_of_attribute t hr) fun _ us ws h1 h2 => match us, ws, h1, h2 with | [_, _], [], _, _ => .of_eq rfl
theorem sc_option_value : FnScope N_option_value P_option_value (defScope st_option_value) := ⟨rfl, rfl, rfl, by decide +kernel, rfl, by decide +kernel, by decide +kernel⟩
theorem kb_option_value (t : Tx K mg a) {cdv : Value} {A : Around} {outer : List Env} {s : Shared} {H : Hp} {E : XK} (hr : LD.Room 1 (A.deeper (envOfC "option_value" (defScope st_option_value) s.heap.objs.size a.f_option_value cdv))) :
    KB (cxOf (L2.CX P w) P w K mg base N_option_value "option_value" (defScope st_option_value) a.f_option_value cdv A outer s H E) (tb a) (fun c d _ H => E c d H) (defBody st_option_value) ψ_option_value := by
  have hN := sc_option_value.nd
  have h65 := u65 hr
  have h64 := u64 hr
  have h0 := u0 hr
  have h1 := u1 hr
  exact (b_cons (s_asg (Call (ce_text_of_attribute_2 t) hr takes_k t.mg_text_of_attribute t.kp_text_of_attribute (A1 (Vr 0) (A1 d_c_str a_nil)) k_nil) (kg_name (i := 1) hN rfl (by first | exact Or.inl rfl | exact Or.inr rfl) (by first | exact Or.inl rfl | exact Or.inr rfl)) (by rfl) (by rfl) (by rfl)) (b_cons (s_ret (d_if (Tq (fun _ => o_is) (Vr 1) d_c_non) d_c_str (Vr 1))) b_nil))
theorem ce_option_value_1 (t : Tx K mg a) : Callee P w K mg base (tb a) 2 a.f_option_value 1 [] φ_option_value := by
  obtain ⟨oc, od, kV, doc, pm, an, cdv, ct, osl, l, c, k⟩ := t.fn_option_value
  exact callee_of (kfn (fun_mk l c k) sc_option_value fun cdv A outer s H E hr => kb_option_value t hr) fun _ us ws h1 h2 => match us, ws, h1, h2 with | [_], [], _, _ => .of_eq rfl
theorem sc_elements_of : FnScope N_elements_of P_elements_of (defScope st_elements_of) := ⟨rfl, rfl, rfl, by decide +kernel, rfl, by decide +kernel, by decide +kernel⟩
theorem kb_elements_of (t : Tx K mg a) {m : Nat} {φr : FnD} (ihr : Callee P w K mg base (tb a) (1 + m) a.f_elements_of 2 [] φr) {cdv : Value} {A : Around} {outer : List Env} {s : Shared} {H : Hp} {E : XK} (hr : LD.Room (1 + m) (A.deeper (envOfC "elements_of" (defScope st_elements_of) s.heap.objs.size a.f_elements_of cdv))) :
    KB (cxOf (L2.CX P w) P w K mg base N_elements_of "elements_of" (defScope st_elements_of) a.f_elements_of cdv A outer s H E) (tb a) (fun c d _ H => E c d H) (defBody st_elements_of) (ψ_elements_of φr) := by
  have hN := sc_elements_of.nd
  have h65 := u65 hr
  have h64 := u64 hr
  have h0 := u0 hr
  have h1 := u1 hr
  exact (b_cons (s_asg (d_lst (mu := true) a_nil) (kg_name (i := 2) hN rfl (by first | exact Or.inl rfl | exact Or.inr rfl) (by first | exact Or.inl rfl | exact Or.inr rfl)) (by rfl) (by rfl) (by rfl)) (b_cons (s_for passes_k rfl (ki_of (Vr 0)) (kg_name (i := 3) hN rfl (by first | exact Or.inl rfl | exact Or.inr rfl) (by first | exact Or.inl rfl | exact Or.inr rfl)) (b_cons (s_if (Tq (fun _ => o_eq h64) (Ix h1 (Vr 3) d_c_int) d_c_str) (b_cons (s_asg (d_or (Vr 1) (d_one (Cq (fun _ => o_isnot) (Call (ce_text_of_attribute_2 t) hr takes_k t.mg_text_of_attribute t.kp_text_of_attribute (A1 (Vr 3) (A1 d_c_str a_nil)) k_nil) d_c_non))) (kg_name (i := 4) hN rfl (by first | exact Or.inl rfl | exact Or.inr rfl) (by first | exact Or.inl rfl | exact Or.inr rfl)) (by rfl) (by rfl) (by rfl)) (b_cons (s_expr (Append (Vr 2) (A1 (d_tup (A1 (Vr 3) (A1 (Vr 4) a_nil))) a_nil)) (by rfl)) (b_cons (s_asg (d_bin (fun _ => o_addM) (Vr 2) (Call ihr hr takes_k t.mg_elements_of t.kp_elements_of (A1 (Ix h1 (Vr 3) d_c_int) (A1 (Vr 4) a_nil)) k_nil)) (kg_name (i := 2) hN rfl (by first | exact Or.inl rfl | exact Or.inr rfl) (by first | exact Or.inl rfl | exact Or.inr rfl)) (by rfl) (by rfl) (by rfl)) b_nil))) b_nil) b_nil) (fun _ => rfl)) (b_cons (s_ret (Vr 2)) b_nil)))
theorem ce_elements_of_2 (t : Tx K mg a) : ∀ m : Nat, Callee P w K mg base (tb a) (1 + m) a.f_elements_of 2 [] (φ_elements_of m)
  | 0 => callee_bad
  | m + 1 => by
    obtain ⟨oc, od, kV, doc, pm, an, cdv, ct, osl, l, c, k⟩ := t.fn_elements_of
    exact callee_of (kfn (fun_mk l c k) sc_elements_of fun cdv A outer s H E hr => kb_elements_of t (ce_elements_of_2 t m) hr) fun _ us ws h1 h2 => match us, ws, h1, h2 with | [_, _], [], _, _ => .of_eq rfl
theorem sc_free_options : FnScope N_free_options P_free_options (defScope st_free_options) := ⟨rfl, rfl, rfl, by decide +kernel, rfl, by decide +kernel, by decide +kernel⟩
theorem kb_free_options (t : Tx K mg a) {cdv : Value} {A : Around} {outer : List Env} {s : Shared} {H : Hp} {E : XK} (hr : LD.Room 31 (A.deeper (envOfC "free_options" (defScope st_free_options) s.heap.objs.size a.f_free_options cdv))) :
    KB (cxOf (L2.CX P w) P w K mg base N_free_options "free_options" (defScope st_free_options) a.f_free_options cdv A outer s H E) (tb a) (fun c d _ H => E c d H) (defBody st_free_options) ψ_free_options := by
  have hN := sc_free_options.nd
  have h65 := u65 hr
  have h64 := u64 hr
  have h0 := u0 hr
  have h1 := u1 hr
  exact (b_cons (s_asg (Call (ce_elements_of_2 t 30) hr takes_k t.mg_elements_of t.kp_elements_of (A1 (Ix h1 (Vr 0) d_c_int) (A1 (Vr 1) a_nil)) k_nil) (kg_name (i := 2) hN rfl (by first | exact Or.inl rfl | exact Or.inr rfl) (by first | exact Or.inl rfl | exact Or.inr rfl)) (by rfl) (by rfl) (by rfl)) (b_cons (s_ret (d_comp (own := [("row", 3), ("shut", 4)]) (mu := false) rfl hN (blkOk_by (N := N_free_options) (sc := defScope st_free_options) (by decide +kernel)) (by decide) (ki_of (Vr 2)) (fun _ _ _ _ _ => (kg_tup (is := [3, 4]) rfl hN ⟨rfl, (by first | exact Or.inl rfl | exact Or.inr rfl), (by first | exact Or.inl rfl | exact Or.inr rfl), ⟨rfl, (by first | exact Or.inl rfl | exact Or.inr rfl), (by first | exact Or.inl rfl | exact Or.inr rfl), trivial⟩⟩)) (fun _ _ _ _ _ => (kts_one (Tw (t_and (Tq (fun _ => o_eq h64) (Ix h1 (Vr 3) d_c_int) d_c_str) (t_and1 (t_not (Tv (Vr 4)))))))) (fun _ _ _ _ _ => (Call (ce_option_value_1 t) hr takes0 t.mg_option_value t.kp_option_value (A1 (Vr 3) a_nil) k_nil)) (fun _ => rfl))) b_nil))
theorem ce_free_options_2 (t : Tx K mg a) : Callee P w K mg base (tb a) 32 a.f_free_options 2 [] φ_free_options := by
  obtain ⟨oc, od, kV, doc, pm, an, cdv, ct, osl, l, c, k⟩ := t.fn_free_options
  exact callee_of (kfn (fun_mk l c k) sc_free_options fun cdv A outer s H E hr => kb_free_options t hr) fun _ us ws h1 h2 => match us, ws, h1, h2 with | [_, _], [], _, _ => .of_eq rfl
theorem sc_bound_value : FnScope N_bound_value P_bound_value (defScope st_bound_value) := ⟨rfl, rfl, rfl, by decide +kernel, rfl, by decide +kernel, by decide +kernel⟩
theorem kb_bound_value (t : Tx K mg a) {cdv : Value} {A : Around} {outer : List Env} {s : Shared} {H : Hp} {E : XK} (hr : LD.Room 1 (A.deeper (envOfC "bound_value" (defScope st_bound_value) s.heap.objs.size a.f_bound_value cdv))) :
    KB (cxOf (L2.CX P w) P w K mg base N_bound_value "bound_value" (defScope st_bound_value) a.f_bound_value cdv A outer s H E) (tb a) (fun c d _ H => E c d H) (defBody st_bound_value) ψ_bound_value := by
  have hN := sc_bound_value.nd
  have h65 := u65 hr
  have h64 := u64 hr
  have h0 := u0 hr
  have h1 := u1 hr
  exact (b_cons (s_if (Tq (fun _ => o_eq h64) (Vr 1) d_c_str) (b_cons (s_asg (Call (ce_text_of_attribute_2 t) hr takes_k t.mg_text_of_attribute t.kp_text_of_attribute (A1 (Vr 0) (A1 d_c_str a_nil)) k_nil) (kg_name (i := 2) hN rfl (by first | exact Or.inl rfl | exact Or.inr rfl) (by first | exact Or.inl rfl | exact Or.inr rfl)) (by rfl) (by rfl) (by rfl)) (b_cons (s_ret (d_if (Tq (fun _ => o_is) (Vr 2) d_c_non) d_c_non (Cq (fun _ => o_eq h64) (Vr 2) d_c_str))) b_nil)) b_nil) (b_cons (s_ret (Call (ce_text_of_attribute_2 t) hr takes_k t.mg_text_of_attribute t.kp_text_of_attribute (A1 (Vr 0) (A1 d_c_str a_nil)) k_nil)) b_nil))
theorem ce_bound_value_2 (t : Tx K mg a) : Callee P w K mg base (tb a) 2 a.f_bound_value 2 [] φ_bound_value := by
  obtain ⟨oc, od, kV, doc, pm, an, cdv, ct, osl, l, c, k⟩ := t.fn_bound_value
  exact callee_of (kfn (fun_mk l c k) sc_bound_value fun cdv A outer s H E hr => kb_bound_value t hr) fun _ us ws h1 h2 => match us, ws, h1, h2 with | [_, _], [], _, _ => .of_eq rfl
theorem sc_Controls_choose_first : FnScope N_Controls_choose_first P_Controls_choose_first (defScope st_Controls_choose_first) := ⟨rfl, rfl, rfl, by decide +kernel, rfl, by decide +kernel, by decide +kernel⟩
theorem kb_Controls_choose_first (t : Tx K mg a) {cdv : Value} {A : Around} {outer : List Env} {s : Shared} {H : Hp} {E : XK} (hr : LD.Room 32 (A.deeper (envOfC "Controls.choose_first" (defScope st_Controls_choose_first) s.heap.objs.size a.f_Controls_choose_first cdv))) :
    KB (cxOf (L2.CX P w) P w K mg base N_Controls_choose_first "Controls.choose_first" (defScope st_Controls_choose_first) a.f_Controls_choose_first cdv A outer s H E) (tb a) (fun c d _ H => E c d H) (defBody st_Controls_choose_first) ψ_Controls_choose_first := by
  have hN := sc_Controls_choose_first.nd
  have h65 := u65 hr
  have h64 := u64 hr
  have h0 := u0 hr
  have h1 := u1 hr
  exact (b_cons (s_asg (Call (ce_free_options_2 t) hr takes_k t.mg_free_options t.kp_free_options (A1 (Vr 1) (A1 (Vr 2) a_nil)) k_nil) (kg_name (i := 3) hN rfl (by first | exact Or.inl rfl | exact Or.inr rfl) (by first | exact Or.inl rfl | exact Or.inr rfl)) (by rfl) (by rfl) (by rfl)) (b_cons (s_if (Tq (fun _ => o_notinO h65 (ownC (tblC (con_Controls___contains__ t) tblN) hr (by decide))) (Ix h1 (Ix h1 (Fld (tblC (fld_Controls_known t) tblN) (Vr 0)) (Ix h1 (Vr 1) d_c_int)) d_c_int) (Vr 3)) (b_cons (s_sub h1 (d_tup (A1 d_c_str (A1 (d_if (Tq (fun _ => o_gt) (Blt (fun _ => c_lenO (tblC (len_Controls___len__ t) tblN) hr) t.no_len (A1 (Vr 3) a_nil)) d_c_int) (Ix h1 (Vr 3) d_c_int) d_c_str) a_nil))) (Fld (tblC (fld_Controls_known t) tblN) (Vr 0)) (Ix h1 (Vr 1) d_c_int) (by rfl) (by rfl) (by rfl) (fun _ => rfl)) b_nil) b_nil) b_nil))
theorem ce_Controls_choose_first_3 (t : Tx K mg a) : Callee P w K mg base (tb a) 33 a.f_Controls_choose_first 3 [] φ_Controls_choose_first := by
  obtain ⟨oc, od, kV, doc, pm, an, cdv, ct, osl, l, c, k⟩ := t.fn_Controls_choose_first
  exact callee_of (kfn (fun_mk l c k) sc_Controls_choose_first fun cdv A outer s H E hr => kb_Controls_choose_first t hr) fun _ us ws h1 h2 => match us, ws, h1, h2 with | [_, _, _], [], _, _ => .of_eq rfl
theorem met_Controls_choose_first_3 (t : Tx K mg a) : MetD P w K mg base (tb a) 33 0 "choose_first" 2 [] φ_Controls_choose_first := ⟨_, _, _, tb_Controls a, (by decide +kernel), t.cl_Controls, t.me_Controls_choose_first, ce_Controls_choose_first_3 t⟩
theorem sc_first_value : FnScope N_first_value P_first_value (defScope st_first_value) := ⟨rfl, rfl, rfl, by decide +kernel, rfl, by decide +kernel, by decide +kernel⟩
theorem kb_first_value (t : Tx K mg a) {cdv : Value} {A : Around} {outer : List Env} {s : Shared} {H : Hp} {E : XK} (hr : LD.Room 1 (A.deeper (envOfC "first_value" (defScope st_first_value) s.heap.objs.size a.f_first_value cdv))) :
    KB (cxOf (L2.CX P w) P w K mg base N_first_value "first_value" (defScope st_first_value) a.f_first_value cdv A outer s H E) (tb a) (fun c d _ H => E c d H) (defBody st_first_value) ψ_first_value := by
  have hN := sc_first_value.nd
  have h65 := u65 hr
  have h64 := u64 hr
  have h0 := u0 hr
  have h1 := u1 hr
  exact (b_cons (s_asg (Call (ce_text_of_attribute_2 t) hr takes_k t.mg_text_of_attribute t.kp_text_of_attribute (A1 (Vr 0) (A1 d_c_str a_nil)) k_nil) (kg_name (i := 2) hN rfl (by first | exact Or.inl rfl | exact Or.inr rfl) (by first | exact Or.inl rfl | exact Or.inr rfl)) (by rfl) (by rfl) (by rfl)) (b_cons (s_if (Tq (fun _ => o_eq h64) (Vr 1) d_c_str) (b_cons (s_ret (Cq (fun _ => o_eq h64) (Vr 2) d_c_str)) b_nil) b_nil) (b_cons (s_ret (d_if (Tq (fun _ => o_is) (Vr 2) d_c_non) d_c_str (Vr 2))) b_nil)))
theorem ce_first_value_2 (t : Tx K mg a) : Callee P w K mg base (tb a) 2 a.f_first_value 2 [] φ_first_value := by
  obtain ⟨oc, od, kV, doc, pm, an, cdv, ct, osl, l, c, k⟩ := t.fn_first_value
  exact callee_of (kfn (fun_mk l c k) sc_first_value fun cdv A outer s H E hr => kb_first_value t hr) fun _ us ws h1 h2 => match us, ws, h1, h2 with | [_, _], [], _, _ => .of_eq rfl
theorem sc_kind_of_control : FnScope N_kind_of_control P_kind_of_control (defScope st_kind_of_control) := ⟨rfl, rfl, rfl, by decide +kernel, rfl, by decide +kernel, by decide +kernel⟩
theorem kb_kind_of_control (t : Tx K mg a) {cdv : Value} {A : Around} {outer : List Env} {s : Shared} {H : Hp} {E : XK} (hr : LD.Room 1 (A.deeper (envOfC "kind_of_control" (defScope st_kind_of_control) s.heap.objs.size a.f_kind_of_control cdv))) :
    KB (cxOf (L2.CX P w) P w K mg base N_kind_of_control "kind_of_control" (defScope st_kind_of_control) a.f_kind_of_control cdv A outer s H E) (tb a) (fun c d _ H => E c d H) (defBody st_kind_of_control) ψ_kind_of_control := by
  have hN := sc_kind_of_control.nd
  have h65 := u65 hr
  have h64 := u64 hr
  have h0 := u0 hr
  have h1 := u1 hr
  exact (b_cons (s_if (Tw (t_or (Tq (fun _ => o_ne h64) (Ix h1 (Vr 0) d_c_int) d_c_str) (t_or1 (Tq (fun _ => o_notinO h65 (ownC (tblC (con_Controls___contains__ t) tblN) hr (by decide))) (Ix h1 (Vr 0) d_c_int) (d_tup (A1 d_c_str (A1 d_c_str (A1 d_c_str a_nil)))))))) (b_cons (s_ret d_c_non) b_nil) b_nil) (b_cons (s_if (Tq (fun _ => o_eq h64) (Ix h1 (Vr 0) d_c_int) d_c_str) (b_cons (s_ret d_c_str) b_nil) b_nil) (b_cons (s_if (Tw (t_and (Tq (fun _ => o_eq h64) (Ix h1 (Vr 0) d_c_int) d_c_str) (t_and1 (Tq (fun _ => o_eq h64) (Call (ce_text_of_attribute_2 t) hr takes_k t.mg_text_of_attribute t.kp_text_of_attribute (A1 (Vr 0) (A1 d_c_str a_nil)) k_nil) d_c_str)))) (b_cons (s_ret d_c_str) b_nil) b_nil) (b_cons (s_ret d_c_str) b_nil))))
theorem ce_kind_of_control_1 (t : Tx K mg a) : Callee P w K mg base (tb a) 2 a.f_kind_of_control 1 [] φ_kind_of_control := by
  obtain ⟨oc, od, kV, doc, pm, an, cdv, ct, osl, l, c, k⟩ := t.fn_kind_of_control
  exact callee_of (kfn (fun_mk l c k) sc_kind_of_control fun cdv A outer s H E hr => kb_kind_of_control t hr) fun _ us ws h1 h2 => match us, ws, h1, h2 with | [_], [], _, _ => .of_eq rfl
theorem sc_Controls_settle : FnScope N_Controls_settle P_Controls_settle (defScope st_Controls_settle) := ⟨rfl, rfl, rfl, by decide +kernel, rfl, by decide +kernel, by decide +kernel⟩
theorem kb_Controls_settle (t : Tx K mg a) {cdv : Value} {A : Around} {outer : List Env} {s : Shared} {H : Hp} {E : XK} (hr : LD.Room 33 (A.deeper (envOfC "Controls.settle" (defScope st_Controls_settle) s.heap.objs.size a.f_Controls_settle cdv))) :
    KB (cxOf (L2.CX P w) P w K mg base N_Controls_settle "Controls.settle" (defScope st_Controls_settle) a.f_Controls_settle cdv A outer s H E) (tb a) (fun c d _ H => E c d H) (defBody st_Controls_settle) ψ_Controls_settle := by
  have hN := sc_Controls_settle.nd
  have h65 := u65 hr
  have h64 := u64 hr
  have h0 := u0 hr
  have h1 := u1 hr
  exact (b_cons (s_asg (Fld (tblC (fld_Controls_known t) tblN) (Vr 0)) (kg_name (i := 2) hN rfl (by first | exact Or.inl rfl | exact Or.inr rfl) (by first | exact Or.inl rfl | exact Or.inr rfl)) (by rfl) (by rfl) (by rfl)) (b_cons (s_fld (tblC (fld_Controls_known t) tblN) (d_dic0 (mu := true)) (Vr 0) (by rfl)) (b_cons (s_for passes_k rfl (ki_of (Call (ce_elements_of_2 t 30) hr takes_k t.mg_elements_of t.kp_elements_of (A1 (Vr 1) (A1 d_c_bl a_nil)) k_nil)) (kg_tup (is := [3, 4]) rfl hN ⟨rfl, (by first | exact Or.inl rfl | exact Or.inr rfl), (by first | exact Or.inl rfl | exact Or.inr rfl), ⟨rfl, (by first | exact Or.inl rfl | exact Or.inr rfl), (by first | exact Or.inl rfl | exact Or.inr rfl), trivial⟩⟩) (b_cons (s_asg (Call (ce_kind_of_control_1 t) hr takes_k t.mg_kind_of_control t.kp_kind_of_control (A1 (Vr 3) a_nil) k_nil) (kg_name (i := 5) hN rfl (by first | exact Or.inl rfl | exact Or.inr rfl) (by first | exact Or.inl rfl | exact Or.inr rfl)) (by rfl) (by rfl) (by rfl)) (b_cons (s_if (Tq (fun _ => o_isnot) (Vr 5) d_c_non) (b_cons (s_asg (Call (ce_bound_value_2 t) hr takes_k t.mg_bound_value t.kp_bound_value (A1 (Vr 3) (A1 (Vr 5) a_nil)) k_nil) (kg_name (i := 6) hN rfl (by first | exact Or.inl rfl | exact Or.inr rfl) (by first | exact Or.inl rfl | exact Or.inr rfl)) (by rfl) (by rfl) (by rfl)) (b_cons (s_if (Tw (t_and (Tq (fun _ => o_is) (Vr 6) d_c_non) (t_and (Tq (fun _ => o_inO h65 (ownC (tblC (con_Controls___contains__ t) tblN) hr (by decide))) (Ix h1 (Vr 3) d_c_int) (Vr 2)) (t_and1 (Tq (fun _ => o_eq h64) (Ix h1 (Ix h1 (Vr 2) (Ix h1 (Vr 3) d_c_int)) d_c_int) (Vr 5)))))) (b_cons (s_asg (Ix h1 (Ix h1 (Vr 2) (Ix h1 (Vr 3) d_c_int)) d_c_int) (kg_name (i := 6) hN rfl (by first | exact Or.inl rfl | exact Or.inr rfl) (by first | exact Or.inl rfl | exact Or.inr rfl)) (by rfl) (by rfl) (by rfl)) b_nil) (b_cons (s_if (Tq (fun _ => o_is) (Vr 6) d_c_non) (b_cons (s_asg (Call (ce_first_value_2 t) hr takes_k t.mg_first_value t.kp_first_value (A1 (Vr 3) (A1 (Vr 5) a_nil)) k_nil) (kg_name (i := 6) hN rfl (by first | exact Or.inl rfl | exact Or.inr rfl) (by first | exact Or.inl rfl | exact Or.inr rfl)) (by rfl) (by rfl) (by rfl)) b_nil) b_nil) b_nil)) (b_cons (s_sub h1 (d_tup (A1 (Vr 5) (A1 (Vr 6) a_nil))) (Fld (tblC (fld_Controls_known t) tblN) (Vr 0)) (Ix h1 (Vr 3) d_c_int) (by rfl) (by rfl) (by rfl) (fun _ => rfl)) (b_cons (s_if (Tw (t_and (Tq (fun _ => o_eq h64) (Vr 5) d_c_str) (t_and1 (Tq (fun _ => o_is) (Call (ce_bound_value_2 t) hr takes_k t.mg_bound_value t.kp_bound_value (A1 (Vr 3) (A1 (Vr 5) a_nil)) k_nil) d_c_non)))) (b_cons (s_expr (Met (tblC (met_Controls_choose_first_3 t) tblN) hr takes_k (Vr 0) (A1 (Vr 3) (A1 (Vr 4) a_nil)) k_nil) (by rfl)) b_nil) b_nil) b_nil)))) b_nil) b_nil)) (fun _ => rfl)) b_nil)))
theorem ce_Controls_settle_2 (t : Tx K mg a) : Callee P w K mg base (tb a) 34 a.f_Controls_settle 2 [] φ_Controls_settle := by
  obtain ⟨oc, od, kV, doc, pm, an, cdv, ct, osl, l, c, k⟩ := t.fn_Controls_settle
  exact callee_of (kfn (fun_mk l c k) sc_Controls_settle fun cdv A outer s H E hr => kb_Controls_settle t hr) fun _ us ws h1 h2 => match us, ws, h1, h2 with | [_, _], [], _, _ => .of_eq rfl
theorem met_Controls_settle_2 (t : Tx K mg a) : MetD P w K mg base (tb a) 34 0 "settle" 1 [] φ_Controls_settle := ⟨_, _, _, tb_Controls a, (by decide +kernel), t.cl_Controls, t.me_Controls_settle, ce_Controls_settle_2 t⟩
theorem sc_settle : FnScope N_settle P_settle (defScope st_settle) := ⟨rfl, rfl, rfl, by decide +kernel, rfl, by decide +kernel, by decide +kernel⟩
theorem kb_settle (t : Tx K mg a) {cdv : Value} {A : Around} {outer : List Env} {s : Shared} {H : Hp} {E : XK} (hr : LD.Room 34 (A.deeper (envOfC "settle" (defScope st_settle) s.heap.objs.size a.f_settle cdv))) :
    KB (cxOf (L2.CX P w) P w K mg base N_settle "settle" (defScope st_settle) a.f_settle cdv A outer s H E) (tb a) (fun c d _ H => E c d H) (defBody st_settle) ψ_settle := by
  have hN := sc_settle.nd
  have h65 := u65 hr
  have h64 := u64 hr
  have h0 := u0 hr
  have h1 := u1 hr
  exact (b_cons (s_expr (Met (tblC (met_Controls_settle_2 t) tblN) hr takes_k (Fld (tblC (fld_Rehearsal_controls t) tblN) (Vr 0)) (A1 (Fld (tblC (fld_Rehearsal_document t) tblN) (Vr 0)) a_nil) k_nil) (by rfl)) b_nil)
theorem ce_settle_1 (t : Tx K mg a) : Callee P w K mg base (tb a) 35 a.f_settle 1 [] φ_settle := by
  obtain ⟨oc, od, kV, doc, pm, an, cdv, ct, osl, l, c, k⟩ := t.fn_settle
  exact callee_of (kfn (fun_mk l c k) sc_settle fun cdv A outer s H E hr => kb_settle t hr) fun _ us ws h1 h2 => match us, ws, h1, h2 with | [_], [], _, _ => .of_eq rfl
theorem sc_Controls_shown : FnScope N_Controls_shown P_Controls_shown (defScope st_Controls_shown) := ⟨rfl, rfl, rfl, by decide +kernel, rfl, by decide +kernel, by decide +kernel⟩
theorem kb_Controls_shown (t : Tx K mg a) {cdv : Value} {A : Around} {outer : List Env} {s : Shared} {H : Hp} {E : XK} (hr : LD.Room 1 (A.deeper (envOfC "Controls.shown" (defScope st_Controls_shown) s.heap.objs.size a.f_Controls_shown cdv))) :
    KB (cxOf (L2.CX P w) P w K mg base N_Controls_shown "Controls.shown" (defScope st_Controls_shown) a.f_Controls_shown cdv A outer s H E) (tb a) (fun c d _ H => E c d H) (defBody st_Controls_shown) ψ_Controls_shown := by
  have hN := sc_Controls_shown.nd
  have h65 := u65 hr
  have h64 := u64 hr
  have h0 := u0 hr
  have h1 := u1 hr
  exact (b_cons (s_if (Tq (fun _ => o_inO h65 (ownC (tblC (con_Controls___contains__ t) tblN) hr (by decide))) (Vr 1) (Fld (tblC (fld_Controls_known t) tblN) (Vr 0))) (b_cons (s_ret (Ix h1 (Ix h1 (Fld (tblC (fld_Controls_known t) tblN) (Vr 0)) (Vr 1)) d_c_int)) b_nil) b_nil) (b_cons (s_ret d_c_non) b_nil))
theorem ce_Controls_shown_2 (t : Tx K mg a) : Callee P w K mg base (tb a) 2 a.f_Controls_shown 2 [] φ_Controls_shown := by
  obtain ⟨oc, od, kV, doc, pm, an, cdv, ct, osl, l, c, k⟩ := t.fn_Controls_shown
  exact callee_of (kfn (fun_mk l c k) sc_Controls_shown fun cdv A outer s H E hr => kb_Controls_shown t hr) fun _ us ws h1 h2 => match us, ws, h1, h2 with | [_, _], [], _, _ => .of_eq rfl
theorem met_Controls_shown_2 (t : Tx K mg a) : MetD P w K mg base (tb a) 2 0 "shown" 1 [] φ_Controls_shown := ⟨_, _, _, tb_Controls a, (by decide +kernel), t.cl_Controls, t.me_Controls_shown, ce_Controls_shown_2 t⟩
theorem sc_can_prevent : FnScope N_can_prevent P_can_prevent (defScope st_can_prevent) := ⟨rfl, rfl, rfl, by decide +kernel, rfl, by decide +kernel, by decide +kernel⟩
theorem kb_can_prevent (t : Tx K mg a) {cdv : Value} {A : Around} {outer : List Env} {s : Shared} {H : Hp} {E : XK} (hr : LD.Room 1 (A.deeper (envOfC "can_prevent" (defScope st_can_prevent) s.heap.objs.size a.f_can_prevent cdv))) :
    KB (cxOf (L2.CX P w) P w K mg base N_can_prevent "can_prevent" (defScope st_can_prevent) a.f_can_prevent cdv A outer s H E) (tb a) (fun c d _ H => E c d H) (defBody st_can_prevent) ψ_can_prevent := by
  have hN := sc_can_prevent.nd
  have h65 := u65 hr
  have h64 := u64 hr
  have h0 := u0 hr
  have h1 := u1 hr
  exact (b_cons (s_ret (Cq (fun _ => o_notinO h65 (ownC (tblC (con_Controls___contains__ t) tblN) hr (by decide))) (Vr 0) (d_tup (A1 d_c_str (A1 d_c_str a_nil))))) b_nil)
theorem ce_can_prevent_1 (t : Tx K mg a) : Callee P w K mg base (tb a) 2 a.f_can_prevent 1 [] φ_can_prevent := by
  obtain ⟨oc, od, kV, doc, pm, an, cdv, ct, osl, l, c, k⟩ := t.fn_can_prevent
  exact callee_of (kfn (fun_mk l c k) sc_can_prevent fun cdv A outer s H E hr => kb_can_prevent t hr) fun _ us ws h1 h2 => match us, ws, h1, h2 with | [_], [], _, _ => .of_eq rfl
theorem sc_Rehearsal_send_event : FnScope N_Rehearsal_send_event P_Rehearsal_send_event (defScope st_Rehearsal_send_event) := ⟨rfl, rfl, rfl, by decide +kernel, rfl, by decide +kernel, by decide +kernel⟩
theorem kb_Rehearsal_send_event (t : Tx K mg a) {cdv : Value} {A : Around} {outer : List Env} {s : Shared} {H : Hp} {E : XK} (hr : LD.Room 2 (A.deeper (envOfC "Rehearsal.send_event" (defScope st_Rehearsal_send_event) s.heap.objs.size a.f_Rehearsal_send_event cdv))) :
    KB (cxOf (L2.CX P w) P w K mg base N_Rehearsal_send_event "Rehearsal.send_event" (defScope st_Rehearsal_send_event) a.f_Rehearsal_send_event cdv A outer s H E) (tb a) (fun c d _ H => E c d H) (defBody st_Rehearsal_send_event) ψ_Rehearsal_send_event := by
  have hN := sc_Rehearsal_send_event.nd
  have h65 := u65 hr
  have h64 := u64 hr
  have h0 := u0 hr
  have h1 := u1 hr
  exact (b_cons (s_expr (Append (Fld (tblC (fld_Rehearsal_sent t) tblN) (Vr 0)) (A1 (d_tup (A1 (Vr 1) (A1 (Vr 2) (A1 (Bty (fun _ => (c_dict (mu := false))) t.no_dict (A1 (Vr 3) a_nil)) a_nil)))) a_nil)) (by rfl)) (b_cons (s_ret (d_and (Cq (fun _ => o_inO h65 (ownC (tblC (con_Controls___contains__ t) tblN) hr (by decide))) (Vr 2) (Fld (tblC (fld_Rehearsal_prevented t) tblN) (Vr 0))) (d_one (Call (ce_can_prevent_1 t) hr takes_k t.mg_can_prevent t.kp_can_prevent (A1 (Vr 2) a_nil) k_nil)))) b_nil))
theorem ce_Rehearsal_send_event_4 (t : Tx K mg a) : Callee P w K mg base (tb a) 3 a.f_Rehearsal_send_event 4 [] φ_Rehearsal_send_event := by
  obtain ⟨oc, od, kV, doc, pm, an, cdv, ct, osl, l, c, k⟩ := t.fn_Rehearsal_send_event
  exact callee_of (kfn (fun_mk l c k) sc_Rehearsal_send_event fun cdv A outer s H E hr => kb_Rehearsal_send_event t hr) fun _ us ws h1 h2 => match us, ws, h1, h2 with | [_, _, _, _], [], _, _ => .of_eq rfl
theorem met_Rehearsal_send_event_4 (t : Tx K mg a) : MetD P w K mg base (tb a) 3 1 "send_event" 3 [] φ_Rehearsal_send_event := ⟨_, _, _, tb_Rehearsal a, (by decide +kernel), t.cl_Rehearsal, t.me_Rehearsal_send_event, ce_Rehearsal_send_event_4 t⟩
theorem sc_way_to : FnScope N_way_to P_way_to (defScope st_way_to) := ⟨rfl, rfl, rfl, by decide +kernel, rfl, by decide +kernel, by decide +kernel⟩
theorem kb_way_to (t : Tx K mg a) {m : Nat} {φr : FnD} (ihr : Callee P w K mg base (tb a) (2 + m) a.f_way_to 2 [] φr) {cdv : Value} {A : Around} {outer : List Env} {s : Shared} {H : Hp} {E : XK} (hr : LD.Room (2 + m) (A.deeper (envOfC "way_to" (defScope st_way_to) s.heap.objs.size a.f_way_to cdv))) :
    KB (cxOf (L2.CX P w) P w K mg base N_way_to "way_to" (defScope st_way_to) a.f_way_to cdv A outer s H E) (tb a) (fun c d _ H => E c d H) (defBody st_way_to) (ψ_way_to φr) := by
  have hN := sc_way_to.nd
  have h65 := u65 hr
  have h64 := u64 hr
  have h0 := u0 hr
  have h1 := u1 hr
  exact (b_cons (s_for passes_k rfl (ki_of (Vr 0)) (kg_name (i := 2) hN rfl (by first | exact Or.inl rfl | exact Or.inr rfl) (by first | exact Or.inl rfl | exact Or.inr rfl)) (b_cons (s_if (Tq (fun _ => o_eq h64) (Ix h1 (Vr 2) d_c_int) (Vr 1)) (b_cons (s_ret (d_lst (mu := false) (A1 (Vr 2) a_nil))) b_nil) b_nil) (b_cons (s_if (Tq (fun _ => o_eq h64) (Ix h1 (Vr 2) d_c_int) d_c_str) (b_cons (s_asg (Call ihr hr takes_k t.mg_way_to t.kp_way_to (A1 (Ix h1 (Vr 2) d_c_int) (A1 (Vr 1) a_nil)) k_nil) (kg_name (i := 3) hN rfl (by first | exact Or.inl rfl | exact Or.inr rfl) (by first | exact Or.inl rfl | exact Or.inr rfl)) (by rfl) (by rfl) (by rfl)) (b_cons (s_if (Tq (fun _ => o_gt) (Blt (fun _ => c_lenO (tblC (len_Controls___len__ t) tblN) hr) t.no_len (A1 (Vr 3) a_nil)) d_c_int) (b_cons (s_ret (d_bin (fun _ => o_add) (d_lst (mu := false) (A1 (Vr 2) a_nil)) (Vr 3))) b_nil) b_nil) b_nil)) b_nil) b_nil)) (fun _ => rfl)) (b_cons (s_ret (d_lst (mu := false) a_nil)) b_nil))
theorem ce_way_to_2 (t : Tx K mg a) : ∀ m : Nat, Callee P w K mg base (tb a) (2 + m) a.f_way_to 2 [] (φ_way_to m)
  | 0 => callee_bad
  | m + 1 => by
    obtain ⟨oc, od, kV, doc, pm, an, cdv, ct, osl, l, c, k⟩ := t.fn_way_to
    exact callee_of (kfn (fun_mk l c k) sc_way_to fun cdv A outer s H E hr => kb_way_to t (ce_way_to_2 t m) hr) fun _ us ws h1 h2 => match us, ws, h1, h2 with | [_, _], [], _, _ => .of_eq rfl
theorem sc_is_disabled : FnScope N_is_disabled P_is_disabled (defScope st_is_disabled) := ⟨rfl, rfl, rfl, by decide +kernel, rfl, by decide +kernel, by decide +kernel⟩
theorem kb_is_disabled (t : Tx K mg a) {cdv : Value} {A : Around} {outer : List Env} {s : Shared} {H : Hp} {E : XK} (hr : LD.Room 32 (A.deeper (envOfC "is_disabled" (defScope st_is_disabled) s.heap.objs.size a.f_is_disabled cdv))) :
    KB (cxOf (L2.CX P w) P w K mg base N_is_disabled "is_disabled" (defScope st_is_disabled) a.f_is_disabled cdv A outer s H E) (tb a) (fun c d _ H => E c d H) (defBody st_is_disabled) ψ_is_disabled := by
  have hN := sc_is_disabled.nd
  have h65 := u65 hr
  have h64 := u64 hr
  have h0 := u0 hr
  have h1 := u1 hr
  exact (b_cons (s_asg (Call (ce_way_to_2 t 30) hr takes_k t.mg_way_to t.kp_way_to (A1 (Vr 0) (A1 (Vr 1) a_nil)) k_nil) (kg_name (i := 2) hN rfl (by first | exact Or.inl rfl | exact Or.inr rfl) (by first | exact Or.inl rfl | exact Or.inr rfl)) (by rfl) (by rfl) (by rfl)) (b_cons (s_if (Tq (fun _ => o_eq h64) (Blt (fun _ => c_lenO (tblC (len_Controls___len__ t) tblN) hr) t.no_len (A1 (Vr 2) a_nil)) d_c_int) (b_cons (s_ret d_c_bl) b_nil) b_nil) (b_cons (s_for passes_k rfl (ki_of (Vr 2)) (kg_name (i := 3) hN rfl (by first | exact Or.inl rfl | exact Or.inr rfl) (by first | exact Or.inl rfl | exact Or.inr rfl)) (b_cons (s_if (Tw (t_and (Tq (fun _ => o_eq h64) (Ix h1 (Vr 3) d_c_int) d_c_str) (t_and1 (Tq (fun _ => o_isnot) (Call (ce_text_of_attribute_2 t) hr takes_k t.mg_text_of_attribute t.kp_text_of_attribute (A1 (Vr 3) (A1 d_c_str a_nil)) k_nil) d_c_non)))) (b_cons (s_ret d_c_bl) b_nil) b_nil) b_nil) (fun _ => rfl)) (b_cons (s_ret d_c_bl) b_nil))))
theorem ce_is_disabled_2 (t : Tx K mg a) : Callee P w K mg base (tb a) 33 a.f_is_disabled 2 [] φ_is_disabled := by
  obtain ⟨oc, od, kV, doc, pm, an, cdv, ct, osl, l, c, k⟩ := t.fn_is_disabled
  exact callee_of (kfn (fun_mk l c k) sc_is_disabled fun cdv A outer s H E hr => kb_is_disabled t hr) fun _ us ws h1 h2 => match us, ws, h1, h2 with | [_, _], [], _, _ => .of_eq rfl
theorem sc_send : FnScope N_send P_send (defScope st_send) := ⟨rfl, rfl, rfl, by decide +kernel, rfl, by decide +kernel, by decide +kernel⟩
theorem kb_send (t : Tx K mg a) {cdv : Value} {A : Around} {outer : List Env} {s : Shared} {H : Hp} {E : XK} (hr : LD.Room 33 (A.deeper (envOfC "send" (defScope st_send) s.heap.objs.size a.f_send cdv))) :
    KB (cxOf (L2.CX P w) P w K mg base N_send "send" (defScope st_send) a.f_send cdv A outer s H E) (tb a) (fun c d _ H => E c d H) (defBody st_send) ψ_send := by
  have hN := sc_send.nd
  have h65 := u65 hr
  have h64 := u64 hr
  have h0 := u0 hr
  have h1 := u1 hr
  exact (b_cons (s_if (Tv (Call (ce_is_disabled_2 t) hr takes_k t.mg_is_disabled t.kp_is_disabled (A1 (Fld (tblC (fld_Rehearsal_document t) tblN) (Vr 0)) (A1 (Vr 1) a_nil)) k_nil)) (b_cons (s_ret d_c_bl) b_nil) b_nil) (b_cons (s_ret (Met (tblC (met_Rehearsal_send_event_4 t) tblN) hr takes_k (Vr 0) (A1 (Vr 1) (A1 (Vr 2) (A1 (Vr 3) a_nil))) k_nil)) b_nil))
theorem ce_send_4 (t : Tx K mg a) : Callee P w K mg base (tb a) 34 a.f_send 4 [] φ_send := by
  obtain ⟨oc, od, kV, doc, pm, an, cdv, ct, osl, l, c, k⟩ := t.fn_send
  exact callee_of (kfn (fun_mk l c k) sc_send fun cdv A outer s H E hr => kb_send t hr) fun _ us ws h1 h2 => match us, ws, h1, h2 with | [_, _, _, _], [], _, _ => .of_eq rfl
theorem sc_Controls_show : FnScope N_Controls_show P_Controls_show (defScope st_Controls_show) := ⟨rfl, rfl, rfl, by decide +kernel, rfl, by decide +kernel, by decide +kernel⟩
theorem kb_Controls_show (t : Tx K mg a) {cdv : Value} {A : Around} {outer : List Env} {s : Shared} {H : Hp} {E : XK} (hr : LD.Room 1 (A.deeper (envOfC "Controls.show" (defScope st_Controls_show) s.heap.objs.size a.f_Controls_show cdv))) :
    KB (cxOf (L2.CX P w) P w K mg base N_Controls_show "Controls.show" (defScope st_Controls_show) a.f_Controls_show cdv A outer s H E) (tb a) (fun c d _ H => E c d H) (defBody st_Controls_show) ψ_Controls_show := by
  have hN := sc_Controls_show.nd
  have h65 := u65 hr
  have h64 := u64 hr
  have h0 := u0 hr
  have h1 := u1 hr
  exact (b_cons (s_if (Tq (fun _ => o_inO h65 (ownC (tblC (con_Controls___contains__ t) tblN) hr (by decide))) (Vr 1) (Fld (tblC (fld_Controls_known t) tblN) (Vr 0))) (b_cons (s_sub h1 (d_tup (A1 (Ix h1 (Ix h1 (Fld (tblC (fld_Controls_known t) tblN) (Vr 0)) (Vr 1)) d_c_int) (A1 (Vr 2) a_nil))) (Fld (tblC (fld_Controls_known t) tblN) (Vr 0)) (Vr 1) (by rfl) (by rfl) (by rfl) (fun _ => rfl)) b_nil) b_nil) b_nil)
theorem ce_Controls_show_3 (t : Tx K mg a) : Callee P w K mg base (tb a) 2 a.f_Controls_show 3 [] φ_Controls_show := by
  obtain ⟨oc, od, kV, doc, pm, an, cdv, ct, osl, l, c, k⟩ := t.fn_Controls_show
  exact callee_of (kfn (fun_mk l c k) sc_Controls_show fun cdv A outer s H E hr => kb_Controls_show t hr) fun _ us ws h1 h2 => match us, ws, h1, h2 with | [_, _, _], [], _, _ => .of_eq rfl
theorem met_Controls_show_3 (t : Tx K mg a) : MetD P w K mg base (tb a) 2 0 "show" 2 [] φ_Controls_show := ⟨_, _, _, tb_Controls a, (by decide +kernel), t.cl_Controls, t.me_Controls_show, ce_Controls_show_3 t⟩
theorem sc_element_at : FnScope N_element_at P_element_at (defScope st_element_at) := ⟨rfl, rfl, rfl, by decide +kernel, rfl, by decide +kernel, by decide +kernel⟩
theorem kb_element_at (t : Tx K mg a) {cdv : Value} {A : Around} {outer : List Env} {s : Shared} {H : Hp} {E : XK} (hr : LD.Room 33 (A.deeper (envOfC "element_at" (defScope st_element_at) s.heap.objs.size a.f_element_at cdv))) :
    KB (cxOf (L2.CX P w) P w K mg base N_element_at "element_at" (defScope st_element_at) a.f_element_at cdv A outer s H E) (tb a) (fun c d _ H => E c d H) (defBody st_element_at) ψ_element_at := by
  have hN := sc_element_at.nd
  have h65 := u65 hr
  have h64 := u64 hr
  have h0 := u0 hr
  have h1 := u1 hr
  exact (b_cons (s_asg (Call (ce_way_to_2 t 30) hr takes_k t.mg_way_to t.kp_way_to (A1 (Fld (tblC (fld_Rehearsal_document t) tblN) (Vr 0)) (A1 (Vr 1) a_nil)) k_nil) (kg_name (i := 2) hN rfl (by first | exact Or.inl rfl | exact Or.inr rfl) (by first | exact Or.inl rfl | exact Or.inr rfl)) (by rfl) (by rfl) (by rfl)) (b_cons (s_if (Tw (t_or (Tq (fun _ => o_eq h64) (Blt (fun _ => c_lenO (tblC (len_Controls___len__ t) tblN) hr) t.no_len (A1 (Vr 2) a_nil)) d_c_int) (t_or (Tq (fun _ => o_ne h64) (Ix h1 (Ix h1 (Vr 2) (d_un (fun _ => o_neg) d_c_int)) d_c_int) d_c_str) (t_or1 (Tv (Call (ce_is_disabled_2 t) hr takes_k t.mg_is_disabled t.kp_is_disabled (A1 (Fld (tblC (fld_Rehearsal_document t) tblN) (Vr 0)) (A1 (Vr 1) a_nil)) k_nil)))))) (b_cons (s_ret d_c_non) b_nil) b_nil) (b_cons (s_ret (Ix h1 (Vr 2) (d_un (fun _ => o_neg) d_c_int))) b_nil)))
theorem ce_element_at_2 (t : Tx K mg a) : Callee P w K mg base (tb a) 34 a.f_element_at 2 [] φ_element_at := by
  obtain ⟨oc, od, kV, doc, pm, an, cdv, ct, osl, l, c, k⟩ := t.fn_element_at
  exact callee_of (kfn (fun_mk l c k) sc_element_at fun cdv A outer s H E hr => kb_element_at t hr) fun _ us ws h1 h2 => match us, ws, h1, h2 with | [_, _], [], _, _ => .of_eq rfl
theorem sc_is_control : FnScope N_is_control P_is_control (defScope st_is_control) := ⟨rfl, rfl, rfl, by decide +kernel, rfl, by decide +kernel, by decide +kernel⟩
theorem kb_is_control (t : Tx K mg a) {cdv : Value} {A : Around} {outer : List Env} {s : Shared} {H : Hp} {E : XK} (hr : LD.Room 34 (A.deeper (envOfC "is_control" (defScope st_is_control) s.heap.objs.size a.f_is_control cdv))) :
    KB (cxOf (L2.CX P w) P w K mg base N_is_control "is_control" (defScope st_is_control) a.f_is_control cdv A outer s H E) (tb a) (fun c d _ H => E c d H) (defBody st_is_control) ψ_is_control := by
  have hN := sc_is_control.nd
  have h65 := u65 hr
  have h64 := u64 hr
  have h0 := u0 hr
  have h1 := u1 hr
  exact (b_cons (s_asg (Call (ce_element_at_2 t) hr takes_k t.mg_element_at t.kp_element_at (A1 (Vr 0) (A1 (Vr 1) a_nil)) k_nil) (kg_name (i := 3) hN rfl (by first | exact Or.inl rfl | exact Or.inr rfl) (by first | exact Or.inl rfl | exact Or.inr rfl)) (by rfl) (by rfl) (by rfl)) (b_cons (s_ret (d_and (Cq (fun _ => o_isnot) (Vr 3) d_c_non) (d_one (Cq (fun _ => o_eq h64) (Call (ce_kind_of_control_1 t) hr takes_k t.mg_kind_of_control t.kp_kind_of_control (A1 (Vr 3) a_nil) k_nil) (Vr 2))))) b_nil))
theorem ce_is_control_3 (t : Tx K mg a) : Callee P w K mg base (tb a) 35 a.f_is_control 3 [] φ_is_control := by
  obtain ⟨oc, od, kV, doc, pm, an, cdv, ct, osl, l, c, k⟩ := t.fn_is_control
  exact callee_of (kfn (fun_mk l c k) sc_is_control fun cdv A outer s H E hr => kb_is_control t hr) fun _ us ws h1 h2 => match us, ws, h1, h2 with | [_, _, _], [], _, _ => .of_eq rfl
theorem sc_set_text : FnScope N_set_text P_set_text (defScope st_set_text) := ⟨rfl, rfl, rfl, by decide +kernel, rfl, by decide +kernel, by decide +kernel⟩
theorem kb_set_text (t : Tx K mg a) {cdv : Value} {A : Around} {outer : List Env} {s : Shared} {H : Hp} {E : XK} (hr : LD.Room 35 (A.deeper (envOfC "set_text" (defScope st_set_text) s.heap.objs.size a.f_set_text cdv))) :
    KB (cxOf (L2.CX P w) P w K mg base N_set_text "set_text" (defScope st_set_text) a.f_set_text cdv A outer s H E) (tb a) (fun c d _ H => E c d H) (defBody st_set_text) ψ_set_text := by
  have hN := sc_set_text.nd
  have h65 := u65 hr
  have h64 := u64 hr
  have h0 := u0 hr
  have h1 := u1 hr
  exact (b_cons (s_if (t_not (Tv (Call (ce_is_control_3 t) hr takes_k t.mg_is_control t.kp_is_control (A1 (Vr 0) (A1 (Vr 1) (A1 (Vr 2) a_nil))) k_nil))) (b_cons s_retN b_nil) b_nil) (b_cons (s_if (Tq (fun _ => o_ne h64) (Met (tblC (met_Controls_shown_2 t) tblN) hr takes_k (Fld (tblC (fld_Rehearsal_controls t) tblN) (Vr 0)) (A1 (Vr 1) a_nil) k_nil) (Vr 3)) (b_cons (s_expr (Met (tblC (met_Controls_show_3 t) tblN) hr takes_k (Fld (tblC (fld_Rehearsal_controls t) tblN) (Vr 0)) (A1 (Vr 1) (A1 (Vr 3) a_nil)) k_nil) (by rfl)) (b_cons (s_expr (Call (ce_send_4 t) hr takes_k t.mg_send t.kp_send (A1 (Vr 0) (A1 (Vr 1) (A1 d_c_str (A1 (d_dic0 (mu := true)) a_nil)))) k_nil) (by rfl)) (b_cons (s_if (Tq (fun _ => o_eq h64) (Vr 2) d_c_str) (b_cons (s_expr (Call (ce_send_4 t) hr takes_k t.mg_send t.kp_send (A1 (Vr 0) (A1 (Vr 1) (A1 d_c_str (A1 (d_dic0 (mu := true)) a_nil)))) k_nil) (by rfl)) b_nil) b_nil) b_nil))) b_nil) (b_cons (s_expr (Call (ce_settle_1 t) hr takes_k t.mg_settle t.kp_settle (A1 (Vr 0) a_nil) k_nil) (by rfl)) b_nil)))
theorem ce_set_text_4 (t : Tx K mg a) : Callee P w K mg base (tb a) 36 a.f_set_text 4 [] φ_set_text := by
  obtain ⟨oc, od, kV, doc, pm, an, cdv, ct, osl, l, c, k⟩ := t.fn_set_text
  exact callee_of (kfn (fun_mk l c k) sc_set_text fun cdv A outer s H E hr => kb_set_text t hr) fun _ us ws h1 h2 => match us, ws, h1, h2 with | [_, _, _, _], [], _, _ => .of_eq rfl
theorem sc_choose : FnScope N_choose P_choose (defScope st_choose) := ⟨rfl, rfl, rfl, by decide +kernel, rfl, by decide +kernel, by decide +kernel⟩
theorem kb_choose (t : Tx K mg a) {cdv : Value} {A : Around} {outer : List Env} {s : Shared} {H : Hp} {E : XK} (hr : LD.Room 36 (A.deeper (envOfC "choose" (defScope st_choose) s.heap.objs.size a.f_choose cdv))) :
    KB (cxOf (L2.CX P w) P w K mg base N_choose "choose" (defScope st_choose) a.f_choose cdv A outer s H E) (tb a) (fun c d _ H => E c d H) (defBody st_choose) ψ_choose := by
  have hN := sc_choose.nd
  have h65 := u65 hr
  have h64 := u64 hr
  have h0 := u0 hr
  have h1 := u1 hr
  exact (b_cons (s_asg (Call (ce_element_at_2 t) hr takes_k t.mg_element_at t.kp_element_at (A1 (Vr 0) (A1 (Vr 1) a_nil)) k_nil) (kg_name (i := 3) hN rfl (by first | exact Or.inl rfl | exact Or.inr rfl) (by first | exact Or.inl rfl | exact Or.inr rfl)) (by rfl) (by rfl) (by rfl)) (b_cons (s_if (Tw (t_or (Tq (fun _ => o_is) (Vr 3) d_c_non) (t_or1 (Tq (fun _ => o_ne h64) (Call (ce_kind_of_control_1 t) hr takes_k t.mg_kind_of_control t.kp_kind_of_control (A1 (Vr 3) a_nil) k_nil) d_c_str)))) (b_cons s_retN b_nil) b_nil) (b_cons (s_if (Tq (fun _ => o_inO h65 (ownC (tblC (con_Controls___contains__ t) tblN) hr (by decide))) (Vr 2) (Call (ce_free_options_2 t) hr takes_k t.mg_free_options t.kp_free_options (A1 (Vr 3) (A1 d_c_bl a_nil)) k_nil)) (b_cons (s_expr (Call (ce_set_text_4 t) hr takes_k t.mg_set_text t.kp_set_text (A1 (Vr 0) (A1 (Vr 1) (A1 d_c_str (A1 (Vr 2) a_nil)))) k_nil) (by rfl)) b_nil) b_nil) b_nil)))
theorem ce_choose_3 (t : Tx K mg a) : Callee P w K mg base (tb a) 37 a.f_choose 3 [] φ_choose := by
  obtain ⟨oc, od, kV, doc, pm, an, cdv, ct, osl, l, c, k⟩ := t.fn_choose
  exact callee_of (kfn (fun_mk l c k) sc_choose fun cdv A outer s H E hr => kb_choose t hr) fun _ us ws h1 h2 => match us, ws, h1, h2 with | [_, _, _], [], _, _ => .of_eq rfl
theorem sc__law_attribute : FnScope N__law_attribute P__law_attribute (defScope st__law_attribute) := ⟨rfl, rfl, rfl, by decide +kernel, rfl, by decide +kernel, by decide +kernel⟩
theorem kb__law_attribute (t : Tx K mg a) {cdv : Value} {A : Around} {outer : List Env} {s : Shared} {H : Hp} {E : XK} (hr : LD.Room 0 (A.deeper (envOfC "_law_attribute" (defScope st__law_attribute) s.heap.objs.size a.f__law_attribute cdv))) :
    KB (cxOf (L2.CX P w) P w K mg base N__law_attribute "_law_attribute" (defScope st__law_attribute) a.f__law_attribute cdv A outer s H E) (tb a) (fun c d _ H => E c d H) (defBody st__law_attribute) ψ__law_attribute := by
  have hN := sc__law_attribute.nd
  have h65 := u65 hr
  have h64 := u64 hr
  have h0 := u0 hr
  have h1 := u1 hr
  exact (b_cons (s_for passes_k rfl (ki_of (Ix h1 (Vr 0) d_c_int)) (kg_name (i := 2) hN rfl (by first | exact Or.inl rfl | exact Or.inr rfl) (by first | exact Or.inl rfl | exact Or.inr rfl)) (b_cons (s_if (Tq (fun _ => o_eq h64) (Ix h1 (Vr 2) d_c_int) (Vr 1)) (b_cons (s_ret (Ix h1 (Vr 2) d_c_int)) b_nil) b_nil) b_nil) (fun _ => rfl)) (b_cons (s_ret d_c_non) b_nil))
theorem ce__law_attribute_2 (t : Tx K mg a) : Callee P w K mg base (tb a) 1 a.f__law_attribute 2 [] φ__law_attribute := by
  obtain ⟨oc, od, kV, doc, pm, an, cdv, ct, osl, l, c, k⟩ := t.fn__law_attribute
  exact callee_of (kfn (fun_mk l c k) sc__law_attribute fun cdv A outer s H E hr => kb__law_attribute t hr) fun _ us ws h1 h2 => match us, ws, h1, h2 with | [_, _], [], _, _ => .of_eq rfl
theorem sc__law_kind : FnScope N__law_kind P__law_kind (defScope st__law_kind) := ⟨rfl, rfl, rfl, by decide +kernel, rfl, by decide +kernel, by decide +kernel⟩
theorem kb__law_kind (t : Tx K mg a) {cdv : Value} {A : Around} {outer : List Env} {s : Shared} {H : Hp} {E : XK} (hr : LD.Room 1 (A.deeper (envOfC "_law_kind" (defScope st__law_kind) s.heap.objs.size a.f__law_kind cdv))) :
    KB (cxOf (L2.CX P w) P w K mg base N__law_kind "_law_kind" (defScope st__law_kind) a.f__law_kind cdv A outer s H E) (tb a) (fun c d _ H => E c d H) (defBody st__law_kind) ψ__law_kind := by
  have hN := sc__law_kind.nd
  have h65 := u65 hr
  have h64 := u64 hr
  have h0 := u0 hr
  have h1 := u1 hr
  exact (b_cons (s_if (Tw (t_or (Tq (fun _ => o_ne h64) (Ix h1 (Vr 0) d_c_int) d_c_str) (t_or1 (Tq (fun _ => o_notinO h65 (ownC (tblC (con_Controls___contains__ t) tblN) hr (by decide))) (Ix h1 (Vr 0) d_c_int) (d_lst (mu := false) (A1 d_c_str (A1 d_c_str (A1 d_c_str a_nil)))))))) (b_cons (s_ret d_c_non) b_nil) b_nil) (b_cons (s_if (Tq (fun _ => o_eq h64) (Ix h1 (Vr 0) d_c_int) d_c_str) (b_cons (s_ret d_c_str) b_nil) b_nil) (b_cons (s_ret (d_if (Tw (t_and (Tq (fun _ => o_eq h64) (Ix h1 (Vr 0) d_c_int) d_c_str) (t_and1 (Tq (fun _ => o_eq h64) (Call (ce__law_attribute_2 t) hr takes_k t.mg__law_attribute t.kp__law_attribute (A1 (Vr 0) (A1 d_c_str a_nil)) k_nil) d_c_str)))) d_c_str d_c_str)) b_nil)))
theorem ce__law_kind_1 (t : Tx K mg a) : Callee P w K mg base (tb a) 2 a.f__law_kind 1 [] φ__law_kind := by
  obtain ⟨oc, od, kV, doc, pm, an, cdv, ct, osl, l, c, k⟩ := t.fn__law_kind
  exact callee_of (kfn (fun_mk l c k) sc__law_kind fun cdv A outer s H E hr => kb__law_kind t hr) fun _ us ws h1 h2 => match us, ws, h1, h2 with | [_], [], _, _ => .of_eq rfl
theorem sc__law_shut : FnScope N__law_shut P__law_shut (defScope st__law_shut) := ⟨rfl, rfl, rfl, by decide +kernel, rfl, by decide +kernel, by decide +kernel⟩
theorem kb__law_shut (t : Tx K mg a) {cdv : Value} {A : Around} {outer : List Env} {s : Shared} {H : Hp} {E : XK} (hr : LD.Room 1 (A.deeper (envOfC "_law_shut" (defScope st__law_shut) s.heap.objs.size a.f__law_shut cdv))) :
    KB (cxOf (L2.CX P w) P w K mg base N__law_shut "_law_shut" (defScope st__law_shut) a.f__law_shut cdv A outer s H E) (tb a) (fun c d _ H => E c d H) (defBody st__law_shut) ψ__law_shut := by
  have hN := sc__law_shut.nd
  have h65 := u65 hr
  have h64 := u64 hr
  have h0 := u0 hr
  have h1 := u1 hr
  exact (b_cons (s_for passes_k rfl (ki_of (d_bin (fun _ => o_add) (Vr 1) (d_lst (mu := false) (A1 (Vr 0) a_nil)))) (kg_name (i := 2) hN rfl (by first | exact Or.inl rfl | exact Or.inr rfl) (by first | exact Or.inl rfl | exact Or.inr rfl)) (b_cons (s_if (Tw (t_and (Tq (fun _ => o_eq h64) (Ix h1 (Vr 2) d_c_int) d_c_str) (t_and1 (Tq (fun _ => o_isnot) (Call (ce__law_attribute_2 t) hr takes_k t.mg__law_attribute t.kp__law_attribute (A1 (Vr 2) (A1 d_c_str a_nil)) k_nil) d_c_non)))) (b_cons (s_ret d_c_bl) b_nil) b_nil) b_nil) (fun _ => rfl)) (b_cons (s_ret d_c_bl) b_nil))
theorem ce__law_shut_2 (t : Tx K mg a) : Callee P w K mg base (tb a) 2 a.f__law_shut 2 [] φ__law_shut := by
  obtain ⟨oc, od, kV, doc, pm, an, cdv, ct, osl, l, c, k⟩ := t.fn__law_shut
  exact callee_of (kfn (fun_mk l c k) sc__law_shut fun cdv A outer s H E hr => kb__law_shut t hr) fun _ us ws h1 h2 => match us, ws, h1, h2 with | [_, _], [], _, _ => .of_eq rfl
theorem sc__law_all : FnScope N__law_all P__law_all (defScope st__law_all) := ⟨rfl, rfl, rfl, by decide +kernel, rfl, by decide +kernel, by decide +kernel⟩
theorem kb__law_all (t : Tx K mg a) {m : Nat} {φr : FnD} (ihr : Callee P w K mg base (tb a) (0 + m) a.f__law_all 2 [] φr) {cdv : Value} {A : Around} {outer : List Env} {s : Shared} {H : Hp} {E : XK} (hr : LD.Room (0 + m) (A.deeper (envOfC "_law_all" (defScope st__law_all) s.heap.objs.size a.f__law_all cdv))) :
    KB (cxOf (L2.CX P w) P w K mg base N__law_all "_law_all" (defScope st__law_all) a.f__law_all cdv A outer s H E) (tb a) (fun c d _ H => E c d H) (defBody st__law_all) (ψ__law_all φr) := by
  have hN := sc__law_all.nd
  have h65 := u65 hr
  have h64 := u64 hr
  have h0 := u0 hr
  have h1 := u1 hr
  exact (b_cons (s_asg (d_lst (mu := true) a_nil) (kg_name (i := 2) hN rfl (by first | exact Or.inl rfl | exact Or.inr rfl) (by first | exact Or.inl rfl | exact Or.inr rfl)) (by rfl) (by rfl) (by rfl)) (b_cons (s_for passes_k rfl (ki_of (Vr 0)) (kg_name (i := 3) hN rfl (by first | exact Or.inl rfl | exact Or.inr rfl) (by first | exact Or.inl rfl | exact Or.inr rfl)) (b_cons (s_expr (Append (Vr 2) (A1 (d_tup (A1 (Vr 3) (A1 (Vr 1) a_nil))) a_nil)) (by rfl)) (b_cons (s_if (Tq (fun _ => o_eq h64) (Ix h1 (Vr 3) d_c_int) d_c_str) (b_cons (s_asg (d_bin (fun _ => o_addM) (Vr 2) (Call ihr hr takes_k t.mg__law_all t.kp__law_all (A1 (Ix h1 (Vr 3) d_c_int) (A1 (d_bin (fun _ => o_add) (Vr 1) (d_lst (mu := false) (A1 (Vr 3) a_nil))) a_nil)) k_nil)) (kg_name (i := 2) hN rfl (by first | exact Or.inl rfl | exact Or.inr rfl) (by first | exact Or.inl rfl | exact Or.inr rfl)) (by rfl) (by rfl) (by rfl)) b_nil) b_nil) b_nil)) (fun _ => rfl)) (b_cons (s_ret (Vr 2)) b_nil)))
theorem ce__law_all_2 (t : Tx K mg a) : ∀ m : Nat, Callee P w K mg base (tb a) (0 + m) a.f__law_all 2 [] (φ__law_all m)
  | 0 => callee_bad
  | m + 1 => by
    obtain ⟨oc, od, kV, doc, pm, an, cdv, ct, osl, l, c, k⟩ := t.fn__law_all
    exact callee_of (kfn (fun_mk l c k) sc__law_all fun cdv A outer s H E hr => kb__law_all t (ce__law_all_2 t m) hr) fun _ us ws h1 h2 => match us, ws, h1, h2 with | [_, _], [], _, _ => .of_eq rfl
theorem sc__law_free : FnScope N__law_free P__law_free (defScope st__law_free) := ⟨rfl, rfl, rfl, by decide +kernel, rfl, by decide +kernel, by decide +kernel⟩
theorem kb__law_free (t : Tx K mg a) {cdv : Value} {A : Around} {outer : List Env} {s : Shared} {H : Hp} {E : XK} (hr : LD.Room 30 (A.deeper (envOfC "_law_free" (defScope st__law_free) s.heap.objs.size a.f__law_free cdv))) :
    KB (cxOf (L2.CX P w) P w K mg base N__law_free "_law_free" (defScope st__law_free) a.f__law_free cdv A outer s H E) (tb a) (fun c d _ H => E c d H) (defBody st__law_free) ψ__law_free := by
  have hN := sc__law_free.nd
  have h65 := u65 hr
  have h64 := u64 hr
  have h0 := u0 hr
  have h1 := u1 hr
  exact (b_cons (s_asg (d_lst (mu := true) a_nil) (kg_name (i := 1) hN rfl (by first | exact Or.inl rfl | exact Or.inr rfl) (by first | exact Or.inl rfl | exact Or.inr rfl)) (by rfl) (by rfl) (by rfl)) (b_cons (s_for passes_k rfl (ki_of (Call (ce__law_all_2 t 30) hr takes_k t.mg__law_all t.kp__law_all (A1 (Ix h1 (Vr 0) d_c_int) (A1 (d_lst (mu := false) (A1 (Vr 0) a_nil)) a_nil)) k_nil)) (kg_tup (is := [2, 3]) rfl hN ⟨rfl, (by first | exact Or.inl rfl | exact Or.inr rfl), (by first | exact Or.inl rfl | exact Or.inr rfl), ⟨rfl, (by first | exact Or.inl rfl | exact Or.inr rfl), (by first | exact Or.inl rfl | exact Or.inr rfl), trivial⟩⟩) (b_cons (s_if (Tw (t_and (Tq (fun _ => o_eq h64) (Ix h1 (Vr 2) d_c_int) d_c_str) (t_and (Tq (fun _ => o_eq h64) (Ix h1 (Vr 2) d_c_int) d_c_str) (t_and1 (t_not (Tv (Call (ce__law_shut_2 t) hr takes_k t.mg__law_shut t.kp__law_shut (A1 (Vr 2) (A1 (Vr 3) a_nil)) k_nil))))))) (b_cons (s_asg (Call (ce__law_attribute_2 t) hr takes_k t.mg__law_attribute t.kp__law_attribute (A1 (Vr 2) (A1 d_c_str a_nil)) k_nil) (kg_name (i := 4) hN rfl (by first | exact Or.inl rfl | exact Or.inr rfl) (by first | exact Or.inl rfl | exact Or.inr rfl)) (by rfl) (by rfl) (by rfl)) (b_cons (s_expr (Append (Vr 1) (A1 (d_if (Tq (fun _ => o_is) (Vr 4) d_c_non) d_c_str (Vr 4)) a_nil)) (by rfl)) b_nil)) b_nil) b_nil) (fun _ => rfl)) (b_cons (s_ret (Vr 1)) b_nil)))
theorem ce__law_free_1 (t : Tx K mg a) : Callee P w K mg base (tb a) 31 a.f__law_free 1 [] φ__law_free := by
  obtain ⟨oc, od, kV, doc, pm, an, cdv, ct, osl, l, c, k⟩ := t.fn__law_free
  exact callee_of (kfn (fun_mk l c k) sc__law_free fun cdv A outer s H E hr => kb__law_free t hr) fun _ us ws h1 h2 => match us, ws, h1, h2 with | [_], [], _, _ => .of_eq rfl
theorem sc__law_bound : FnScope N__law_bound P__law_bound (defScope st__law_bound) := ⟨rfl, rfl, rfl, by decide +kernel, rfl, by decide +kernel, by decide +kernel⟩
theorem kb__law_bound (t : Tx K mg a) {cdv : Value} {A : Around} {outer : List Env} {s : Shared} {H : Hp} {E : XK} (hr : LD.Room 2 (A.deeper (envOfC "_law_bound" (defScope st__law_bound) s.heap.objs.size a.f__law_bound cdv))) :
    KB (cxOf (L2.CX P w) P w K mg base N__law_bound "_law_bound" (defScope st__law_bound) a.f__law_bound cdv A outer s H E) (tb a) (fun c d _ H => E c d H) (defBody st__law_bound) ψ__law_bound := by
  have hN := sc__law_bound.nd
  have h65 := u65 hr
  have h64 := u64 hr
  have h0 := u0 hr
  have h1 := u1 hr
  exact (b_cons (s_ret (Call (ce__law_attribute_2 t) hr takes_k t.mg__law_attribute t.kp__law_attribute (A1 (Vr 0) (A1 (d_if (Tq (fun _ => o_eq h64) (Call (ce__law_kind_1 t) hr takes_k t.mg__law_kind t.kp__law_kind (A1 (Vr 0) a_nil) k_nil) d_c_str) d_c_str d_c_str) a_nil)) k_nil)) b_nil)
theorem ce__law_bound_1 (t : Tx K mg a) : Callee P w K mg base (tb a) 3 a.f__law_bound 1 [] φ__law_bound := by
  obtain ⟨oc, od, kV, doc, pm, an, cdv, ct, osl, l, c, k⟩ := t.fn__law_bound
  exact callee_of (kfn (fun_mk l c k) sc__law_bound fun cdv A outer s H E hr => kb__law_bound t hr) fun _ us ws h1 h2 => match us, ws, h1, h2 with | [_], [], _, _ => .of_eq rfl
theorem sc__law_told : FnScope N__law_told P__law_told (defScope st__law_told) := ⟨rfl, rfl, rfl, by decide +kernel, rfl, by decide +kernel, by decide +kernel⟩
theorem kb__law_told (t : Tx K mg a) {cdv : Value} {A : Around} {outer : List Env} {s : Shared} {H : Hp} {E : XK} (hr : LD.Room 2 (A.deeper (envOfC "_law_told" (defScope st__law_told) s.heap.objs.size a.f__law_told cdv))) :
    KB (cxOf (L2.CX P w) P w K mg base N__law_told "_law_told" (defScope st__law_told) a.f__law_told cdv A outer s H E) (tb a) (fun c d _ H => E c d H) (defBody st__law_told) ψ__law_told := by
  have hN := sc__law_told.nd
  have h65 := u65 hr
  have h64 := u64 hr
  have h0 := u0 hr
  have h1 := u1 hr
  exact (b_cons (s_ret (d_comp (own := [("_law_pair", 2)]) (mu := false) rfl hN (blkOk_by (N := N__law_told) (sc := defScope st__law_told) (by decide +kernel)) (by decide) (ki_of (Vr 1)) (fun _ _ _ _ _ => (kg_name (i := 2) hN rfl (by first | exact Or.inl rfl | exact Or.inr rfl) (by first | exact Or.inl rfl | exact Or.inr rfl))) (fun _ _ _ _ _ => kts_nil) (fun _ _ _ _ _ => (d_tup (A1 (Ix h1 (Ix h1 (Vr 2) d_c_int) d_c_int) (A1 (Met (tblC (met_Controls_shown_2 t) tblN) hr takes0 (Fld (tblC (fld_Rehearsal_controls t) tblN) (Vr 0)) (A1 (Ix h1 (Ix h1 (Vr 2) d_c_int) d_c_int) a_nil) k_nil) a_nil)))) (fun _ => rfl))) b_nil)
theorem ce__law_told_2 (t : Tx K mg a) : Callee P w K mg base (tb a) 3 a.f__law_told 2 [] φ__law_told := by
  obtain ⟨oc, od, kV, doc, pm, an, cdv, ct, osl, l, c, k⟩ := t.fn__law_told
  exact callee_of (kfn (fun_mk l c k) sc__law_told fun cdv A outer s H E hr => kb__law_told t hr) fun _ us ws h1 h2 => match us, ws, h1, h2 with | [_, _], [], _, _ => .of_eq rfl
theorem sc_Controls___init__ : FnScope N_Controls___init__ P_Controls___init__ (defScope st_Controls___init__) := ⟨rfl, rfl, rfl, by decide +kernel, rfl, by decide +kernel, by decide +kernel⟩
theorem kb_Controls___init__ (t : Tx K mg a) {cdv : Value} {A : Around} {outer : List Env} {s : Shared} {H : Hp} {E : XK} (hr : LD.Room 0 (A.deeper (envOfC "Controls.__init__" (defScope st_Controls___init__) s.heap.objs.size a.f_Controls___init__ cdv))) :
    KB (cxOf (L2.CX P w) P w K mg base N_Controls___init__ "Controls.__init__" (defScope st_Controls___init__) a.f_Controls___init__ cdv A outer s H E) (tb a) (fun c d _ H => E c d H) (defBody st_Controls___init__) ψ_Controls___init__ := by
  have hN := sc_Controls___init__.nd
  have h65 := u65 hr
  have h64 := u64 hr
  have h0 := u0 hr
  have h1 := u1 hr
  exact (b_cons (s_fld (tblC (fld_Controls_known t) tblN) (d_dic0 (mu := true)) (Vr 0) (by rfl)) b_nil)
theorem ce_Controls___init___1 (t : Tx K mg a) : Callee P w K mg base (tb a) 1 a.f_Controls___init__ 1 [] φ_Controls___init__ := by
  obtain ⟨oc, od, kV, doc, pm, an, cdv, ct, osl, l, c, k⟩ := t.fn_Controls___init__
  exact callee_of (kfn (fun_mk l c k) sc_Controls___init__ fun cdv A outer s H E hr => kb_Controls___init__ t hr) fun _ us ws h1 h2 => match us, ws, h1, h2 with | [_], [], _, _ => .of_eq rfl
theorem sc_Rehearsal___init__ : FnScope N_Rehearsal___init__ P_Rehearsal___init__ (defScope st_Rehearsal___init__) := ⟨rfl, rfl, rfl, by decide +kernel, rfl, by decide +kernel, by decide +kernel⟩
theorem kb_Rehearsal___init__ (t : Tx K mg a) {cdv : Value} {A : Around} {outer : List Env} {s : Shared} {H : Hp} {E : XK} (hr : LD.Room 34 (A.deeper (envOfC "Rehearsal.__init__" (defScope st_Rehearsal___init__) s.heap.objs.size a.f_Rehearsal___init__ cdv))) :
    KB (cxOf (L2.CX P w) P w K mg base N_Rehearsal___init__ "Rehearsal.__init__" (defScope st_Rehearsal___init__) a.f_Rehearsal___init__ cdv A outer s H E) (tb a) (fun c d _ H => E c d H) (defBody st_Rehearsal___init__) ψ_Rehearsal___init__ := by
  have hN := sc_Rehearsal___init__.nd
  have h65 := u65 hr
  have h64 := u64 hr
  have h0 := u0 hr
  have h1 := u1 hr
  exact (b_cons (s_fld (tblC (fld_Rehearsal_document t) tblN) (Vr 1) (Vr 0) (by rfl)) (b_cons (s_fld (tblC (fld_Rehearsal_controls t) tblN) (Mke (tb_Controls a) rfl t.mk_Controls (ce_Controls___init___1 t) hr takes_k t.mg_Controls a_nil k_nil) (Vr 0) (by rfl)) (b_cons (s_expr (Met (tblC (met_Controls_settle_2 t) tblN) hr takes_k (Fld (tblC (fld_Rehearsal_controls t) tblN) (Vr 0)) (A1 (Vr 1) a_nil) k_nil) (by rfl)) (b_cons (s_fld (tblC (fld_Rehearsal_prevented t) tblN) (Bty (fun _ => (c_list (mu := false))) t.no_list (A1 (Vr 2) a_nil)) (Vr 0) (by rfl)) (b_cons (s_fld (tblC (fld_Rehearsal_sent t) tblN) (d_lst (mu := true) a_nil) (Vr 0) (by rfl)) b_nil)))))
theorem ce_Rehearsal___init___2_prevented (t : Tx K mg a) : Callee P w K mg base (tb a) 35 a.f_Rehearsal___init__ 2 ["prevented"] φ_Rehearsal___init__ := by
  obtain ⟨oc, od, doc, pm, an, cdv, ct, osl, l, c, k⟩ := t.fn_Rehearsal___init__
  exact callee_of (kfn (fun_mk l c k) sc_Rehearsal___init__ fun cdv A outer s H E hr => kb_Rehearsal___init__ t hr) fun _ us ws h1 h2 => match us, ws, h1, h2 with | [_, _], [_], _, _ => .of_eq rfl
theorem sc__law_attributes : FnScope N__law_attributes P__law_attributes (defScope st__law_attributes) := ⟨rfl, rfl, rfl, by decide +kernel, rfl, by decide +kernel, by decide +kernel⟩
theorem kb__law_attributes (t : Tx K mg a) {cdv : Value} {A : Around} {outer : List Env} {s : Shared} {H : Hp} {E : XK} (hr : LD.Room 0 (A.deeper (envOfC "_law_attributes" (defScope st__law_attributes) s.heap.objs.size a.f__law_attributes cdv))) :
    KB (cxOf (L2.CX P w) P w K mg base N__law_attributes "_law_attributes" (defScope st__law_attributes) a.f__law_attributes cdv A outer s H E) (tb a) (fun c d _ H => E c d H) (defBody st__law_attributes) ψ__law_attributes := by
  have hN := sc__law_attributes.nd
  have h65 := u65 hr
  have h64 := u64 hr
  have h0 := u0 hr
  have h1 := u1 hr
  exact (b_cons (s_asg (d_lst (mu := false) (A1 d_c_str (A1 d_c_str (A1 d_c_str (A1 d_c_str (A1 d_c_str (A1 d_c_str (A1 d_c_str a_nil)))))))) (kg_name (i := 1) hN rfl (by first | exact Or.inl rfl | exact Or.inr rfl) (by first | exact Or.inl rfl | exact Or.inr rfl)) (by rfl) (by rfl) (by rfl)) (b_cons (s_asg (d_lst (mu := false) (A1 d_c_str (A1 d_c_str (A1 d_c_str (A1 d_c_str (A1 d_c_str (A1 d_c_str (A1 d_c_str a_nil)))))))) (kg_name (i := 2) hN rfl (by first | exact Or.inl rfl | exact Or.inr rfl) (by first | exact Or.inl rfl | exact Or.inr rfl)) (by rfl) (by rfl) (by rfl)) (b_cons (s_asg (d_lst (mu := true) a_nil) (kg_name (i := 3) hN rfl (by first | exact Or.inl rfl | exact Or.inr rfl) (by first | exact Or.inl rfl | exact Or.inr rfl)) (by rfl) (by rfl) (by rfl)) (b_cons (s_for passes_k rfl (ki_range1 (by rfl) t.no_range (A1 d_c_int a_nil) (by rfl)) (kg_name (i := 4) hN rfl (by first | exact Or.inl rfl | exact Or.inr rfl) (by first | exact Or.inl rfl | exact Or.inr rfl)) (b_cons (s_if (Tq (fun _ => o_eq h64) (d_bin (fun _ => o_mod) (Bty (fun _ => c_int) t.no_int (A1 (d_bin (fun _ => o_fdiv) (Vr 0) (Ix h1 (d_lst (mu := false) (A1 d_c_int (A1 d_c_int (A1 d_c_int (A1 d_c_int (A1 d_c_int (A1 d_c_int (A1 d_c_int a_nil)))))))) (Vr 4))) a_nil)) d_c_int) d_c_int) (b_cons (s_expr (Append (Vr 3) (A1 (d_tup (A1 (Ix h1 (Vr 1) (Vr 4)) (A1 (Ix h1 (Vr 2) (d_bin (fun _ => o_mod) (Bty (fun _ => c_int) t.no_int (A1 (d_bin (fun _ => o_fdiv) (Vr 0) (d_bin (fun _ => o_add) d_c_int (d_bin (fun _ => o_mul) d_c_int (Vr 4)))) a_nil)) d_c_int)) a_nil))) a_nil)) (by rfl)) b_nil) b_nil) b_nil) (fun _ => rfl)) (b_cons (s_ret (Bty (fun _ => c_tuple) t.no_tuple (A1 (Vr 3) a_nil))) b_nil)))))
theorem ce__law_attributes_1 (t : Tx K mg a) : Callee P w K mg base (tb a) 1 a.f__law_attributes 1 [] φ__law_attributes := by
  obtain ⟨oc, od, kV, doc, pm, an, cdv, ct, osl, l, c, k⟩ := t.fn__law_attributes
  exact callee_of (kfn (fun_mk l c k) sc__law_attributes fun cdv A outer s H E hr => kb__law_attributes t hr) fun _ us ws h1 h2 => match us, ws, h1, h2 with | [_], [], _, _ => .of_eq rfl
theorem sc__law_nodes : FnScope N__law_nodes P__law_nodes (defScope st__law_nodes) := ⟨rfl, rfl, rfl, by decide +kernel, rfl, by decide +kernel, by decide +kernel⟩
theorem kb__law_nodes (t : Tx K mg a) {m : Nat} {φr : FnD} (ihr : Callee P w K mg base (tb a) (2 + m) a.f__law_nodes 3 [] φr) {cdv : Value} {A : Around} {outer : List Env} {s : Shared} {H : Hp} {E : XK} (hr : LD.Room (2 + m) (A.deeper (envOfC "_law_nodes" (defScope st__law_nodes) s.heap.objs.size a.f__law_nodes cdv))) :
    KB (cxOf (L2.CX P w) P w K mg base N__law_nodes "_law_nodes" (defScope st__law_nodes) a.f__law_nodes cdv A outer s H E) (tb a) (fun c d _ H => E c d H) (defBody st__law_nodes) (ψ__law_nodes φr) := by
  have hN := sc__law_nodes.nd
  have h65 := u65 hr
  have h64 := u64 hr
  have h0 := u0 hr
  have h1 := u1 hr
  exact (b_cons (s_asg (d_lst (mu := true) a_nil) (kg_name (i := 3) hN rfl (by first | exact Or.inl rfl | exact Or.inr rfl) (by first | exact Or.inl rfl | exact Or.inr rfl)) (by rfl) (by rfl) (by rfl)) (b_cons (s_for passes_k rfl (ki_range1 (by rfl) t.no_range (A1 (d_bin (fun _ => o_add) d_c_int (d_bin (fun _ => o_mod) (Bty (fun _ => c_int) t.no_int (A1 (Ix h1 (Vr 0) (d_bin (fun _ => o_mod) (Ix h1 (Vr 1) d_c_str) (Blt (fun _ => c_lenO (tblC (len_Controls___len__ t) tblN) hr) t.no_len (A1 (Vr 0) a_nil)))) a_nil)) d_c_int)) a_nil) (by rfl)) (kg_name (i := 4) hN rfl (by first | exact Or.inl rfl | exact Or.inr rfl) (by first | exact Or.inl rfl | exact Or.inr rfl)) (b_cons (s_asg (d_bin (fun _ => o_fdiv) (Ix h1 (Vr 0) (d_bin (fun _ => o_mod) (Ix h1 (Vr 1) d_c_str) (Blt (fun _ => c_lenO (tblC (len_Controls___len__ t) tblN) hr) t.no_len (A1 (Vr 0) a_nil)))) d_c_int) (kg_name (i := 5) hN rfl (by first | exact Or.inl rfl | exact Or.inr rfl) (by first | exact Or.inl rfl | exact Or.inr rfl)) (by rfl) (by rfl) (by rfl)) (b_cons (s_sub h1 (d_bin (fun _ => o_add) (Ix h1 (Vr 1) d_c_str) d_c_int) (Vr 1) d_c_str (by rfl) (by rfl) (by rfl) (fun _ => rfl)) (b_cons (s_if (Tq (fun _ => o_le) (Ix h1 (Vr 1) d_c_str) d_c_int) (b_cons s_break b_nil) b_nil) (b_cons (s_sub h1 (d_bin (fun _ => o_sub) (Ix h1 (Vr 1) d_c_str) d_c_int) (Vr 1) d_c_str (by rfl) (by rfl) (by rfl) (fun _ => rfl)) (b_cons (s_asg (Ix h1 (Ix h1 (Vr 1) d_c_str) (Ix h1 (Vr 1) d_c_str)) (kg_name (i := 6) hN rfl (by first | exact Or.inl rfl | exact Or.inr rfl) (by first | exact Or.inl rfl | exact Or.inr rfl)) (by rfl) (by rfl) (by rfl)) (b_cons (s_if (Tq (fun _ => o_eq h64) (d_bin (fun _ => o_mod) (Vr 5) d_c_int) d_c_int) (b_cons (s_expr (Append (Vr 3) (A1 (d_tup (A1 d_c_str (A1 (Vr 6) (A1 (d_bin (fun _ => o_add) d_c_str (Bty (fun _ => c_str) t.no_str (A1 (d_bin (fun _ => o_mod) (Bty (fun _ => c_int) t.no_int (A1 (d_bin (fun _ => o_fdiv) (Vr 5) d_c_int) a_nil)) d_c_int) a_nil))) a_nil)))) a_nil)) (by rfl)) b_nil) (b_cons (s_asg (Ix h1 (d_lst (mu := false) (A1 d_c_str (A1 d_c_str (A1 d_c_str (A1 d_c_str (A1 d_c_str (A1 d_c_str (A1 d_c_str (A1 d_c_str a_nil))))))))) (d_bin (fun _ => o_mod) (Bty (fun _ => c_int) t.no_int (A1 (d_bin (fun _ => o_fdiv) (Vr 5) d_c_int) a_nil)) d_c_int)) (kg_name (i := 7) hN rfl (by first | exact Or.inl rfl | exact Or.inr rfl) (by first | exact Or.inl rfl | exact Or.inr rfl)) (by rfl) (by rfl) (by rfl)) (b_cons (s_asg (d_tup a_nil) (kg_name (i := 8) hN rfl (by first | exact Or.inl rfl | exact Or.inr rfl) (by first | exact Or.inl rfl | exact Or.inr rfl)) (by rfl) (by rfl) (by rfl)) (b_cons (s_if (Tw (t_and (Tq (fun _ => o_lt h0) (Vr 2) d_c_int) (t_and1 (Tq (fun _ => o_gt) (d_bin (fun _ => o_mod) (d_bin (fun _ => o_fdiv) (Vr 5) d_c_int) d_c_int) d_c_int)))) (b_cons (s_asg (Call ihr hr takes_k t.mg__law_nodes t.kp__law_nodes (A1 (Vr 0) (A1 (Vr 1) (A1 (d_bin (fun _ => o_add) (Vr 2) d_c_int) a_nil))) k_nil) (kg_name (i := 8) hN rfl (by first | exact Or.inl rfl | exact Or.inr rfl) (by first | exact Or.inl rfl | exact Or.inr rfl)) (by rfl) (by rfl) (by rfl)) b_nil) b_nil) (b_cons (s_expr (Append (Vr 3) (A1 (d_tup (A1 d_c_str (A1 (Vr 6) (A1 (Vr 7) (A1 (Call (ce__law_attributes_1 t) hr takes_k t.mg__law_attributes t.kp__law_attributes (A1 (Bty (fun _ => c_int) t.no_int (A1 (d_bin (fun _ => o_fdiv) (Vr 5) d_c_int) a_nil)) a_nil) k_nil) (A1 (Vr 8) a_nil)))))) a_nil)) (by rfl)) b_nil))))) b_nil)))))) (fun _ => rfl)) (b_cons (s_ret (Bty (fun _ => c_tuple) t.no_tuple (A1 (Vr 3) a_nil))) b_nil)))
theorem ce__law_nodes_3 (t : Tx K mg a) : ∀ m : Nat, Callee P w K mg base (tb a) (2 + m) a.f__law_nodes 3 [] (φ__law_nodes m)
  | 0 => callee_bad
  | m + 1 => by
    obtain ⟨oc, od, kV, doc, pm, an, cdv, ct, osl, l, c, k⟩ := t.fn__law_nodes
    exact callee_of (kfn (fun_mk l c k) sc__law_nodes fun cdv A outer s H E hr => kb__law_nodes t (ce__law_nodes_3 t m) hr) fun _ us ws h1 h2 => match us, ws, h1, h2 with | [_, _, _], [], _, _ => .of_eq rfl
theorem sc__law_document : FnScope N__law_document P__law_document (defScope st__law_document) := ⟨rfl, rfl, rfl, by decide +kernel, rfl, by decide +kernel, by decide +kernel⟩
theorem kb__law_document (t : Tx K mg a) {cdv : Value} {A : Around} {outer : List Env} {s : Shared} {H : Hp} {E : XK} (hr : LD.Room 12 (A.deeper (envOfC "_law_document" (defScope st__law_document) s.heap.objs.size a.f__law_document cdv))) :
    KB (cxOf (L2.CX P w) P w K mg base N__law_document "_law_document" (defScope st__law_document) a.f__law_document cdv A outer s H E) (tb a) (fun c d _ H => E c d H) (defBody st__law_document) ψ__law_document := by
  have hN := sc__law_document.nd
  have h65 := u65 hr
  have h64 := u64 hr
  have h0 := u0 hr
  have h1 := u1 hr
  exact (b_cons (s_asg (d_lst (mu := true) a_nil) (kg_name (i := 3) hN rfl (by first | exact Or.inl rfl | exact Or.inr rfl) (by first | exact Or.inl rfl | exact Or.inr rfl)) (by rfl) (by rfl) (by rfl)) (b_cons (s_for passes_k rfl (ki_range1 (by rfl) t.no_range (A1 (Vr 2) a_nil) (by rfl)) (kg_name (i := 4) hN rfl (by first | exact Or.inl rfl | exact Or.inr rfl) (by first | exact Or.inl rfl | exact Or.inr rfl)) (b_cons (s_expr (Insert (Vr 3) (A1 (d_bin (fun _ => o_mod) (Bty (fun _ => c_int) t.no_int (A1 (d_bin (fun _ => o_fdiv) (Ix h1 (Vr 0) (d_bin (fun _ => o_mod) (d_bin (fun _ => o_add) (Vr 1) (Vr 4)) (Blt (fun _ => c_lenO (tblC (len_Controls___len__ t) tblN) hr) t.no_len (A1 (Vr 0) a_nil)))) d_c_int) a_nil)) (d_bin (fun _ => o_add) (Blt (fun _ => c_lenO (tblC (len_Controls___len__ t) tblN) hr) t.no_len (A1 (Vr 3) a_nil)) d_c_int)) (A1 (d_bin (fun _ => o_add) (Vr 4) d_c_int) a_nil))) (by rfl)) b_nil) (fun _ => rfl)) (b_cons (s_ret (Call (ce__law_nodes_3 t 10) hr takes_k t.mg__law_nodes t.kp__law_nodes (A1 (Vr 0) (A1 (d_disp (kd_cons (k := Sum.inr "at") d_c_str (Vr 1) (kd_cons (k := Sum.inr "left") d_c_str (Vr 2) (kd_cons (k := Sum.inr "ids") d_c_str (Vr 3) kd_nil))) (by decide) (by rfl) (by rfl) (by decide) (by decide)) (A1 d_c_int a_nil))) k_nil)) b_nil)))
theorem ce__law_document_3 (t : Tx K mg a) : Callee P w K mg base (tb a) 13 a.f__law_document 3 [] φ__law_document := by
  obtain ⟨oc, od, kV, doc, pm, an, cdv, ct, osl, l, c, k⟩ := t.fn__law_document
  exact callee_of (kfn (fun_mk l c k) sc__law_document fun cdv A outer s H E hr => kb__law_document t hr) fun _ us ws h1 h2 => match us, ws, h1, h2 with | [_, _, _], [], _, _ => .of_eq rfl
theorem sc__law_rows : FnScope N__law_rows P__law_rows (defScope st__law_rows) := ⟨rfl, rfl, rfl, by decide +kernel, rfl, by decide +kernel, by decide +kernel⟩
theorem kb__law_rows (t : Tx K mg a) {cdv : Value} {A : Around} {outer : List Env} {s : Shared} {H : Hp} {E : XK} (hr : LD.Room 2 (A.deeper (envOfC "_law_rows" (defScope st__law_rows) s.heap.objs.size a.f__law_rows cdv))) :
    KB (cxOf (L2.CX P w) P w K mg base N__law_rows "_law_rows" (defScope st__law_rows) a.f__law_rows cdv A outer s H E) (tb a) (fun c d _ H => E c d H) (defBody st__law_rows) ψ__law_rows := by
  have hN := sc__law_rows.nd
  have h65 := u65 hr
  have h64 := u64 hr
  have h0 := u0 hr
  have h1 := u1 hr
  exact (b_cons (s_asg (d_lst (mu := true) a_nil) (kg_name (i := 2) hN rfl (by first | exact Or.inl rfl | exact Or.inr rfl) (by first | exact Or.inl rfl | exact Or.inr rfl)) (by rfl) (by rfl) (by rfl)) (b_cons (s_for passes_k rfl (ki_range1 (by rfl) t.no_range (A1 (Vr 1) a_nil) (by rfl)) (kg_name (i := 3) hN rfl (by first | exact Or.inl rfl | exact Or.inr rfl) (by first | exact Or.inl rfl | exact Or.inr rfl)) (b_cons (s_asg d_c_int (kg_name (i := 4) hN rfl (by first | exact Or.inl rfl | exact Or.inr rfl) (by first | exact Or.inl rfl | exact Or.inr rfl)) (by rfl) (by rfl) (by rfl)) (b_cons (s_if (Tq (fun _ => o_gt) (Blt (fun _ => c_lenO (tblC (len_Controls___len__ t) tblN) hr) t.no_len (A1 (Vr 0) a_nil)) d_c_int) (b_cons (s_asg (Bty (fun _ => c_int) t.no_int (A1 (Ix h1 (Vr 0) (d_bin (fun _ => o_mod) (Bty (fun _ => c_int) t.no_int (A1 (Vr 3) a_nil)) (Blt (fun _ => c_lenO (tblC (len_Controls___len__ t) tblN) hr) t.no_len (A1 (Vr 0) a_nil)))) a_nil)) (kg_name (i := 4) hN rfl (by first | exact Or.inl rfl | exact Or.inr rfl) (by first | exact Or.inl rfl | exact Or.inr rfl)) (by rfl) (by rfl) (by rfl)) b_nil) b_nil) (b_cons (s_if (Tq (fun _ => o_lt h0) (Vr 4) d_c_int) (b_cons (s_asg (d_bin (fun _ => o_sub) d_c_int (d_bin (fun _ => o_mul) d_c_int (Vr 4))) (kg_name (i := 4) hN rfl (by first | exact Or.inl rfl | exact Or.inr rfl) (by first | exact Or.inl rfl | exact Or.inr rfl)) (by rfl) (by rfl) (by rfl)) b_nil) b_nil) (b_cons (s_if (Tw (t_or (Tq (fun _ => o_ge) (Vr 3) (Blt (fun _ => c_lenO (tblC (len_Controls___len__ t) tblN) hr) t.no_len (A1 (Vr 0) a_nil))) (t_or1 (Tq (fun _ => o_lt h0) (Vr 4) d_c_int)))) (b_cons (s_asg (d_bin (fun _ => o_mod) (Bty (fun _ => c_int) t.no_int (A1 (d_bin (fun _ => o_add) (d_bin (fun _ => o_mul) (d_bin (fun _ => o_add) (d_bin (fun _ => o_add) (Vr 4) (d_bin (fun _ => o_mul) d_c_int (Vr 3))) d_c_int) d_c_int) (d_bin (fun _ => o_mul) (d_bin (fun _ => o_mul) (Vr 3) (Vr 3)) d_c_int)) a_nil)) d_c_int) (kg_name (i := 4) hN rfl (by first | exact Or.inl rfl | exact Or.inr rfl) (by first | exact Or.inl rfl | exact Or.inr rfl)) (by rfl) (by rfl) (by rfl)) (b_cons (s_asg (d_bin (fun _ => o_mod) (Bty (fun _ => c_int) t.no_int (A1 (d_bin (fun _ => o_mul) (d_bin (fun _ => o_add) (d_bin (fun _ => o_add) (Vr 4) (d_bin (fun _ => o_mul) d_c_int (Vr 3))) d_c_int) d_c_int) a_nil)) d_c_int) (kg_name (i := 4) hN rfl (by first | exact Or.inl rfl | exact Or.inr rfl) (by first | exact Or.inl rfl | exact Or.inr rfl)) (by rfl) (by rfl) (by rfl)) b_nil)) b_nil) (b_cons (s_expr (Append (Vr 2) (A1 (Vr 4) a_nil)) (by rfl)) b_nil))))) (fun _ => rfl)) (b_cons (s_ret (Vr 2)) b_nil)))
theorem ce__law_rows_2 (t : Tx K mg a) : Callee P w K mg base (tb a) 3 a.f__law_rows 2 [] φ__law_rows := by
  obtain ⟨oc, od, kV, doc, pm, an, cdv, ct, osl, l, c, k⟩ := t.fn__law_rows
  exact callee_of (kfn (fun_mk l c k) sc__law_rows fun cdv A outer s H E hr => kb__law_rows t hr) fun _ us ws h1 h2 => match us, ws, h1, h2 with | [_, _], [], _, _ => .of_eq rfl
theorem sc_law : FnScope N_law P_law (defScope st_law) := ⟨rfl, rfl, rfl, by decide +kernel, rfl, by decide +kernel, by decide +kernel⟩
theorem kb_law (t : Tx K mg a) {cdv : Value} {A : Around} {outer : List Env} {s : Shared} {H : Hp} {E : XK} (hr : LD.Room 37 (A.deeper (envOfC "law" (defScope st_law) s.heap.objs.size a.f_law cdv))) :
    KB (cxOf (L2.CX P w) P w K mg base N_law "law" (defScope st_law) a.f_law cdv A outer s H E) (tb a) (fun c d _ H => E c d H) (defBody st_law) ψ_law := by
  have hN := sc_law.nd
  have h65 := u65 hr
  have h64 := u64 hr
  have h0 := u0 hr
  have h1 := u1 hr
  exact (b_cons (s_asg (Call (ce__law_rows_2 t) hr takes_k t.mg__law_rows t.kp__law_rows (A1 (Vr 0) (A1 d_c_int a_nil)) k_nil) (kg_name (i := 1) hN rfl (by first | exact Or.inl rfl | exact Or.inr rfl) (by first | exact Or.inl rfl | exact Or.inr rfl)) (by rfl) (by rfl) (by rfl)) (b_cons (s_asg (Call (ce__law_document_3 t) hr takes_k t.mg__law_document t.kp__law_document (A1 (Vr 1) (A1 d_c_int (A1 (d_bin (fun _ => o_add) d_c_int (d_bin (fun _ => o_mod) (Bty (fun _ => c_int) t.no_int (A1 (Ix h1 (Vr 1) d_c_int) a_nil)) d_c_int)) a_nil))) k_nil) (kg_name (i := 2) hN rfl (by first | exact Or.inl rfl | exact Or.inr rfl) (by first | exact Or.inl rfl | exact Or.inr rfl)) (by rfl) (by rfl) (by rfl)) (b_cons (s_asg (Mke (tb_Rehearsal a) rfl t.mk_Rehearsal (ce_Rehearsal___init___2_prevented t) hr takes_k t.mg_Rehearsal (A1 (Vr 2) a_nil) (k_cons (d_lst (mu := false) (A1 d_c_str (A1 d_c_str (A1 d_c_str a_nil)))) k_nil)) (kg_name (i := 3) hN rfl (by first | exact Or.inl rfl | exact Or.inr rfl) (by first | exact Or.inl rfl | exact Or.inr rfl)) (by rfl) (by rfl) (by rfl)) (b_cons (s_asg (Call (ce__law_all_2 t 30) hr takes_k t.mg__law_all t.kp__law_all (A1 (Vr 2) (A1 (d_lst (mu := false) a_nil) a_nil)) k_nil) (kg_name (i := 4) hN rfl (by first | exact Or.inl rfl | exact Or.inr rfl) (by first | exact Or.inl rfl | exact Or.inr rfl)) (by rfl) (by rfl) (by rfl)) (b_cons (s_for passes_k rfl (ki_range1 (by rfl) t.no_range (A1 (d_bin (fun _ => o_mul) d_c_int (Blt (fun _ => c_lenO (tblC (len_Controls___len__ t) tblN) hr) t.no_len (A1 (Vr 4) a_nil))) a_nil) (by rfl)) (kg_name (i := 5) hN rfl (by first | exact Or.inl rfl | exact Or.inr rfl) (by first | exact Or.inl rfl | exact Or.inr rfl)) (b_cons (s_asg (Ix h1 (Vr 4) (d_bin (fun _ => o_mod) (d_bin (fun _ => o_add) (Vr 5) (Bty (fun _ => c_int) t.no_int (A1 (Ix h1 (Vr 1) d_c_int) a_nil))) (Blt (fun _ => c_lenO (tblC (len_Controls___len__ t) tblN) hr) t.no_len (A1 (Vr 4) a_nil)))) (kg_tup (is := [6, 7]) rfl hN ⟨rfl, (by first | exact Or.inl rfl | exact Or.inr rfl), (by first | exact Or.inl rfl | exact Or.inr rfl), ⟨rfl, (by first | exact Or.inl rfl | exact Or.inr rfl), (by first | exact Or.inl rfl | exact Or.inr rfl), trivial⟩⟩) (by rfl) (by rfl) (by rfl)) (b_cons (s_asg (Ix h1 (d_lst (mu := false) (A1 d_c_str (A1 d_c_str (A1 d_c_str (A1 d_c_str (A1 d_c_str (A1 d_c_str a_nil))))))) (d_bin (fun _ => o_mod) (Bty (fun _ => c_int) t.no_int (A1 (Ix h1 (Vr 1) (d_bin (fun _ => o_add) (d_bin (fun _ => o_mod) (Vr 5) d_c_int) d_c_int)) a_nil)) d_c_int)) (kg_name (i := 8) hN rfl (by first | exact Or.inl rfl | exact Or.inr rfl) (by first | exact Or.inl rfl | exact Or.inr rfl)) (by rfl) (by rfl) (by rfl)) (b_cons (s_asg (Call (ce__law_told_2 t) hr takes_k t.mg__law_told t.kp__law_told (A1 (Vr 3) (A1 (Vr 4) a_nil)) k_nil) (kg_name (i := 9) hN rfl (by first | exact Or.inl rfl | exact Or.inr rfl) (by first | exact Or.inl rfl | exact Or.inr rfl)) (by rfl) (by rfl) (by rfl)) (b_cons (s_asg (Blt (fun _ => c_lenO (tblC (len_Controls___len__ t) tblN) hr) t.no_len (A1 (Fld (tblC (fld_Rehearsal_sent t) tblN) (Vr 3)) a_nil)) (kg_name (i := 10) hN rfl (by first | exact Or.inl rfl | exact Or.inr rfl) (by first | exact Or.inl rfl | exact Or.inr rfl)) (by rfl) (by rfl) (by rfl)) (b_cons (s_expr (Call (ce_choose_3 t) hr takes_k t.mg_choose t.kp_choose (A1 (Vr 3) (A1 (Ix h1 (Vr 6) d_c_int) (A1 (Vr 8) a_nil))) k_nil) (by rfl)) (b_cons (s_asg (d_lst (mu := false) a_nil) (kg_name (i := 11) hN rfl (by first | exact Or.inl rfl | exact Or.inr rfl) (by first | exact Or.inl rfl | exact Or.inr rfl)) (by rfl) (by rfl) (by rfl)) (b_cons (s_asg (Met (tblC (met_Controls_shown_2 t) tblN) hr takes_k (Fld (tblC (fld_Rehearsal_controls t) tblN) (Vr 3)) (A1 (Ix h1 (Vr 6) d_c_int) a_nil) k_nil) (kg_name (i := 12) hN rfl (by first | exact Or.inl rfl | exact Or.inr rfl) (by first | exact Or.inl rfl | exact Or.inr rfl)) (by rfl) (by rfl) (by rfl)) (b_cons (s_if (Tw (t_and (Tq (fun _ => o_eq h64) (Call (ce__law_kind_1 t) hr takes_k t.mg__law_kind t.kp__law_kind (A1 (Vr 6) a_nil) k_nil) d_c_str) (t_and (t_not (Tv (Call (ce__law_shut_2 t) hr takes_k t.mg__law_shut t.kp__law_shut (A1 (Vr 6) (A1 (Vr 7) a_nil)) k_nil))) (t_and1 (Tq (fun _ => o_inO h65 (ownC (tblC (con_Controls___contains__ t) tblN) hr (by decide))) (Vr 8) (Call (ce__law_free_1 t) hr takes_k t.mg__law_free t.kp__law_free (A1 (Vr 6) a_nil) k_nil)))))) (b_cons (s_asg (Ix h1 (d_comp (own := [("_law_pair", 14)]) (mu := false) rfl hN (blkOk_by (N := N_law) (sc := defScope st_law) (by decide +kernel)) (by decide) (ki_of (Vr 9)) (fun _ _ _ _ _ => (kg_name (i := 14) hN rfl (by first | exact Or.inl rfl | exact Or.inr rfl) (by first | exact Or.inl rfl | exact Or.inr rfl))) (fun _ _ _ _ _ => (kts_one (Tq (fun _ => o_eq h64) (Ix h1 (Vr 14) d_c_int) (Ix h1 (Vr 6) d_c_int)))) (fun _ _ _ _ _ => (Ix h1 (Vr 14) d_c_int)) (fun _ => rfl)) d_c_int) (kg_name (i := 13) hN rfl (by first | exact Or.inl rfl | exact Or.inr rfl) (by first | exact Or.inl rfl | exact Or.inr rfl)) (by rfl) (by rfl) (by rfl)) (b_cons (s_asg (d_if (Tq (fun _ => o_is) (Call (ce__law_bound_1 t) hr takes_k t.mg__law_bound t.kp__law_bound (A1 (Vr 6) a_nil) k_nil) d_c_non) (Vr 8) (Call (ce__law_bound_1 t) hr takes_k t.mg__law_bound t.kp__law_bound (A1 (Vr 6) a_nil) k_nil)) (kg_name (i := 12) hN rfl (by first | exact Or.inl rfl | exact Or.inr rfl) (by first | exact Or.inl rfl | exact Or.inr rfl)) (by rfl) (by rfl) (by rfl)) (b_cons (s_if (Tq (fun _ => o_ne h64) (Vr 13) (Vr 8)) (b_cons (s_asg (d_lst (mu := false) (A1 (d_tup (A1 (Ix h1 (Vr 6) d_c_int) (A1 d_c_str (A1 (d_dic0 (mu := true)) a_nil)))) (A1 (d_tup (A1 (Ix h1 (Vr 6) d_c_int) (A1 d_c_str (A1 (d_dic0 (mu := true)) a_nil)))) a_nil))) (kg_name (i := 11) hN rfl (by first | exact Or.inl rfl | exact Or.inr rfl) (by first | exact Or.inl rfl | exact Or.inr rfl)) (by rfl) (by rfl) (by rfl)) b_nil) b_nil) b_nil))) b_nil) (b_cons (s_if (Tw (t_or (Tq (fun _ => o_neQ h64) (d_slice (mu := false) (Fld (tblC (fld_Rehearsal_sent t) tblN) (Vr 3)) (ko_some (Vr 10)) ko_none) (Vr 11)) (t_or1 (Tq (fun _ => o_neQ h64) (Met (tblC (met_Controls_shown_2 t) tblN) hr takes_k (Fld (tblC (fld_Rehearsal_controls t) tblN) (Vr 3)) (A1 (Ix h1 (Vr 6) d_c_int) a_nil) k_nil) (Vr 12))))) (b_cons (s_ret d_c_bl) b_nil) b_nil) (b_cons (s_for passes_k rfl (ki_of (Vr 9)) (kg_tup (is := [15, 16]) rfl hN ⟨rfl, (by first | exact Or.inl rfl | exact Or.inr rfl), (by first | exact Or.inl rfl | exact Or.inr rfl), ⟨rfl, (by first | exact Or.inl rfl | exact Or.inr rfl), (by first | exact Or.inl rfl | exact Or.inr rfl), trivial⟩⟩) (b_cons (s_if (Tw (t_and (Tq (fun _ => o_ne h64) (Vr 15) (Ix h1 (Vr 6) d_c_int)) (t_and1 (Tq (fun _ => o_ne h64) (Met (tblC (met_Controls_shown_2 t) tblN) hr takes_k (Fld (tblC (fld_Rehearsal_controls t) tblN) (Vr 3)) (A1 (Vr 15) a_nil) k_nil) (Vr 16))))) (b_cons (s_ret d_c_bl) b_nil) b_nil) (b_cons (s_if (Tw (t_and (Tq (fun _ => o_eqQ h64) (Vr 15) (Ix h1 (Vr 6) d_c_int)) (t_and (Tq (fun _ => o_eqQ h64) (Vr 11) (d_lst (mu := false) a_nil)) (t_and1 (Tq (fun _ => o_neQ h64) (Met (tblC (met_Controls_shown_2 t) tblN) hr takes_k (Fld (tblC (fld_Rehearsal_controls t) tblN) (Vr 3)) (A1 (Vr 15) a_nil) k_nil) (Vr 16)))))) (b_cons (s_ret d_c_bl) b_nil) b_nil) b_nil)) (fun _ => rfl)) b_nil)))))))))) (fun _ => rfl)) (b_cons (s_asg (Blt (fun _ => c_lenO (tblC (len_Controls___len__ t) tblN) hr) t.no_len (A1 (Fld (tblC (fld_Rehearsal_sent t) tblN) (Vr 3)) a_nil)) (kg_name (i := 10) hN rfl (by first | exact Or.inl rfl | exact Or.inr rfl) (by first | exact Or.inl rfl | exact Or.inr rfl)) (by rfl) (by rfl) (by rfl)) (b_cons (s_expr (Call (ce_choose_3 t) hr takes_k t.mg_choose t.kp_choose (A1 (Vr 3) (A1 d_c_int (A1 d_c_str a_nil))) k_nil) (by rfl)) (b_cons (s_ret (Cq (fun _ => o_eq h64) (Blt (fun _ => c_lenO (tblC (len_Controls___len__ t) tblN) hr) t.no_len (A1 (Fld (tblC (fld_Rehearsal_sent t) tblN) (Vr 3)) a_nil)) (Vr 10))) b_nil))))))))
theorem ok_law (t : Tx K mg a) : ∃ fd : FuncData, (∀ (s : Shared) (v : Value), BindsTo s fd ⟨[v], []⟩ [("_law_script", v)]) ∧ ∀ base : Heap, FnX P w K mg base (tb a) 38 a.f_law fd P_law φ_law := by
  obtain ⟨oc, od, kV, doc, pm, an, cdv, ct, osl, l, c, k⟩ := t.fn_law
  exact ⟨_, fun s v => .of_eq rfl, fun base => kfn (fun_mk l c k) sc_law fun cdv A outer s H E hr => kb_law t hr⟩
end
end K65
namespace K65
open PySem PySem.Spec PyProof.Rows L2 LD
theorem big : 100000 ≤ LINE := by decide
theorem le7 : (7 ≤ LINE) = True := eq_true (by decide)
theorem le8 : (8 ≤ LINE) = True := eq_true (by decide)
/-! ### documents -/
inductive Nd where
  | txt (n : Int) (x : Str)
  | el (n : Int) (tag : Str) (ats : List (Str × Str)) (kids : List Nd)
abbrev prS (p : Str × Str) : D := .tup [.str p.1, .str p.2]
mutual
def ndD : Nd → D
  | .txt n x => .tup [.str "text", .int n, .str x]
  | .el n tag ats kids => .tup [.str "element", .int n, .str tag, .tup (ats.map prS), .tup (ndsD kids)]
def ndsD : List Nd → List D
  | [] => []
  | a :: r => ndD a :: ndsD r
end
theorem ndsD_map : ∀ l : List Nd, ndsD l = l.map ndD
  | [] => by rw [ndsD, List.map_nil]
  | a :: r => by rw [ndsD, List.map_cons, ndsD_map r]
def num : Nd → Int
  | .txt n _ => n
  | .el n _ _ _ => n
def isEl : Nd → Bool
  | .txt _ _ => false
  | .el _ _ _ _ => true
mutual
def wayN : Nd → Int → List Nd
  | .txt n x, k => if n = k then [.txt n x] else []
  | .el n tag ats kids, k => if n = k then [.el n tag ats kids] else if wayL kids k = [] then [] else .el n tag ats kids :: wayL kids k
def wayL : List Nd → Int → List Nd
  | [], _ => []
  | a :: r, k => if wayN a k = [] then wayL r k else wayN a k
end
mutual
def allN : Nd → List Nd → List (Nd × List Nd)
  | .txt n x, pre => [(.txt n x, pre)]
  | .el n tag ats kids, pre => (.el n tag ats kids, pre) :: allL kids (pre ++ [.el n tag ats kids])
def allL : List Nd → List Nd → List (Nd × List Nd)
  | [], _ => []
  | a :: r, pre => allN a pre ++ allL r pre
end
mutual
def numsN : Nd → List Int
  | .txt n _ => [n]
  | .el n _ _ kids => n :: numsL kids
def numsL : List Nd → List Int
  | [] => []
  | a :: r => numsN a ++ numsL r
end
mutual
def htN : Nd → Nat
  | .txt _ _ => 1
  | .el _ _ _ kids => 1 + htL kids
def htL : List Nd → Nat
  | [] => 0
  | a :: r => max (htN a) (htL r)
end
mutual
theorem way_noN : ∀ (a : Nd) (k : Int), k ∉ numsN a → wayN a k = []
  | .txt n x, k, h => by
    rw [numsN, List.mem_singleton] at h
    rw [wayN, if_neg (fun e => h e.symm)]
  | .el n tag ats kids, k, h => by
    rw [numsN, List.mem_cons, not_or] at h
    rw [wayN, if_neg (fun e => h.1 e.symm), if_pos (way_noL kids k h.2)]
theorem way_noL : ∀ (l : List Nd) (k : Int), k ∉ numsL l → wayL l k = []
  | [], k, _ => by rw [wayL]
  | a :: r, k, h => by
    rw [numsL, List.mem_append, not_or] at h
    rw [wayL, if_pos (way_noN a k h.1), way_noL r k h.2]
end
mutual
theorem all_numN : ∀ (a : Nd) (pre : List Nd), (allN a pre).map (fun p => num p.1) = numsN a
  | .txt n x, pre => by rw [allN, numsN] <;> rfl
  | .el n tag ats kids, pre => by rw [allN, numsN, List.map_cons, all_numL kids] <;> rfl
theorem all_numL : ∀ (l : List Nd) (pre : List Nd), (allL l pre).map (fun p => num p.1) = numsL l
  | [], pre => by rw [allL, numsL, List.map_nil]
  | a :: r, pre => by rw [allL, numsL, List.map_append, all_numN a, all_numL r]
end
mutual
theorem way_allN : ∀ (a : Nd) (pre : List Nd), (numsN a).Nodup → ∀ q ∈ allN a pre, ∃ p, q.2 = pre ++ p ∧ wayN a (num q.1) = p ++ [q.1] ∧ ∀ e ∈ p, isEl e = true
  | .txt n x, pre, _, q, hq => by
    rw [allN, List.mem_singleton] at hq
    subst hq
    exact ⟨[], by rw [List.append_nil], by rw [wayN]; exact if_pos rfl, fun e h => nomatch h⟩
  | .el n tag ats kids, pre, nd, q, hq => by
    rw [allN, List.mem_cons] at hq
    rw [numsN, List.nodup_cons] at nd
    rcases hq with rfl | hq
    · exact ⟨[], by rw [List.append_nil], by rw [wayN]; exact if_pos rfl, fun e h => nomatch h⟩
    · obtain ⟨p, h1, h2, h3⟩ := way_allL kids (pre ++ [.el n tag ats kids]) nd.2 q hq
      have hm : num q.1 ∈ numsL kids := by
        rw [← all_numL kids (pre ++ [.el n tag ats kids])]
        exact List.mem_map.mpr ⟨q, hq, rfl⟩
      refine ⟨.el n tag ats kids :: p, by rw [h1, List.append_assoc] <;> rfl, ?_, fun e he => ?_⟩
      · rw [wayN, if_neg (fun e => nd.1 (by rw [e]; exact hm)), h2, if_neg (by simp)] <;> rfl
      · rcases List.mem_cons.mp he with rfl | he
        · rfl
        · exact h3 e he
theorem way_allL : ∀ (l : List Nd) (pre : List Nd), (numsL l).Nodup → ∀ q ∈ allL l pre, ∃ p, q.2 = pre ++ p ∧ wayL l (num q.1) = p ++ [q.1] ∧ ∀ e ∈ p, isEl e = true
  | [], pre, _, q, hq => by rw [allL] at hq; cases hq
  | a :: r, pre, nd, q, hq => by
    rw [allL, List.mem_append] at hq
    rw [numsL, List.nodup_append] at nd
    rcases hq with hq | hq
    · obtain ⟨p, h1, h2, h3⟩ := way_allN a pre nd.1 q hq
      exact ⟨p, h1, by rw [wayL, if_neg (by rw [h2]; simp), h2], h3⟩
    · obtain ⟨p, h1, h2, h3⟩ := way_allL r pre nd.2.1 q hq
      have hm : num q.1 ∈ numsL r := by
        rw [← all_numL r pre]
        exact List.mem_map.mpr ⟨q, hq, rfl⟩
      have hn : num q.1 ∉ numsN a := fun h => nd.2.2 _ h _ hm rfl
      exact ⟨p, h1, by rw [wayL, if_pos (way_noN a _ hn), h2], h3⟩
end
mutual
theorem way_lenN : ∀ (a : Nd) (k : Int), (wayN a k).length ≤ htN a
  | .txt n x, k => by
    rw [wayN, htN]
    split
    · exact Nat.le_refl _
    · exact Nat.zero_le _
  | .el n tag ats kids, k => by
    have := way_lenL kids k
    rw [wayN, htN]
    split
    · rw [List.length_singleton]; omega
    · split
      · exact Nat.zero_le _
      · rw [List.length_cons]; omega
theorem way_lenL : ∀ (l : List Nd) (k : Int), (wayL l k).length ≤ htL l
  | [], k => by rw [wayL, htL]; exact Nat.le_refl _
  | a :: r, k => by
    have h1 := way_lenN a k
    have h2 := way_lenL r k
    rw [wayL, htL]
    split <;> omega
end
/-! ### way_to -/
def kindS : Nd → Str
  | .txt _ _ => "text"
  | .el _ _ _ _ => "element"
theorem nd0 (a : Nd) (M : Mem) : ixD (ndD a) (.int 0) M = some (.str (kindS a), M) := by
  cases a <;> rw [ndD] <;> rfl
theorem nd1 (a : Nd) (M : Mem) : ixD (ndD a) (.int 1) M = some (.int (num a), M) := by
  cases a <;> rw [ndD] <;> rfl
theorem nd3 {n : Int} {tag : Str} {ats : List (Str × Str)} {kids : List Nd} (M : Mem) : ixD (ndD (.el n tag ats kids)) (.int 3) M = some (.tup (ats.map prS), M) := by rw [ndD] <;> rfl
theorem nd4 {n : Int} {tag : Str} {ats : List (Str × Str)} {kids : List Nd} (M : Mem) : ixD (ndD (.el n tag ats kids)) (.int 4) M = some (.tup (kids.map ndD), M) := by rw [ndD, ndsD_map] <;> rfl
theorem z0 : decide ((0 : Int) < ((0 : Nat) : Int)) = false := rfl
theorem srcT {xs : List D} {M : Mem} : srcOf M (.tup xs) = some ⟨xs, fun _ => true⟩ := rfl
theorem eqK (a : Nd) : (kindS a == "element") = isEl a := by cases a <;> first | rfl | (show (("text" : Str) == "element") = false; decide)
theorem elT {n : Int} {x : Str} : isEl (.txt n x) = false := rfl
theorem elE {n : Int} {tag : Str} {ats : List (Str × Str)} {kids : List Nd} : isEl (.el n tag ats kids) = true := rfl
theorem way_loop {φr : FnD} {k : Int} {m : Nat} {M : Mem} {a0 : Option D} (ih : ∀ kids : List Nd, htL kids < m → φr [.tup (kids.map ndD), .int k] M = .ok (.lst ((wayL kids k).map ndD)) M) : ∀ (l : List Nd) (x2 x3 : Option D), htL l ≤ m → m < 1000 →
    (wayL l k = [] ∧ ∃ y2 y3, forV (fun _ => true) (gNm 2) (β_way_to_1 φr) (l.map ndD) [a0, some (.int k), x2, x3] M = .nx [a0, some (.int k), y2, y3] M) ∨
    (wayL l k ≠ [] ∧ forV (fun _ => true) (gNm 2) (β_way_to_1 φr) (l.map ndD) [a0, some (.int k), x2, x3] M = .rt (.lst ((wayL l k).map ndD)) M)
  | [], x2, x3, _, _ => .inl ⟨by rw [wayL], x2, x3, forV_n rfl⟩
  | a :: r, x2, x3, hm, hb => by
    rw [htL] at hm
    have go : ∀ (y2 y3 : Option D), wayN a k = [] → β_way_to_1 φr [a0, some (.int k), some (ndD a), x3] M = .nx [a0, some (.int k), y2, y3] M → (wayL (a :: r) k = [] ∧ ∃ y2 y3, forV (fun _ => true) (gNm 2) (β_way_to_1 φr) ((a :: r).map ndD) [a0, some (.int k), x2, x3] M = .nx [a0, some (.int k), y2, y3] M) ∨
        (wayL (a :: r) k ≠ [] ∧ forV (fun _ => true) (gNm 2) (β_way_to_1 φr) ((a :: r).map ndD) [a0, some (.int k), x2, x3] M = .rt (.lst ((wayL (a :: r) k).map ndD)) M) := fun y2 y3 hw hb' => by
      rw [List.map_cons, wayL, if_pos hw]
      rcases way_loop ih r y2 y3 (by omega) hb with ⟨h1, z2, z3, h2⟩ | ⟨h1, h2⟩
      · exact .inl ⟨h1, z2, z3, (forV_c rfl rfl hb').trans h2⟩
      · exact .inr ⟨h1, (forV_c rfl rfl hb').trans h2⟩
    have stop : wayN a k ≠ [] → β_way_to_1 φr [a0, some (.int k), some (ndD a), x3] M = .rt (.lst ((wayN a k).map ndD)) M → (wayL (a :: r) k = [] ∧ ∃ y2 y3, forV (fun _ => true) (gNm 2) (β_way_to_1 φr) ((a :: r).map ndD) [a0, some (.int k), x2, x3] M = .nx [a0, some (.int k), y2, y3] M) ∨
        (wayL (a :: r) k ≠ [] ∧ forV (fun _ => true) (gNm 2) (β_way_to_1 φr) ((a :: r).map ndD) [a0, some (.int k), x2, x3] M = .rt (.lst ((wayL (a :: r) k).map ndD)) M) := fun hw hb' => by
      rw [List.map_cons, wayL, if_neg hw]
      exact .inr ⟨hw, forV_r rfl rfl hb'⟩
    by_cases hk : num a = k
    · have hw : wayN a k = [a] := by cases a <;> (rw [wayN]; exact if_pos hk)
      refine stop (by rw [hw]; simp) ?_
      rw [hw]
      unfold β_way_to_1
      simp only [LD.v_lenO, LD.v_eqQi, LD.v_neQi, LD.q_Ins, LD.q_App, LD.okS_t, LD.v_isLst, LD.lstK_s, LD.v_app, LD.q_Rev, LD.lsK_s, LD.q_Get, LD.getKK_s, LD.v_lsL, LD.v_keyI, LD.v_keyS, Option.isSome_some, Option.isSome_none, Option.getD_some, Option.getD_none, LD.v_eqs, LD.v_nes, LD.v_isiBb, LD.q_C, LD.q_Var, LD.q_Bin, LD.q_Un, LD.q_tOf, LD.q_tCmp, LD.q_tAnd, LD.q_tOr, LD.q_tNot, LD.q_And, LD.q_Or, LD.q_Not, LD.q_If, LD.q_Nil, LD.q_Cons, LD.q_Tup, LD.q_Lst, LD.q_LstM, LD.q_Call, LD.q_Meth, LD.q_Attr, LD.q_Blt, LD.q_Comp, LD.q_iOf, LD.srcK_s, LD.v_truB, LD.v_truL, LD.v_truN, LD.v_srcL, LD.v_neg, LD.q_iRange, LD.q_Next, LD.q_Seq, LD.q_Expr, LD.q_Ret, LD.q_RetN, LD.q_SIf, LD.q_Bk, LD.q_Ct, LD.q_Asg, LD.q_Nm, LD.q_Sub, LD.q_Del, LD.q_Fld, LD.q_Dic, LD.q_For, LD.wipeD, Bool.not_true, Bool.not_false, LD.ifT, LD.le0, LD.le1, LD.le2, LD.le3, LD.le4, LD.le5, LD.le6, LD.cmpK_l, LD.nn_n, LD.nn_i, LD.nn_t, LD.nn_l, LD.nn_r, LD.nn_b, LD.nn_s, LD.nonK_n, LD.okK_o, LD.bind_k, LD.bind_b, LD.bind_e, LD.bindS_k, LD.bindS_e, LD.ofO_s, LD.getV_s, LD.truK_s, LD.blK_b, LD.refK_r, LD.insK_i, LD.lookK_s, LD.lookK_n, LD.refS_r, LD.insS_i, LD.lookS_s, LD.seq_n, LD.seq_r, LD.seq_b, LD.seq_c, LD.seq_e, LD.storeK_s, LD.memK_s, LD.endF_n, LD.endF_r, LD.endF_e, LD.pick_t, LD.pick_f, LD.finL_f, LD.finL_t, LD.v_add, LD.v_sub, LD.v_mulR, LD.v_fdiv, LD.v_mod, LD.v_int, LD.v_lt, LD.v_le, LD.v_gt, LD.v_ge, LD.v_eq, LD.v_ne, LD.v_len, LD.v_tix, LD.v_lix, LD.v_rix, LD.rixK_l, LD.rixK_d, LD.v_isN, LD.v_isnN, LD.v_isNone, LD.v_isNoneN, LD.startD, List.length_cons, List.length_nil, List.map_cons, List.map_nil, List.cons_append, List.nil_append, List.append_nil, List.getElem?_cons_zero, List.getElem?_cons_succ, List.set_cons_zero, List.set_cons_succ, List.replicate_succ, List.replicate_zero, Nat.reduceAdd, Nat.reduceSub, Nat.reduceBEq, Int.reduceLT, Int.reduceNeg, Int.reduceLE, Nat.reduceLeDiff, Nat.reduceLT, List.lookup_cons, List.lookup_nil, beq_self_eq_true, Option.map_some, Option.map_none, nd1, beq_iff_eq.mpr hk]
    · have nk : (num a == k) = false := beq_eq_false_iff_ne.mpr hk
      cases a with
      | txt n x =>
        have hk' : ¬ n = k := hk
        refine go (some (ndD (.txt n x))) x3 (by rw [wayN, if_neg hk']) ?_
        unfold β_way_to_1
        simp only [LD.v_lenO, LD.v_eqQi, LD.v_neQi, LD.q_Ins, LD.q_App, LD.okS_t, LD.v_isLst, LD.lstK_s, LD.v_app, LD.q_Rev, LD.lsK_s, LD.q_Get, LD.getKK_s, LD.v_lsL, LD.v_keyI, LD.v_keyS, Option.isSome_some, Option.isSome_none, Option.getD_some, Option.getD_none, LD.v_eqs, LD.v_nes, LD.v_isiBb, LD.q_C, LD.q_Var, LD.q_Bin, LD.q_Un, LD.q_tOf, LD.q_tCmp, LD.q_tAnd, LD.q_tOr, LD.q_tNot, LD.q_And, LD.q_Or, LD.q_Not, LD.q_If, LD.q_Nil, LD.q_Cons, LD.q_Tup, LD.q_Lst, LD.q_LstM, LD.q_Call, LD.q_Meth, LD.q_Attr, LD.q_Blt, LD.q_Comp, LD.q_iOf, LD.srcK_s, LD.v_truB, LD.v_truL, LD.v_truN, LD.v_srcL, LD.v_neg, LD.q_iRange, LD.q_Next, LD.q_Seq, LD.q_Expr, LD.q_Ret, LD.q_RetN, LD.q_SIf, LD.q_Bk, LD.q_Ct, LD.q_Asg, LD.q_Nm, LD.q_Sub, LD.q_Del, LD.q_Fld, LD.q_Dic, LD.q_For, LD.wipeD, Bool.not_true, Bool.not_false, LD.ifT, LD.le0, LD.le1, LD.le2, LD.le3, LD.le4, LD.le5, LD.le6, LD.cmpK_l, LD.nn_n, LD.nn_i, LD.nn_t, LD.nn_l, LD.nn_r, LD.nn_b, LD.nn_s, LD.nonK_n, LD.okK_o, LD.bind_k, LD.bind_b, LD.bind_e, LD.bindS_k, LD.bindS_e, LD.ofO_s, LD.getV_s, LD.truK_s, LD.blK_b, LD.refK_r, LD.insK_i, LD.lookK_s, LD.lookK_n, LD.refS_r, LD.insS_i, LD.lookS_s, LD.seq_n, LD.seq_r, LD.seq_b, LD.seq_c, LD.seq_e, LD.storeK_s, LD.memK_s, LD.endF_n, LD.endF_r, LD.endF_e, LD.pick_t, LD.pick_f, LD.finL_f, LD.finL_t, LD.v_add, LD.v_sub, LD.v_mulR, LD.v_fdiv, LD.v_mod, LD.v_int, LD.v_lt, LD.v_le, LD.v_gt, LD.v_ge, LD.v_eq, LD.v_ne, LD.v_len, LD.v_tix, LD.v_lix, LD.v_rix, LD.rixK_l, LD.rixK_d, LD.v_isN, LD.v_isnN, LD.v_isNone, LD.v_isNoneN, LD.startD, List.length_cons, List.length_nil, List.map_cons, List.map_nil, List.cons_append, List.nil_append, List.append_nil, List.getElem?_cons_zero, List.getElem?_cons_succ, List.set_cons_zero, List.set_cons_succ, List.replicate_succ, List.replicate_zero, Nat.reduceAdd, Nat.reduceSub, Nat.reduceBEq, Int.reduceLT, Int.reduceNeg, Int.reduceLE, Nat.reduceLeDiff, Nat.reduceLT, List.lookup_cons, List.lookup_nil, beq_self_eq_true, Option.map_some, Option.map_none, nd1, nk, nd0, eqK, elT]
      | el n tag ats kids =>
        have hk' : ¬ n = k := hk
        rw [htN] at hm
        have e := ih kids (by omega)
        by_cases hw : wayL kids k = []
        · rw [hw] at e
          refine go (some (ndD (.el n tag ats kids))) (some (.lst [])) (by rw [wayN, if_neg hk', if_pos hw]) ?_
          unfold β_way_to_1
          simp only [LD.v_lenO, LD.v_eqQi, LD.v_neQi, LD.q_Ins, LD.q_App, LD.okS_t, LD.v_isLst, LD.lstK_s, LD.v_app, LD.q_Rev, LD.lsK_s, LD.q_Get, LD.getKK_s, LD.v_lsL, LD.v_keyI, LD.v_keyS, Option.isSome_some, Option.isSome_none, Option.getD_some, Option.getD_none, LD.v_eqs, LD.v_nes, LD.v_isiBb, LD.q_C, LD.q_Var, LD.q_Bin, LD.q_Un, LD.q_tOf, LD.q_tCmp, LD.q_tAnd, LD.q_tOr, LD.q_tNot, LD.q_And, LD.q_Or, LD.q_Not, LD.q_If, LD.q_Nil, LD.q_Cons, LD.q_Tup, LD.q_Lst, LD.q_LstM, LD.q_Call, LD.q_Meth, LD.q_Attr, LD.q_Blt, LD.q_Comp, LD.q_iOf, LD.srcK_s, LD.v_truB, LD.v_truL, LD.v_truN, LD.v_srcL, LD.v_neg, LD.q_iRange, LD.q_Next, LD.q_Seq, LD.q_Expr, LD.q_Ret, LD.q_RetN, LD.q_SIf, LD.q_Bk, LD.q_Ct, LD.q_Asg, LD.q_Nm, LD.q_Sub, LD.q_Del, LD.q_Fld, LD.q_Dic, LD.q_For, LD.wipeD, Bool.not_true, Bool.not_false, LD.ifT, LD.le0, LD.le1, LD.le2, LD.le3, LD.le4, LD.le5, LD.le6, LD.cmpK_l, LD.nn_n, LD.nn_i, LD.nn_t, LD.nn_l, LD.nn_r, LD.nn_b, LD.nn_s, LD.nonK_n, LD.okK_o, LD.bind_k, LD.bind_b, LD.bind_e, LD.bindS_k, LD.bindS_e, LD.ofO_s, LD.getV_s, LD.truK_s, LD.blK_b, LD.refK_r, LD.insK_i, LD.lookK_s, LD.lookK_n, LD.refS_r, LD.insS_i, LD.lookS_s, LD.seq_n, LD.seq_r, LD.seq_b, LD.seq_c, LD.seq_e, LD.storeK_s, LD.memK_s, LD.endF_n, LD.endF_r, LD.endF_e, LD.pick_t, LD.pick_f, LD.finL_f, LD.finL_t, LD.v_add, LD.v_sub, LD.v_mulR, LD.v_fdiv, LD.v_mod, LD.v_int, LD.v_lt, LD.v_le, LD.v_gt, LD.v_ge, LD.v_eq, LD.v_ne, LD.v_len, LD.v_tix, LD.v_lix, LD.v_rix, LD.rixK_l, LD.rixK_d, LD.v_isN, LD.v_isnN, LD.v_isNone, LD.v_isNoneN, LD.startD, List.length_cons, List.length_nil, List.map_cons, List.map_nil, List.cons_append, List.nil_append, List.append_nil, List.getElem?_cons_zero, List.getElem?_cons_succ, List.set_cons_zero, List.set_cons_succ, List.replicate_succ, List.replicate_zero, Nat.reduceAdd, Nat.reduceSub, Nat.reduceBEq, Int.reduceLT, Int.reduceNeg, Int.reduceLE, Nat.reduceLeDiff, Nat.reduceLT, List.lookup_cons, List.lookup_nil, beq_self_eq_true, Option.map_some, Option.map_none, nd1, nk, nd0, eqK, elE, nd4, e, z0]
        · have hl : (0 : Int) < ((wayL kids k).map ndD).length := by
            rw [List.length_map]
            have := List.length_pos_iff.mpr hw
            omega
          have hL : ([ndD (.el n tag ats kids)] : List D).length + ((wayL kids k).map ndD).length ≤ LINE := by
            rw [List.length_singleton, List.length_map]
            have := way_lenL kids k
            have := big
            omega
          have hwN : wayN (.el n tag ats kids) k = .el n tag ats kids :: wayL kids k := by rw [wayN, if_neg hk', if_neg hw]
          refine stop (by rw [hwN]; simp) ?_
          rw [hwN]
          unfold β_way_to_1
          simp only [LD.v_lenO, LD.v_eqQi, LD.v_neQi, LD.q_Ins, LD.q_App, LD.okS_t, LD.v_isLst, LD.lstK_s, LD.v_app, LD.q_Rev, LD.lsK_s, LD.q_Get, LD.getKK_s, LD.v_lsL, LD.v_keyI, LD.v_keyS, Option.isSome_some, Option.isSome_none, Option.getD_some, Option.getD_none, LD.v_eqs, LD.v_nes, LD.v_isiBb, LD.q_C, LD.q_Var, LD.q_Bin, LD.q_Un, LD.q_tOf, LD.q_tCmp, LD.q_tAnd, LD.q_tOr, LD.q_tNot, LD.q_And, LD.q_Or, LD.q_Not, LD.q_If, LD.q_Nil, LD.q_Cons, LD.q_Tup, LD.q_Lst, LD.q_LstM, LD.q_Call, LD.q_Meth, LD.q_Attr, LD.q_Blt, LD.q_Comp, LD.q_iOf, LD.srcK_s, LD.v_truB, LD.v_truL, LD.v_truN, LD.v_srcL, LD.v_neg, LD.q_iRange, LD.q_Next, LD.q_Seq, LD.q_Expr, LD.q_Ret, LD.q_RetN, LD.q_SIf, LD.q_Bk, LD.q_Ct, LD.q_Asg, LD.q_Nm, LD.q_Sub, LD.q_Del, LD.q_Fld, LD.q_Dic, LD.q_For, LD.wipeD, Bool.not_true, Bool.not_false, LD.ifT, LD.le0, LD.le1, LD.le2, LD.le3, LD.le4, LD.le5, LD.le6, LD.cmpK_l, LD.nn_n, LD.nn_i, LD.nn_t, LD.nn_l, LD.nn_r, LD.nn_b, LD.nn_s, LD.nonK_n, LD.okK_o, LD.bind_k, LD.bind_b, LD.bind_e, LD.bindS_k, LD.bindS_e, LD.ofO_s, LD.getV_s, LD.truK_s, LD.blK_b, LD.refK_r, LD.insK_i, LD.lookK_s, LD.lookK_n, LD.refS_r, LD.insS_i, LD.lookS_s, LD.seq_n, LD.seq_r, LD.seq_b, LD.seq_c, LD.seq_e, LD.storeK_s, LD.memK_s, LD.endF_n, LD.endF_r, LD.endF_e, LD.pick_t, LD.pick_f, LD.finL_f, LD.finL_t, LD.v_add, LD.v_sub, LD.v_mulR, LD.v_fdiv, LD.v_mod, LD.v_int, LD.v_lt, LD.v_le, LD.v_gt, LD.v_ge, LD.v_eq, LD.v_ne, LD.v_len, LD.v_tix, LD.v_lix, LD.v_rix, LD.rixK_l, LD.rixK_d, LD.v_isN, LD.v_isnN, LD.v_isNone, LD.v_isNoneN, LD.startD, List.length_cons, List.length_nil, List.map_cons, List.map_nil, List.cons_append, List.nil_append, List.append_nil, List.getElem?_cons_zero, List.getElem?_cons_succ, List.set_cons_zero, List.set_cons_succ, List.replicate_succ, List.replicate_zero, Nat.reduceAdd, Nat.reduceSub, Nat.reduceBEq, Int.reduceLT, Int.reduceNeg, Int.reduceLE, Nat.reduceLeDiff, Nat.reduceLT, List.lookup_cons, List.lookup_nil, beq_self_eq_true, Option.map_some, Option.map_none, nd1, nk, nd0, eqK, elE, nd4, e, decide_eq_true hl, v_addL hL]
theorem way_eq {k : Int} {M : Mem} : ∀ (m : Nat) (l : List Nd), htL l < m → m < 1000 → φ_way_to m [.tup (l.map ndD), .int k] M = .ok (.lst ((wayL l k).map ndD)) M
  | 0, l, h, _ => by omega
  | m + 1, l, h, hm => by
    rw [φ_way_to]
    refine run_def rfl ?_
    unfold ψ_way_to
    rcases way_loop (φr := φ_way_to m) (k := k) (m := m) (M := M) (a0 := some (.tup (l.map ndD))) (fun kids hk => way_eq m kids hk (by omega)) l none none (by omega) (by omega) with ⟨h1, y2, y3, h2⟩ | ⟨h1, h2⟩
    · rw [h1]
      simp only [LD.v_lenO, LD.v_eqQi, LD.v_neQi, LD.q_Ins, LD.q_App, LD.okS_t, LD.v_isLst, LD.lstK_s, LD.v_app, LD.q_Rev, LD.lsK_s, LD.q_Get, LD.getKK_s, LD.v_lsL, LD.v_keyI, LD.v_keyS, Option.isSome_some, Option.isSome_none, Option.getD_some, Option.getD_none, LD.v_eqs, LD.v_nes, LD.v_isiBb, LD.q_C, LD.q_Var, LD.q_Bin, LD.q_Un, LD.q_tOf, LD.q_tCmp, LD.q_tAnd, LD.q_tOr, LD.q_tNot, LD.q_And, LD.q_Or, LD.q_Not, LD.q_If, LD.q_Nil, LD.q_Cons, LD.q_Tup, LD.q_Lst, LD.q_LstM, LD.q_Call, LD.q_Meth, LD.q_Attr, LD.q_Blt, LD.q_Comp, LD.q_iOf, LD.srcK_s, LD.v_truB, LD.v_truL, LD.v_truN, LD.v_srcL, LD.v_neg, LD.q_iRange, LD.q_Next, LD.q_Seq, LD.q_Expr, LD.q_Ret, LD.q_RetN, LD.q_SIf, LD.q_Bk, LD.q_Ct, LD.q_Asg, LD.q_Nm, LD.q_Sub, LD.q_Del, LD.q_Fld, LD.q_Dic, LD.q_For, LD.wipeD, Bool.not_true, Bool.not_false, LD.ifT, LD.le0, LD.le1, LD.le2, LD.le3, LD.le4, LD.le5, LD.le6, LD.cmpK_l, LD.nn_n, LD.nn_i, LD.nn_t, LD.nn_l, LD.nn_r, LD.nn_b, LD.nn_s, LD.nonK_n, LD.okK_o, LD.bind_k, LD.bind_b, LD.bind_e, LD.bindS_k, LD.bindS_e, LD.ofO_s, LD.getV_s, LD.truK_s, LD.blK_b, LD.refK_r, LD.insK_i, LD.lookK_s, LD.lookK_n, LD.refS_r, LD.insS_i, LD.lookS_s, LD.seq_n, LD.seq_r, LD.seq_b, LD.seq_c, LD.seq_e, LD.storeK_s, LD.memK_s, LD.endF_n, LD.endF_r, LD.endF_e, LD.pick_t, LD.pick_f, LD.finL_f, LD.finL_t, LD.v_add, LD.v_sub, LD.v_mulR, LD.v_fdiv, LD.v_mod, LD.v_int, LD.v_lt, LD.v_le, LD.v_gt, LD.v_ge, LD.v_eq, LD.v_ne, LD.v_len, LD.v_tix, LD.v_lix, LD.v_rix, LD.rixK_l, LD.rixK_d, LD.v_isN, LD.v_isnN, LD.v_isNone, LD.v_isNoneN, LD.startD, List.length_cons, List.length_nil, List.map_cons, List.map_nil, List.cons_append, List.nil_append, List.append_nil, List.getElem?_cons_zero, List.getElem?_cons_succ, List.set_cons_zero, List.set_cons_succ, List.replicate_succ, List.replicate_zero, Nat.reduceAdd, Nat.reduceSub, Nat.reduceBEq, Int.reduceLT, Int.reduceNeg, Int.reduceLE, Nat.reduceLeDiff, Nat.reduceLT, List.lookup_cons, List.lookup_nil, beq_self_eq_true, Option.map_some, Option.map_none, srcT, h2]
    · simp only [LD.v_lenO, LD.v_eqQi, LD.v_neQi, LD.q_Ins, LD.q_App, LD.okS_t, LD.v_isLst, LD.lstK_s, LD.v_app, LD.q_Rev, LD.lsK_s, LD.q_Get, LD.getKK_s, LD.v_lsL, LD.v_keyI, LD.v_keyS, Option.isSome_some, Option.isSome_none, Option.getD_some, Option.getD_none, LD.v_eqs, LD.v_nes, LD.v_isiBb, LD.q_C, LD.q_Var, LD.q_Bin, LD.q_Un, LD.q_tOf, LD.q_tCmp, LD.q_tAnd, LD.q_tOr, LD.q_tNot, LD.q_And, LD.q_Or, LD.q_Not, LD.q_If, LD.q_Nil, LD.q_Cons, LD.q_Tup, LD.q_Lst, LD.q_LstM, LD.q_Call, LD.q_Meth, LD.q_Attr, LD.q_Blt, LD.q_Comp, LD.q_iOf, LD.srcK_s, LD.v_truB, LD.v_truL, LD.v_truN, LD.v_srcL, LD.v_neg, LD.q_iRange, LD.q_Next, LD.q_Seq, LD.q_Expr, LD.q_Ret, LD.q_RetN, LD.q_SIf, LD.q_Bk, LD.q_Ct, LD.q_Asg, LD.q_Nm, LD.q_Sub, LD.q_Del, LD.q_Fld, LD.q_Dic, LD.q_For, LD.wipeD, Bool.not_true, Bool.not_false, LD.ifT, LD.le0, LD.le1, LD.le2, LD.le3, LD.le4, LD.le5, LD.le6, LD.cmpK_l, LD.nn_n, LD.nn_i, LD.nn_t, LD.nn_l, LD.nn_r, LD.nn_b, LD.nn_s, LD.nonK_n, LD.okK_o, LD.bind_k, LD.bind_b, LD.bind_e, LD.bindS_k, LD.bindS_e, LD.ofO_s, LD.getV_s, LD.truK_s, LD.blK_b, LD.refK_r, LD.insK_i, LD.lookK_s, LD.lookK_n, LD.refS_r, LD.insS_i, LD.lookS_s, LD.seq_n, LD.seq_r, LD.seq_b, LD.seq_c, LD.seq_e, LD.storeK_s, LD.memK_s, LD.endF_n, LD.endF_r, LD.endF_e, LD.pick_t, LD.pick_f, LD.finL_f, LD.finL_t, LD.v_add, LD.v_sub, LD.v_mulR, LD.v_fdiv, LD.v_mod, LD.v_int, LD.v_lt, LD.v_le, LD.v_gt, LD.v_ge, LD.v_eq, LD.v_ne, LD.v_len, LD.v_tix, LD.v_lix, LD.v_rix, LD.rixK_l, LD.rixK_d, LD.v_isN, LD.v_isnN, LD.v_isNone, LD.v_isNoneN, LD.startD, List.length_cons, List.length_nil, List.map_cons, List.map_nil, List.cons_append, List.nil_append, List.append_nil, List.getElem?_cons_zero, List.getElem?_cons_succ, List.set_cons_zero, List.set_cons_succ, List.replicate_succ, List.replicate_zero, Nat.reduceAdd, Nat.reduceSub, Nat.reduceBEq, Int.reduceLT, Int.reduceNeg, Int.reduceLE, Nat.reduceLeDiff, Nat.reduceLT, List.lookup_cons, List.lookup_nil, beq_self_eq_true, Option.map_some, Option.map_none, srcT, h2]

/-! ### what is asked of a document -/
def oD : Option Str → D
  | none => .non
  | some x => .str x
def attrOf (ats : List (Str × Str)) (name : Str) : Option Str := (ats.find? fun p => p.1 == name).map (·.2)
def attrN (name : Str) : Nd → Option Str
  | .txt _ _ => none
  | .el _ _ ats _ => attrOf ats name
theorem attr_loop {name : Str} {M : Mem} {a0 : Option D} : ∀ (ats : List (Str × Str)) (x2 : Option D), (attrOf ats name = none ∧ ∃ y2, forV (fun _ => true) (gNm 2) β_text_of_attribute_1 (ats.map prS) [a0, some (.str name), x2] M = .nx [a0, some (.str name), y2] M) ∨
    (∃ x, attrOf ats name = some x ∧ forV (fun _ => true) (gNm 2) β_text_of_attribute_1 (ats.map prS) [a0, some (.str name), x2] M = .rt (.str x) M)
  | [], x2 => .inl ⟨rfl, x2, forV_n rfl⟩
  | (a, b) :: r, x2 => by
    rw [List.map_cons]
    by_cases h : a = name
    · refine .inr ⟨b, by unfold attrOf; rw [List.find?_cons_of_pos (by simpa using h)] <;> rfl, forV_r rfl rfl ?_⟩
      unfold β_text_of_attribute_1
      simp only [LD.v_lenO, LD.v_eqQi, LD.v_neQi, LD.q_Ins, LD.q_App, LD.okS_t, LD.v_isLst, LD.lstK_s, LD.v_app, LD.q_Rev, LD.lsK_s, LD.q_Get, LD.getKK_s, LD.v_lsL, LD.v_keyI, LD.v_keyS, Option.isSome_some, Option.isSome_none, Option.getD_some, Option.getD_none, LD.v_eqs, LD.v_nes, LD.v_isiBb, LD.q_C, LD.q_Var, LD.q_Bin, LD.q_Un, LD.q_tOf, LD.q_tCmp, LD.q_tAnd, LD.q_tOr, LD.q_tNot, LD.q_And, LD.q_Or, LD.q_Not, LD.q_If, LD.q_Nil, LD.q_Cons, LD.q_Tup, LD.q_Lst, LD.q_LstM, LD.q_Call, LD.q_Meth, LD.q_Attr, LD.q_Blt, LD.q_Comp, LD.q_iOf, LD.srcK_s, LD.v_truB, LD.v_truL, LD.v_truN, LD.v_srcL, LD.v_neg, LD.q_iRange, LD.q_Next, LD.q_Seq, LD.q_Expr, LD.q_Ret, LD.q_RetN, LD.q_SIf, LD.q_Bk, LD.q_Ct, LD.q_Asg, LD.q_Nm, LD.q_Sub, LD.q_Del, LD.q_Fld, LD.q_Dic, LD.q_For, LD.wipeD, Bool.not_true, Bool.not_false, LD.ifT, LD.le0, LD.le1, LD.le2, LD.le3, LD.le4, LD.le5, LD.le6, LD.cmpK_l, LD.nn_n, LD.nn_i, LD.nn_t, LD.nn_l, LD.nn_r, LD.nn_b, LD.nn_s, LD.nonK_n, LD.okK_o, LD.bind_k, LD.bind_b, LD.bind_e, LD.bindS_k, LD.bindS_e, LD.ofO_s, LD.getV_s, LD.truK_s, LD.blK_b, LD.refK_r, LD.insK_i, LD.lookK_s, LD.lookK_n, LD.refS_r, LD.insS_i, LD.lookS_s, LD.seq_n, LD.seq_r, LD.seq_b, LD.seq_c, LD.seq_e, LD.storeK_s, LD.memK_s, LD.endF_n, LD.endF_r, LD.endF_e, LD.pick_t, LD.pick_f, LD.finL_f, LD.finL_t, LD.v_add, LD.v_sub, LD.v_mulR, LD.v_fdiv, LD.v_mod, LD.v_int, LD.v_lt, LD.v_le, LD.v_gt, LD.v_ge, LD.v_eq, LD.v_ne, LD.v_len, LD.v_tix, LD.v_lix, LD.v_rix, LD.rixK_l, LD.rixK_d, LD.v_isN, LD.v_isnN, LD.v_isNone, LD.v_isNoneN, LD.startD, List.length_cons, List.length_nil, List.map_cons, List.map_nil, List.cons_append, List.nil_append, List.append_nil, List.getElem?_cons_zero, List.getElem?_cons_succ, List.set_cons_zero, List.set_cons_succ, List.replicate_succ, List.replicate_zero, Nat.reduceAdd, Nat.reduceSub, Nat.reduceBEq, Int.reduceLT, Int.reduceNeg, Int.reduceLE, Nat.reduceLeDiff, Nat.reduceLT, List.lookup_cons, List.lookup_nil, beq_self_eq_true, Option.map_some, Option.map_none, at0, at1, beq_iff_eq.mpr h]
    · have e : attrOf ((a, b) :: r) name = attrOf r name := by
        unfold attrOf
        rw [List.find?_cons_of_neg (by simpa using h)]
      have st : β_text_of_attribute_1 [a0, some (.str name), some (prS (a, b))] M = .nx [a0, some (.str name), some (prS (a, b))] M := by
        unfold β_text_of_attribute_1
        simp only [LD.v_lenO, LD.v_eqQi, LD.v_neQi, LD.q_Ins, LD.q_App, LD.okS_t, LD.v_isLst, LD.lstK_s, LD.v_app, LD.q_Rev, LD.lsK_s, LD.q_Get, LD.getKK_s, LD.v_lsL, LD.v_keyI, LD.v_keyS, Option.isSome_some, Option.isSome_none, Option.getD_some, Option.getD_none, LD.v_eqs, LD.v_nes, LD.v_isiBb, LD.q_C, LD.q_Var, LD.q_Bin, LD.q_Un, LD.q_tOf, LD.q_tCmp, LD.q_tAnd, LD.q_tOr, LD.q_tNot, LD.q_And, LD.q_Or, LD.q_Not, LD.q_If, LD.q_Nil, LD.q_Cons, LD.q_Tup, LD.q_Lst, LD.q_LstM, LD.q_Call, LD.q_Meth, LD.q_Attr, LD.q_Blt, LD.q_Comp, LD.q_iOf, LD.srcK_s, LD.v_truB, LD.v_truL, LD.v_truN, LD.v_srcL, LD.v_neg, LD.q_iRange, LD.q_Next, LD.q_Seq, LD.q_Expr, LD.q_Ret, LD.q_RetN, LD.q_SIf, LD.q_Bk, LD.q_Ct, LD.q_Asg, LD.q_Nm, LD.q_Sub, LD.q_Del, LD.q_Fld, LD.q_Dic, LD.q_For, LD.wipeD, Bool.not_true, Bool.not_false, LD.ifT, LD.le0, LD.le1, LD.le2, LD.le3, LD.le4, LD.le5, LD.le6, LD.cmpK_l, LD.nn_n, LD.nn_i, LD.nn_t, LD.nn_l, LD.nn_r, LD.nn_b, LD.nn_s, LD.nonK_n, LD.okK_o, LD.bind_k, LD.bind_b, LD.bind_e, LD.bindS_k, LD.bindS_e, LD.ofO_s, LD.getV_s, LD.truK_s, LD.blK_b, LD.refK_r, LD.insK_i, LD.lookK_s, LD.lookK_n, LD.refS_r, LD.insS_i, LD.lookS_s, LD.seq_n, LD.seq_r, LD.seq_b, LD.seq_c, LD.seq_e, LD.storeK_s, LD.memK_s, LD.endF_n, LD.endF_r, LD.endF_e, LD.pick_t, LD.pick_f, LD.finL_f, LD.finL_t, LD.v_add, LD.v_sub, LD.v_mulR, LD.v_fdiv, LD.v_mod, LD.v_int, LD.v_lt, LD.v_le, LD.v_gt, LD.v_ge, LD.v_eq, LD.v_ne, LD.v_len, LD.v_tix, LD.v_lix, LD.v_rix, LD.rixK_l, LD.rixK_d, LD.v_isN, LD.v_isnN, LD.v_isNone, LD.v_isNoneN, LD.startD, List.length_cons, List.length_nil, List.map_cons, List.map_nil, List.cons_append, List.nil_append, List.append_nil, List.getElem?_cons_zero, List.getElem?_cons_succ, List.set_cons_zero, List.set_cons_succ, List.replicate_succ, List.replicate_zero, Nat.reduceAdd, Nat.reduceSub, Nat.reduceBEq, Int.reduceLT, Int.reduceNeg, Int.reduceLE, Nat.reduceLeDiff, Nat.reduceLT, List.lookup_cons, List.lookup_nil, beq_self_eq_true, Option.map_some, Option.map_none, at0, beq_eq_false_iff_ne.mpr h]
      rw [e]
      rcases attr_loop (name := name) r (some (prS (a, b))) with ⟨h1, y2, h2⟩ | ⟨x, h1, h2⟩
      · exact .inl ⟨h1, y2, (forV_c rfl rfl st).trans h2⟩
      · exact .inr ⟨x, h1, (forV_c rfl rfl st).trans h2⟩
theorem text_eq {n : Int} {tag name : Str} {ats : List (Str × Str)} {kids : List Nd} {M : Mem} : φ_text_of_attribute [ndD (.el n tag ats kids), .str name] M = .ok (oD (attrOf ats name)) M := by
  unfold φ_text_of_attribute
  refine run_def rfl ?_
  unfold ψ_text_of_attribute
  rcases attr_loop (name := name) (M := M) (a0 := some (ndD (.el n tag ats kids))) ats none with ⟨h1, y2, h2⟩ | ⟨x, h1, h2⟩
  · rw [h1]
    simp only [LD.v_lenO, LD.v_eqQi, LD.v_neQi, LD.q_Ins, LD.q_App, LD.okS_t, LD.v_isLst, LD.lstK_s, LD.v_app, LD.q_Rev, LD.lsK_s, LD.q_Get, LD.getKK_s, LD.v_lsL, LD.v_keyI, LD.v_keyS, Option.isSome_some, Option.isSome_none, Option.getD_some, Option.getD_none, LD.v_eqs, LD.v_nes, LD.v_isiBb, LD.q_C, LD.q_Var, LD.q_Bin, LD.q_Un, LD.q_tOf, LD.q_tCmp, LD.q_tAnd, LD.q_tOr, LD.q_tNot, LD.q_And, LD.q_Or, LD.q_Not, LD.q_If, LD.q_Nil, LD.q_Cons, LD.q_Tup, LD.q_Lst, LD.q_LstM, LD.q_Call, LD.q_Meth, LD.q_Attr, LD.q_Blt, LD.q_Comp, LD.q_iOf, LD.srcK_s, LD.v_truB, LD.v_truL, LD.v_truN, LD.v_srcL, LD.v_neg, LD.q_iRange, LD.q_Next, LD.q_Seq, LD.q_Expr, LD.q_Ret, LD.q_RetN, LD.q_SIf, LD.q_Bk, LD.q_Ct, LD.q_Asg, LD.q_Nm, LD.q_Sub, LD.q_Del, LD.q_Fld, LD.q_Dic, LD.q_For, LD.wipeD, Bool.not_true, Bool.not_false, LD.ifT, LD.le0, LD.le1, LD.le2, LD.le3, LD.le4, LD.le5, LD.le6, LD.cmpK_l, LD.nn_n, LD.nn_i, LD.nn_t, LD.nn_l, LD.nn_r, LD.nn_b, LD.nn_s, LD.nonK_n, LD.okK_o, LD.bind_k, LD.bind_b, LD.bind_e, LD.bindS_k, LD.bindS_e, LD.ofO_s, LD.getV_s, LD.truK_s, LD.blK_b, LD.refK_r, LD.insK_i, LD.lookK_s, LD.lookK_n, LD.refS_r, LD.insS_i, LD.lookS_s, LD.seq_n, LD.seq_r, LD.seq_b, LD.seq_c, LD.seq_e, LD.storeK_s, LD.memK_s, LD.endF_n, LD.endF_r, LD.endF_e, LD.pick_t, LD.pick_f, LD.finL_f, LD.finL_t, LD.v_add, LD.v_sub, LD.v_mulR, LD.v_fdiv, LD.v_mod, LD.v_int, LD.v_lt, LD.v_le, LD.v_gt, LD.v_ge, LD.v_eq, LD.v_ne, LD.v_len, LD.v_tix, LD.v_lix, LD.v_rix, LD.rixK_l, LD.rixK_d, LD.v_isN, LD.v_isnN, LD.v_isNone, LD.v_isNoneN, LD.startD, List.length_cons, List.length_nil, List.map_cons, List.map_nil, List.cons_append, List.nil_append, List.append_nil, List.getElem?_cons_zero, List.getElem?_cons_succ, List.set_cons_zero, List.set_cons_succ, List.replicate_succ, List.replicate_zero, Nat.reduceAdd, Nat.reduceSub, Nat.reduceBEq, Int.reduceLT, Int.reduceNeg, Int.reduceLE, Nat.reduceLeDiff, Nat.reduceLT, List.lookup_cons, List.lookup_nil, beq_self_eq_true, Option.map_some, Option.map_none, nd3, srcT, h2]
    rfl
  · rw [h1]
    simp only [LD.v_lenO, LD.v_eqQi, LD.v_neQi, LD.q_Ins, LD.q_App, LD.okS_t, LD.v_isLst, LD.lstK_s, LD.v_app, LD.q_Rev, LD.lsK_s, LD.q_Get, LD.getKK_s, LD.v_lsL, LD.v_keyI, LD.v_keyS, Option.isSome_some, Option.isSome_none, Option.getD_some, Option.getD_none, LD.v_eqs, LD.v_nes, LD.v_isiBb, LD.q_C, LD.q_Var, LD.q_Bin, LD.q_Un, LD.q_tOf, LD.q_tCmp, LD.q_tAnd, LD.q_tOr, LD.q_tNot, LD.q_And, LD.q_Or, LD.q_Not, LD.q_If, LD.q_Nil, LD.q_Cons, LD.q_Tup, LD.q_Lst, LD.q_LstM, LD.q_Call, LD.q_Meth, LD.q_Attr, LD.q_Blt, LD.q_Comp, LD.q_iOf, LD.srcK_s, LD.v_truB, LD.v_truL, LD.v_truN, LD.v_srcL, LD.v_neg, LD.q_iRange, LD.q_Next, LD.q_Seq, LD.q_Expr, LD.q_Ret, LD.q_RetN, LD.q_SIf, LD.q_Bk, LD.q_Ct, LD.q_Asg, LD.q_Nm, LD.q_Sub, LD.q_Del, LD.q_Fld, LD.q_Dic, LD.q_For, LD.wipeD, Bool.not_true, Bool.not_false, LD.ifT, LD.le0, LD.le1, LD.le2, LD.le3, LD.le4, LD.le5, LD.le6, LD.cmpK_l, LD.nn_n, LD.nn_i, LD.nn_t, LD.nn_l, LD.nn_r, LD.nn_b, LD.nn_s, LD.nonK_n, LD.okK_o, LD.bind_k, LD.bind_b, LD.bind_e, LD.bindS_k, LD.bindS_e, LD.ofO_s, LD.getV_s, LD.truK_s, LD.blK_b, LD.refK_r, LD.insK_i, LD.lookK_s, LD.lookK_n, LD.refS_r, LD.insS_i, LD.lookS_s, LD.seq_n, LD.seq_r, LD.seq_b, LD.seq_c, LD.seq_e, LD.storeK_s, LD.memK_s, LD.endF_n, LD.endF_r, LD.endF_e, LD.pick_t, LD.pick_f, LD.finL_f, LD.finL_t, LD.v_add, LD.v_sub, LD.v_mulR, LD.v_fdiv, LD.v_mod, LD.v_int, LD.v_lt, LD.v_le, LD.v_gt, LD.v_ge, LD.v_eq, LD.v_ne, LD.v_len, LD.v_tix, LD.v_lix, LD.v_rix, LD.rixK_l, LD.rixK_d, LD.v_isN, LD.v_isnN, LD.v_isNone, LD.v_isNoneN, LD.startD, List.length_cons, List.length_nil, List.map_cons, List.map_nil, List.cons_append, List.nil_append, List.append_nil, List.getElem?_cons_zero, List.getElem?_cons_succ, List.set_cons_zero, List.set_cons_succ, List.replicate_succ, List.replicate_zero, Nat.reduceAdd, Nat.reduceSub, Nat.reduceBEq, Int.reduceLT, Int.reduceNeg, Int.reduceLE, Nat.reduceLeDiff, Nat.reduceLT, List.lookup_cons, List.lookup_nil, beq_self_eq_true, Option.map_some, Option.map_none, nd3, srcT, h2]
    rfl
theorem lattr_eq {n : Int} {tag name : Str} {ats : List (Str × Str)} {kids : List Nd} {M : Mem} : φ__law_attribute [ndD (.el n tag ats kids), .str name] M = .ok (oD (attrOf ats name)) M := text_eq
def dis (a : Nd) : Bool := (attrN "disabled" a).isSome
theorem nn_o (o : Option Str) : isNon (oD o) = !o.isSome := by cases o <;> rfl
theorem dis_loop {M : Mem} {a0 a1 a2 : Option D} : ∀ (l : List Nd) (x3 : Option D), (l.any dis = false ∧ ∃ y3, forV (fun _ => true) (gNm 3) β_is_disabled_4 (l.map ndD) [a0, a1, a2, x3] M = .nx [a0, a1, a2, y3] M) ∨ (l.any dis = true ∧ forV (fun _ => true) (gNm 3) β_is_disabled_4 (l.map ndD) [a0, a1, a2, x3] M = .rt (.bl true) M)
  | [], x3 => .inl ⟨rfl, x3, forV_n rfl⟩
  | a :: r, x3 => by
    rw [List.map_cons, List.any_cons]
    cases hd : dis a with
    | true =>
      refine .inr ⟨rfl, forV_r rfl rfl ?_⟩
      cases a with
      | txt n x => cases hd
      | el n tag ats kids =>
        have hs : (attrOf ats "disabled").isSome = true := hd
        unfold β_is_disabled_4
        simp only [LD.v_lenO, LD.v_eqQi, LD.v_neQi, LD.q_Ins, LD.q_App, LD.okS_t, LD.v_isLst, LD.lstK_s, LD.v_app, LD.q_Rev, LD.lsK_s, LD.q_Get, LD.getKK_s, LD.v_lsL, LD.v_keyI, LD.v_keyS, Option.isSome_some, Option.isSome_none, Option.getD_some, Option.getD_none, LD.v_eqs, LD.v_nes, LD.v_isiBb, LD.q_C, LD.q_Var, LD.q_Bin, LD.q_Un, LD.q_tOf, LD.q_tCmp, LD.q_tAnd, LD.q_tOr, LD.q_tNot, LD.q_And, LD.q_Or, LD.q_Not, LD.q_If, LD.q_Nil, LD.q_Cons, LD.q_Tup, LD.q_Lst, LD.q_LstM, LD.q_Call, LD.q_Meth, LD.q_Attr, LD.q_Blt, LD.q_Comp, LD.q_iOf, LD.srcK_s, LD.v_truB, LD.v_truL, LD.v_truN, LD.v_srcL, LD.v_neg, LD.q_iRange, LD.q_Next, LD.q_Seq, LD.q_Expr, LD.q_Ret, LD.q_RetN, LD.q_SIf, LD.q_Bk, LD.q_Ct, LD.q_Asg, LD.q_Nm, LD.q_Sub, LD.q_Del, LD.q_Fld, LD.q_Dic, LD.q_For, LD.wipeD, Bool.not_true, Bool.not_false, LD.ifT, LD.le0, LD.le1, LD.le2, LD.le3, LD.le4, LD.le5, LD.le6, LD.cmpK_l, LD.nn_n, LD.nn_i, LD.nn_t, LD.nn_l, LD.nn_r, LD.nn_b, LD.nn_s, LD.nonK_n, LD.okK_o, LD.bind_k, LD.bind_b, LD.bind_e, LD.bindS_k, LD.bindS_e, LD.ofO_s, LD.getV_s, LD.truK_s, LD.blK_b, LD.refK_r, LD.insK_i, LD.lookK_s, LD.lookK_n, LD.refS_r, LD.insS_i, LD.lookS_s, LD.seq_n, LD.seq_r, LD.seq_b, LD.seq_c, LD.seq_e, LD.storeK_s, LD.memK_s, LD.endF_n, LD.endF_r, LD.endF_e, LD.pick_t, LD.pick_f, LD.finL_f, LD.finL_t, LD.v_add, LD.v_sub, LD.v_mulR, LD.v_fdiv, LD.v_mod, LD.v_int, LD.v_lt, LD.v_le, LD.v_gt, LD.v_ge, LD.v_eq, LD.v_ne, LD.v_len, LD.v_tix, LD.v_lix, LD.v_rix, LD.rixK_l, LD.rixK_d, LD.v_isN, LD.v_isnN, LD.v_isNone, LD.v_isNoneN, LD.startD, List.length_cons, List.length_nil, List.map_cons, List.map_nil, List.cons_append, List.nil_append, List.append_nil, List.getElem?_cons_zero, List.getElem?_cons_succ, List.set_cons_zero, List.set_cons_succ, List.replicate_succ, List.replicate_zero, Nat.reduceAdd, Nat.reduceSub, Nat.reduceBEq, Int.reduceLT, Int.reduceNeg, Int.reduceLE, Nat.reduceLeDiff, Nat.reduceLT, List.lookup_cons, List.lookup_nil, beq_self_eq_true, Option.map_some, Option.map_none, nd0, eqK, elE, text_eq, nn_o, hs]
    | false =>
      have st : β_is_disabled_4 [a0, a1, a2, some (ndD a)] M = .nx [a0, a1, a2, some (ndD a)] M := by
        cases a with
        | txt n x =>
          unfold β_is_disabled_4
          simp only [LD.v_lenO, LD.v_eqQi, LD.v_neQi, LD.q_Ins, LD.q_App, LD.okS_t, LD.v_isLst, LD.lstK_s, LD.v_app, LD.q_Rev, LD.lsK_s, LD.q_Get, LD.getKK_s, LD.v_lsL, LD.v_keyI, LD.v_keyS, Option.isSome_some, Option.isSome_none, Option.getD_some, Option.getD_none, LD.v_eqs, LD.v_nes, LD.v_isiBb, LD.q_C, LD.q_Var, LD.q_Bin, LD.q_Un, LD.q_tOf, LD.q_tCmp, LD.q_tAnd, LD.q_tOr, LD.q_tNot, LD.q_And, LD.q_Or, LD.q_Not, LD.q_If, LD.q_Nil, LD.q_Cons, LD.q_Tup, LD.q_Lst, LD.q_LstM, LD.q_Call, LD.q_Meth, LD.q_Attr, LD.q_Blt, LD.q_Comp, LD.q_iOf, LD.srcK_s, LD.v_truB, LD.v_truL, LD.v_truN, LD.v_srcL, LD.v_neg, LD.q_iRange, LD.q_Next, LD.q_Seq, LD.q_Expr, LD.q_Ret, LD.q_RetN, LD.q_SIf, LD.q_Bk, LD.q_Ct, LD.q_Asg, LD.q_Nm, LD.q_Sub, LD.q_Del, LD.q_Fld, LD.q_Dic, LD.q_For, LD.wipeD, Bool.not_true, Bool.not_false, LD.ifT, LD.le0, LD.le1, LD.le2, LD.le3, LD.le4, LD.le5, LD.le6, LD.cmpK_l, LD.nn_n, LD.nn_i, LD.nn_t, LD.nn_l, LD.nn_r, LD.nn_b, LD.nn_s, LD.nonK_n, LD.okK_o, LD.bind_k, LD.bind_b, LD.bind_e, LD.bindS_k, LD.bindS_e, LD.ofO_s, LD.getV_s, LD.truK_s, LD.blK_b, LD.refK_r, LD.insK_i, LD.lookK_s, LD.lookK_n, LD.refS_r, LD.insS_i, LD.lookS_s, LD.seq_n, LD.seq_r, LD.seq_b, LD.seq_c, LD.seq_e, LD.storeK_s, LD.memK_s, LD.endF_n, LD.endF_r, LD.endF_e, LD.pick_t, LD.pick_f, LD.finL_f, LD.finL_t, LD.v_add, LD.v_sub, LD.v_mulR, LD.v_fdiv, LD.v_mod, LD.v_int, LD.v_lt, LD.v_le, LD.v_gt, LD.v_ge, LD.v_eq, LD.v_ne, LD.v_len, LD.v_tix, LD.v_lix, LD.v_rix, LD.rixK_l, LD.rixK_d, LD.v_isN, LD.v_isnN, LD.v_isNone, LD.v_isNoneN, LD.startD, List.length_cons, List.length_nil, List.map_cons, List.map_nil, List.cons_append, List.nil_append, List.append_nil, List.getElem?_cons_zero, List.getElem?_cons_succ, List.set_cons_zero, List.set_cons_succ, List.replicate_succ, List.replicate_zero, Nat.reduceAdd, Nat.reduceSub, Nat.reduceBEq, Int.reduceLT, Int.reduceNeg, Int.reduceLE, Nat.reduceLeDiff, Nat.reduceLT, List.lookup_cons, List.lookup_nil, beq_self_eq_true, Option.map_some, Option.map_none, nd0, eqK, elT]
        | el n tag ats kids =>
          have hs : (attrOf ats "disabled").isSome = false := hd
          unfold β_is_disabled_4
          simp only [LD.v_lenO, LD.v_eqQi, LD.v_neQi, LD.q_Ins, LD.q_App, LD.okS_t, LD.v_isLst, LD.lstK_s, LD.v_app, LD.q_Rev, LD.lsK_s, LD.q_Get, LD.getKK_s, LD.v_lsL, LD.v_keyI, LD.v_keyS, Option.isSome_some, Option.isSome_none, Option.getD_some, Option.getD_none, LD.v_eqs, LD.v_nes, LD.v_isiBb, LD.q_C, LD.q_Var, LD.q_Bin, LD.q_Un, LD.q_tOf, LD.q_tCmp, LD.q_tAnd, LD.q_tOr, LD.q_tNot, LD.q_And, LD.q_Or, LD.q_Not, LD.q_If, LD.q_Nil, LD.q_Cons, LD.q_Tup, LD.q_Lst, LD.q_LstM, LD.q_Call, LD.q_Meth, LD.q_Attr, LD.q_Blt, LD.q_Comp, LD.q_iOf, LD.srcK_s, LD.v_truB, LD.v_truL, LD.v_truN, LD.v_srcL, LD.v_neg, LD.q_iRange, LD.q_Next, LD.q_Seq, LD.q_Expr, LD.q_Ret, LD.q_RetN, LD.q_SIf, LD.q_Bk, LD.q_Ct, LD.q_Asg, LD.q_Nm, LD.q_Sub, LD.q_Del, LD.q_Fld, LD.q_Dic, LD.q_For, LD.wipeD, Bool.not_true, Bool.not_false, LD.ifT, LD.le0, LD.le1, LD.le2, LD.le3, LD.le4, LD.le5, LD.le6, LD.cmpK_l, LD.nn_n, LD.nn_i, LD.nn_t, LD.nn_l, LD.nn_r, LD.nn_b, LD.nn_s, LD.nonK_n, LD.okK_o, LD.bind_k, LD.bind_b, LD.bind_e, LD.bindS_k, LD.bindS_e, LD.ofO_s, LD.getV_s, LD.truK_s, LD.blK_b, LD.refK_r, LD.insK_i, LD.lookK_s, LD.lookK_n, LD.refS_r, LD.insS_i, LD.lookS_s, LD.seq_n, LD.seq_r, LD.seq_b, LD.seq_c, LD.seq_e, LD.storeK_s, LD.memK_s, LD.endF_n, LD.endF_r, LD.endF_e, LD.pick_t, LD.pick_f, LD.finL_f, LD.finL_t, LD.v_add, LD.v_sub, LD.v_mulR, LD.v_fdiv, LD.v_mod, LD.v_int, LD.v_lt, LD.v_le, LD.v_gt, LD.v_ge, LD.v_eq, LD.v_ne, LD.v_len, LD.v_tix, LD.v_lix, LD.v_rix, LD.rixK_l, LD.rixK_d, LD.v_isN, LD.v_isnN, LD.v_isNone, LD.v_isNoneN, LD.startD, List.length_cons, List.length_nil, List.map_cons, List.map_nil, List.cons_append, List.nil_append, List.append_nil, List.getElem?_cons_zero, List.getElem?_cons_succ, List.set_cons_zero, List.set_cons_succ, List.replicate_succ, List.replicate_zero, Nat.reduceAdd, Nat.reduceSub, Nat.reduceBEq, Int.reduceLT, Int.reduceNeg, Int.reduceLE, Nat.reduceLeDiff, Nat.reduceLT, List.lookup_cons, List.lookup_nil, beq_self_eq_true, Option.map_some, Option.map_none, nd0, eqK, elE, text_eq, nn_o, hs]
      rcases dis_loop r (some (ndD a)) with ⟨h1, y3, h2⟩ | ⟨h1, h2⟩
      · exact .inl ⟨h1, y3, (forV_c rfl rfl st).trans h2⟩
      · exact .inr ⟨h1, (forV_c rfl rfl st).trans h2⟩
theorem disabled_eq {l : List Nd} {k : Int} {M : Mem} (h : htL l < 30) : φ_is_disabled [.tup (l.map ndD), .int k] M = .ok (.bl ((wayL l k).isEmpty || (wayL l k).any dis)) M := by
  have ew := way_eq (k := k) (M := M) 30 l h (by decide)
  unfold φ_is_disabled
  refine run_def rfl ?_
  unfold ψ_is_disabled
  generalize hw : wayL l k = w at ew
  cases w with
  | nil =>
    simp only [LD.v_lenO, LD.v_eqQi, LD.v_neQi, LD.q_Ins, LD.q_App, LD.okS_t, LD.v_isLst, LD.lstK_s, LD.v_app, LD.q_Rev, LD.lsK_s, LD.q_Get, LD.getKK_s, LD.v_lsL, LD.v_keyI, LD.v_keyS, Option.isSome_some, Option.isSome_none, Option.getD_some, Option.getD_none, LD.v_eqs, LD.v_nes, LD.v_isiBb, LD.q_C, LD.q_Var, LD.q_Bin, LD.q_Un, LD.q_tOf, LD.q_tCmp, LD.q_tAnd, LD.q_tOr, LD.q_tNot, LD.q_And, LD.q_Or, LD.q_Not, LD.q_If, LD.q_Nil, LD.q_Cons, LD.q_Tup, LD.q_Lst, LD.q_LstM, LD.q_Call, LD.q_Meth, LD.q_Attr, LD.q_Blt, LD.q_Comp, LD.q_iOf, LD.srcK_s, LD.v_truB, LD.v_truL, LD.v_truN, LD.v_srcL, LD.v_neg, LD.q_iRange, LD.q_Next, LD.q_Seq, LD.q_Expr, LD.q_Ret, LD.q_RetN, LD.q_SIf, LD.q_Bk, LD.q_Ct, LD.q_Asg, LD.q_Nm, LD.q_Sub, LD.q_Del, LD.q_Fld, LD.q_Dic, LD.q_For, LD.wipeD, Bool.not_true, Bool.not_false, LD.ifT, LD.le0, LD.le1, LD.le2, LD.le3, LD.le4, LD.le5, LD.le6, LD.cmpK_l, LD.nn_n, LD.nn_i, LD.nn_t, LD.nn_l, LD.nn_r, LD.nn_b, LD.nn_s, LD.nonK_n, LD.okK_o, LD.bind_k, LD.bind_b, LD.bind_e, LD.bindS_k, LD.bindS_e, LD.ofO_s, LD.getV_s, LD.truK_s, LD.blK_b, LD.refK_r, LD.insK_i, LD.lookK_s, LD.lookK_n, LD.refS_r, LD.insS_i, LD.lookS_s, LD.seq_n, LD.seq_r, LD.seq_b, LD.seq_c, LD.seq_e, LD.storeK_s, LD.memK_s, LD.endF_n, LD.endF_r, LD.endF_e, LD.pick_t, LD.pick_f, LD.finL_f, LD.finL_t, LD.v_add, LD.v_sub, LD.v_mulR, LD.v_fdiv, LD.v_mod, LD.v_int, LD.v_lt, LD.v_le, LD.v_gt, LD.v_ge, LD.v_eq, LD.v_ne, LD.v_len, LD.v_tix, LD.v_lix, LD.v_rix, LD.rixK_l, LD.rixK_d, LD.v_isN, LD.v_isnN, LD.v_isNone, LD.v_isNoneN, LD.startD, List.length_cons, List.length_nil, List.map_cons, List.map_nil, List.cons_append, List.nil_append, List.append_nil, List.getElem?_cons_zero, List.getElem?_cons_succ, List.set_cons_zero, List.set_cons_succ, List.replicate_succ, List.replicate_zero, Nat.reduceAdd, Nat.reduceSub, Nat.reduceBEq, Int.reduceLT, Int.reduceNeg, Int.reduceLE, Nat.reduceLeDiff, Nat.reduceLT, List.lookup_cons, List.lookup_nil, beq_self_eq_true, Option.map_some, Option.map_none, ew, List.isEmpty_nil, Bool.true_or, show ((((0 : Nat) : Int) == 0) = true) from rfl]
  | cons a r =>
    have hn : ((((a :: r).map ndD).length : Int) == 0) = false := beq_eq_false_iff_ne.mpr (by rw [List.length_map, List.length_cons]; omega)
    have hsrc : srcOf M (.lst ((a :: r).map ndD)) = some ⟨(a :: r).map ndD, fun _ => true⟩ := rfl
    rcases dis_loop (M := M) (a0 := some (.tup (l.map ndD))) (a1 := some (.int k)) (a2 := some (.lst ((a :: r).map ndD))) (a :: r) none with ⟨h1, y3, h2⟩ | ⟨h1, h2⟩
    · rw [h1]
      simp only [List.map_cons, List.length_cons] at h2 hn ew
      simp only [LD.v_lenO, LD.v_eqQi, LD.v_neQi, LD.q_Ins, LD.q_App, LD.okS_t, LD.v_isLst, LD.lstK_s, LD.v_app, LD.q_Rev, LD.lsK_s, LD.q_Get, LD.getKK_s, LD.v_lsL, LD.v_keyI, LD.v_keyS, Option.isSome_some, Option.isSome_none, Option.getD_some, Option.getD_none, LD.v_eqs, LD.v_nes, LD.v_isiBb, LD.q_C, LD.q_Var, LD.q_Bin, LD.q_Un, LD.q_tOf, LD.q_tCmp, LD.q_tAnd, LD.q_tOr, LD.q_tNot, LD.q_And, LD.q_Or, LD.q_Not, LD.q_If, LD.q_Nil, LD.q_Cons, LD.q_Tup, LD.q_Lst, LD.q_LstM, LD.q_Call, LD.q_Meth, LD.q_Attr, LD.q_Blt, LD.q_Comp, LD.q_iOf, LD.srcK_s, LD.v_truB, LD.v_truL, LD.v_truN, LD.v_srcL, LD.v_neg, LD.q_iRange, LD.q_Next, LD.q_Seq, LD.q_Expr, LD.q_Ret, LD.q_RetN, LD.q_SIf, LD.q_Bk, LD.q_Ct, LD.q_Asg, LD.q_Nm, LD.q_Sub, LD.q_Del, LD.q_Fld, LD.q_Dic, LD.q_For, LD.wipeD, Bool.not_true, Bool.not_false, LD.ifT, LD.le0, LD.le1, LD.le2, LD.le3, LD.le4, LD.le5, LD.le6, LD.cmpK_l, LD.nn_n, LD.nn_i, LD.nn_t, LD.nn_l, LD.nn_r, LD.nn_b, LD.nn_s, LD.nonK_n, LD.okK_o, LD.bind_k, LD.bind_b, LD.bind_e, LD.bindS_k, LD.bindS_e, LD.ofO_s, LD.getV_s, LD.truK_s, LD.blK_b, LD.refK_r, LD.insK_i, LD.lookK_s, LD.lookK_n, LD.refS_r, LD.insS_i, LD.lookS_s, LD.seq_n, LD.seq_r, LD.seq_b, LD.seq_c, LD.seq_e, LD.storeK_s, LD.memK_s, LD.endF_n, LD.endF_r, LD.endF_e, LD.pick_t, LD.pick_f, LD.finL_f, LD.finL_t, LD.v_add, LD.v_sub, LD.v_mulR, LD.v_fdiv, LD.v_mod, LD.v_int, LD.v_lt, LD.v_le, LD.v_gt, LD.v_ge, LD.v_eq, LD.v_ne, LD.v_len, LD.v_tix, LD.v_lix, LD.v_rix, LD.rixK_l, LD.rixK_d, LD.v_isN, LD.v_isnN, LD.v_isNone, LD.v_isNoneN, LD.startD, List.length_cons, List.length_nil, List.map_cons, List.map_nil, List.cons_append, List.nil_append, List.append_nil, List.getElem?_cons_zero, List.getElem?_cons_succ, List.set_cons_zero, List.set_cons_succ, List.replicate_succ, List.replicate_zero, Nat.reduceAdd, Nat.reduceSub, Nat.reduceBEq, Int.reduceLT, Int.reduceNeg, Int.reduceLE, Nat.reduceLeDiff, Nat.reduceLT, List.lookup_cons, List.lookup_nil, beq_self_eq_true, Option.map_some, Option.map_none, ew, hn, h2, List.isEmpty_cons, Bool.false_or]
    · rw [h1]
      simp only [List.map_cons, List.length_cons] at h2 hn ew
      simp only [LD.v_lenO, LD.v_eqQi, LD.v_neQi, LD.q_Ins, LD.q_App, LD.okS_t, LD.v_isLst, LD.lstK_s, LD.v_app, LD.q_Rev, LD.lsK_s, LD.q_Get, LD.getKK_s, LD.v_lsL, LD.v_keyI, LD.v_keyS, Option.isSome_some, Option.isSome_none, Option.getD_some, Option.getD_none, LD.v_eqs, LD.v_nes, LD.v_isiBb, LD.q_C, LD.q_Var, LD.q_Bin, LD.q_Un, LD.q_tOf, LD.q_tCmp, LD.q_tAnd, LD.q_tOr, LD.q_tNot, LD.q_And, LD.q_Or, LD.q_Not, LD.q_If, LD.q_Nil, LD.q_Cons, LD.q_Tup, LD.q_Lst, LD.q_LstM, LD.q_Call, LD.q_Meth, LD.q_Attr, LD.q_Blt, LD.q_Comp, LD.q_iOf, LD.srcK_s, LD.v_truB, LD.v_truL, LD.v_truN, LD.v_srcL, LD.v_neg, LD.q_iRange, LD.q_Next, LD.q_Seq, LD.q_Expr, LD.q_Ret, LD.q_RetN, LD.q_SIf, LD.q_Bk, LD.q_Ct, LD.q_Asg, LD.q_Nm, LD.q_Sub, LD.q_Del, LD.q_Fld, LD.q_Dic, LD.q_For, LD.wipeD, Bool.not_true, Bool.not_false, LD.ifT, LD.le0, LD.le1, LD.le2, LD.le3, LD.le4, LD.le5, LD.le6, LD.cmpK_l, LD.nn_n, LD.nn_i, LD.nn_t, LD.nn_l, LD.nn_r, LD.nn_b, LD.nn_s, LD.nonK_n, LD.okK_o, LD.bind_k, LD.bind_b, LD.bind_e, LD.bindS_k, LD.bindS_e, LD.ofO_s, LD.getV_s, LD.truK_s, LD.blK_b, LD.refK_r, LD.insK_i, LD.lookK_s, LD.lookK_n, LD.refS_r, LD.insS_i, LD.lookS_s, LD.seq_n, LD.seq_r, LD.seq_b, LD.seq_c, LD.seq_e, LD.storeK_s, LD.memK_s, LD.endF_n, LD.endF_r, LD.endF_e, LD.pick_t, LD.pick_f, LD.finL_f, LD.finL_t, LD.v_add, LD.v_sub, LD.v_mulR, LD.v_fdiv, LD.v_mod, LD.v_int, LD.v_lt, LD.v_le, LD.v_gt, LD.v_ge, LD.v_eq, LD.v_ne, LD.v_len, LD.v_tix, LD.v_lix, LD.v_rix, LD.rixK_l, LD.rixK_d, LD.v_isN, LD.v_isnN, LD.v_isNone, LD.v_isNoneN, LD.startD, List.length_cons, List.length_nil, List.map_cons, List.map_nil, List.cons_append, List.nil_append, List.append_nil, List.getElem?_cons_zero, List.getElem?_cons_succ, List.set_cons_zero, List.set_cons_succ, List.replicate_succ, List.replicate_zero, Nat.reduceAdd, Nat.reduceSub, Nat.reduceBEq, Int.reduceLT, Int.reduceNeg, Int.reduceLE, Nat.reduceLeDiff, Nat.reduceLT, List.lookup_cons, List.lookup_nil, beq_self_eq_true, Option.map_some, Option.map_none, ew, hn, h2, List.isEmpty_cons, Bool.false_or]

/-! ### all nodes with those around them -/
def prA (q : Nd × List Nd) : D := .tup [ndD q.1, .lst (q.2.map ndD)]
theorem allN_len : ∀ (a : Nd) (pre : List Nd), (allN a pre).length = (numsN a).length := fun a pre => by rw [← all_numN a pre, List.length_map]
theorem allL_len : ∀ (l : List Nd) (pre : List Nd), (allL l pre).length = (numsL l).length := fun a pre => by rw [← all_numL a pre, List.length_map]
theorem app_at {M : Mem} {o : DO} : (M ++ [o])[M.length]? = some o := by
  rw [List.getElem?_append_right (Nat.le_refl _), Nat.sub_self] <;> rfl
theorem app_old {M X : Mem} {j : Nat} (h : j < M.length) : (M ++ X)[j]? = M[j]? := List.getElem?_append_left h
theorem set_at {M : Mem} {i j : Nat} {o : DO} (h : i ≠ j) : (M.set i o)[j]? = M[j]? := List.getElem?_set_ne h
theorem set_is {M : Mem} {i : Nat} {o o' : DO} (h : M[i]? = some o') : (M.set i o)[i]? = some o := by
  rw [List.getElem?_set_self (List.getElem?_eq_some_iff.mp h).1]
theorem all_loop {φr : FnD} {m : Nat} {pre : List Nd} {n0 : Nat} {a0 : Option D} (hpre : pre.length < 1000)
    (ih : ∀ (kids : List Nd) (M : Mem) (pre : List Nd), htL kids < m → (numsL kids).length < 1000 → pre.length + m < 1000 → ∃ i M', φr [.tup (kids.map ndD), .lst (pre.map ndD)] M = .ok (.ref i) M' ∧ M'[i]? = some (.lst ((allL kids pre).map prA)) ∧ M.length ≤ M'.length ∧ ∀ j, j < M.length → M'[j]? = M[j]?) :
    ∀ (l : List Nd) (fl : List (Nd × List Nd)) (f : Nat) (M : Mem) (x3 : Option D), htL l ≤ m → pre.length + 1 + m < 1000 → fl.length + (numsL l).length < 1000 → n0 ≤ f → M[f]? = some (.lst (fl.map prA)) →
    ∃ f' M' x3', forV (fun _ => true) (gNm 3) (β__law_all_2 φr) (l.map ndD) [a0, some (.lst (pre.map ndD)), some (.ref f), x3] M = .nx [a0, some (.lst (pre.map ndD)), some (.ref f'), x3'] M' ∧ M'[f']? = some (.lst ((fl ++ allL l pre).map prA)) ∧ M.length ≤ M'.length ∧ ∀ j, j < n0 → M'[j]? = M[j]?
  | [], fl, f, M, x3, _, _, _, _, hf => ⟨f, M, x3, forV_n rfl, by rw [allL, List.append_nil]; exact hf, Nat.le_refl _, fun _ _ => rfl⟩
  | a :: r, fl, f, M, x3, hm, hpm, hl, hn, hf => by
    rw [numsL, List.length_append] at hl
    rw [htL] at hm
    have hL : (fl.map prA).length < LINE := by rw [List.length_map]; have := big; omega
    have hf1 : ∀ o, (M.set f o)[f]? = some o := fun o => set_is hf
    have hfl : f < M.length := (List.getElem?_eq_some_iff.mp hf).1
    have em : (fl ++ [(a, pre)]).map prA = fl.map prA ++ [.tup [ndD a, .lst (pre.map ndD)]] := by rw [List.map_append] <;> rfl
    cases a with
    | txt n x =>
      have e1 : β__law_all_2 φr [a0, some (.lst (pre.map ndD)), some (.ref f), some (ndD (.txt n x))] M = .nx [a0, some (.lst (pre.map ndD)), some (.ref f), some (ndD (.txt n x))] (M.set f (.lst ((fl ++ [(Nd.txt n x, pre)]).map prA))) := by
        rw [em]
        unfold β__law_all_2
        simp only [LD.v_lenO, LD.v_eqQi, LD.v_neQi, LD.q_Ins, LD.q_App, LD.okS_t, LD.v_isLst, LD.lstK_s, LD.v_app, LD.q_Rev, LD.lsK_s, LD.q_Get, LD.getKK_s, LD.v_lsL, LD.v_keyI, LD.v_keyS, Option.isSome_some, Option.isSome_none, Option.getD_some, Option.getD_none, LD.v_eqs, LD.v_nes, LD.v_isiBb, LD.q_C, LD.q_Var, LD.q_Bin, LD.q_Un, LD.q_tOf, LD.q_tCmp, LD.q_tAnd, LD.q_tOr, LD.q_tNot, LD.q_And, LD.q_Or, LD.q_Not, LD.q_If, LD.q_Nil, LD.q_Cons, LD.q_Tup, LD.q_Lst, LD.q_LstM, LD.q_Call, LD.q_Meth, LD.q_Attr, LD.q_Blt, LD.q_Comp, LD.q_iOf, LD.srcK_s, LD.v_truB, LD.v_truL, LD.v_truN, LD.v_srcL, LD.v_neg, LD.q_iRange, LD.q_Next, LD.q_Seq, LD.q_Expr, LD.q_Ret, LD.q_RetN, LD.q_SIf, LD.q_Bk, LD.q_Ct, LD.q_Asg, LD.q_Nm, LD.q_Sub, LD.q_Del, LD.q_Fld, LD.q_Dic, LD.q_For, LD.wipeD, Bool.not_true, Bool.not_false, LD.ifT, LD.le0, LD.le1, LD.le2, LD.le3, LD.le4, LD.le5, LD.le6, LD.cmpK_l, LD.nn_n, LD.nn_i, LD.nn_t, LD.nn_l, LD.nn_r, LD.nn_b, LD.nn_s, LD.nonK_n, LD.okK_o, LD.bind_k, LD.bind_b, LD.bind_e, LD.bindS_k, LD.bindS_e, LD.ofO_s, LD.getV_s, LD.truK_s, LD.blK_b, LD.refK_r, LD.insK_i, LD.lookK_s, LD.lookK_n, LD.refS_r, LD.insS_i, LD.lookS_s, LD.seq_n, LD.seq_r, LD.seq_b, LD.seq_c, LD.seq_e, LD.storeK_s, LD.memK_s, LD.endF_n, LD.endF_r, LD.endF_e, LD.pick_t, LD.pick_f, LD.finL_f, LD.finL_t, LD.v_add, LD.v_sub, LD.v_mulR, LD.v_fdiv, LD.v_mod, LD.v_int, LD.v_lt, LD.v_le, LD.v_gt, LD.v_ge, LD.v_eq, LD.v_ne, LD.v_len, LD.v_tix, LD.v_lix, LD.v_rix, LD.rixK_l, LD.rixK_d, LD.v_isN, LD.v_isnN, LD.v_isNone, LD.v_isNoneN, LD.startD, List.length_cons, List.length_nil, List.map_cons, List.map_nil, List.cons_append, List.nil_append, List.append_nil, List.getElem?_cons_zero, List.getElem?_cons_succ, List.set_cons_zero, List.set_cons_succ, List.replicate_succ, List.replicate_zero, Nat.reduceAdd, Nat.reduceSub, Nat.reduceBEq, Int.reduceLT, Int.reduceNeg, Int.reduceLE, Nat.reduceLeDiff, Nat.reduceLT, List.lookup_cons, List.lookup_nil, beq_self_eq_true, Option.map_some, Option.map_none, hf, appK_s hL, nd0, eqK, elT]
      obtain ⟨f', M', y3, e2, e3, e4, e5⟩ := all_loop (n0 := n0) hpre ih r (fl ++ [(Nd.txt n x, pre)]) f (M.set f (.lst ((fl ++ [(Nd.txt n x, pre)]).map prA))) (some (ndD (.txt n x))) (by omega) hpm (by rw [List.length_append, List.length_singleton]; rw [numsN, List.length_singleton] at hl; omega) hn (hf1 _)
      rw [List.length_set] at e4
      refine ⟨f', M', y3, ?_, ?_, e4, fun j hj => ?_⟩
      · rw [List.map_cons]
        exact (forV_c rfl rfl e1).trans e2
      · rw [e3, allL, allN, List.append_assoc] <;> rfl
      · rw [e5 j hj, set_at (by omega)]
    | el n tag ats kids =>
      rw [htN] at hm
      rw [numsN, List.length_cons] at hl
      have hpl : (pre.map ndD).length + ([ndD (.el n tag ats kids)] : List D).length ≤ LINE := by rw [List.length_map, List.length_singleton]; have := big; omega
      have epre : (pre ++ [Nd.el n tag ats kids]).map ndD = pre.map ndD ++ [ndD (.el n tag ats kids)] := by rw [List.map_append] <;> rfl
      obtain ⟨i, M2, r1, r2, r3, r4⟩ := ih kids (M.set f (.lst ((fl ++ [(Nd.el n tag ats kids, pre)]).map prA))) (pre ++ [Nd.el n tag ats kids]) (by omega) (by omega) (by rw [List.length_append, List.length_singleton]; omega)
      rw [List.length_set] at r3 r4
      have hf2 : M2[f]? = some (.lst ((fl ++ [(Nd.el n tag ats kids, pre)]).map prA)) := by rw [r4 f hfl]; exact hf1 _
      have hsum : ((fl ++ [(Nd.el n tag ats kids, pre)]).map prA).length + ((allL kids (pre ++ [Nd.el n tag ats kids])).map prA).length ≤ LINE := by
        rw [List.length_map, List.length_map, allL_len, List.length_append, List.length_singleton]; have := big; omega
      have e1 : β__law_all_2 φr [a0, some (.lst (pre.map ndD)), some (.ref f), some (ndD (.el n tag ats kids))] M = .nx [a0, some (.lst (pre.map ndD)), some (.ref M2.length), some (ndD (.el n tag ats kids))] (M2 ++ [.lst ((fl ++ [(Nd.el n tag ats kids, pre)] ++ allL kids (pre ++ [Nd.el n tag ats kids])).map prA)]) := by
        rw [List.map_append (l₁ := fl ++ [(Nd.el n tag ats kids, pre)])]
        have ea := v_addM (v_lsR hf2) (v_lsR r2) hsum
        rw [epre] at r1
        rw [em] at r1 ea ⊢
        unfold β__law_all_2
        simp only [LD.v_lenO, LD.v_eqQi, LD.v_neQi, LD.q_Ins, LD.q_App, LD.okS_t, LD.v_isLst, LD.lstK_s, LD.v_app, LD.q_Rev, LD.lsK_s, LD.q_Get, LD.getKK_s, LD.v_lsL, LD.v_keyI, LD.v_keyS, Option.isSome_some, Option.isSome_none, Option.getD_some, Option.getD_none, LD.v_eqs, LD.v_nes, LD.v_isiBb, LD.q_C, LD.q_Var, LD.q_Bin, LD.q_Un, LD.q_tOf, LD.q_tCmp, LD.q_tAnd, LD.q_tOr, LD.q_tNot, LD.q_And, LD.q_Or, LD.q_Not, LD.q_If, LD.q_Nil, LD.q_Cons, LD.q_Tup, LD.q_Lst, LD.q_LstM, LD.q_Call, LD.q_Meth, LD.q_Attr, LD.q_Blt, LD.q_Comp, LD.q_iOf, LD.srcK_s, LD.v_truB, LD.v_truL, LD.v_truN, LD.v_srcL, LD.v_neg, LD.q_iRange, LD.q_Next, LD.q_Seq, LD.q_Expr, LD.q_Ret, LD.q_RetN, LD.q_SIf, LD.q_Bk, LD.q_Ct, LD.q_Asg, LD.q_Nm, LD.q_Sub, LD.q_Del, LD.q_Fld, LD.q_Dic, LD.q_For, LD.wipeD, Bool.not_true, Bool.not_false, LD.ifT, LD.le0, LD.le1, LD.le2, LD.le3, LD.le4, LD.le5, LD.le6, LD.cmpK_l, LD.nn_n, LD.nn_i, LD.nn_t, LD.nn_l, LD.nn_r, LD.nn_b, LD.nn_s, LD.nonK_n, LD.okK_o, LD.bind_k, LD.bind_b, LD.bind_e, LD.bindS_k, LD.bindS_e, LD.ofO_s, LD.getV_s, LD.truK_s, LD.blK_b, LD.refK_r, LD.insK_i, LD.lookK_s, LD.lookK_n, LD.refS_r, LD.insS_i, LD.lookS_s, LD.seq_n, LD.seq_r, LD.seq_b, LD.seq_c, LD.seq_e, LD.storeK_s, LD.memK_s, LD.endF_n, LD.endF_r, LD.endF_e, LD.pick_t, LD.pick_f, LD.finL_f, LD.finL_t, LD.v_add, LD.v_sub, LD.v_mulR, LD.v_fdiv, LD.v_mod, LD.v_int, LD.v_lt, LD.v_le, LD.v_gt, LD.v_ge, LD.v_eq, LD.v_ne, LD.v_len, LD.v_tix, LD.v_lix, LD.v_rix, LD.rixK_l, LD.rixK_d, LD.v_isN, LD.v_isnN, LD.v_isNone, LD.v_isNoneN, LD.startD, List.length_cons, List.length_nil, List.map_cons, List.map_nil, List.cons_append, List.nil_append, List.append_nil, List.getElem?_cons_zero, List.getElem?_cons_succ, List.set_cons_zero, List.set_cons_succ, List.replicate_succ, List.replicate_zero, Nat.reduceAdd, Nat.reduceSub, Nat.reduceBEq, Int.reduceLT, Int.reduceNeg, Int.reduceLE, Nat.reduceLeDiff, Nat.reduceLT, List.lookup_cons, List.lookup_nil, beq_self_eq_true, Option.map_some, Option.map_none, hf, appK_s hL, nd0, eqK, elE, nd4, v_addL hpl, r1, ea]
      obtain ⟨f', M', y3, e2, e3, e4, e5⟩ := all_loop (n0 := n0) hpre ih r (fl ++ [(Nd.el n tag ats kids, pre)] ++ allL kids (pre ++ [Nd.el n tag ats kids])) M2.length (M2 ++ [.lst ((fl ++ [(Nd.el n tag ats kids, pre)] ++ allL kids (pre ++ [Nd.el n tag ats kids])).map prA)]) (some (ndD (.el n tag ats kids))) (by omega) hpm
        (by rw [List.length_append, List.length_append, List.length_singleton, allL_len]; omega) (by omega) app_at
      rw [List.length_append, List.length_singleton] at e4
      refine ⟨f', M', y3, ?_, ?_, by omega, fun j hj => ?_⟩
      · rw [List.map_cons]
        exact (forV_c rfl rfl e1).trans e2
      · rw [e3, allL, allN]
        simp only [List.append_assoc, List.cons_append, List.nil_append]
      · rw [e5 j hj, app_old (by omega), r4 j (by omega), set_at (by omega)]
theorem all_eq : ∀ (m : Nat) (l : List Nd) (M : Mem) (pre : List Nd), htL l < m → (numsL l).length < 1000 → pre.length + m < 1000 → ∃ i M', φ__law_all m [.tup (l.map ndD), .lst (pre.map ndD)] M = .ok (.ref i) M' ∧ M'[i]? = some (.lst ((allL l pre).map prA)) ∧ M.length ≤ M'.length ∧ ∀ j, j < M.length → M'[j]? = M[j]?
  | 0, l, M, pre, h, _, _ => by omega
  | m + 1, l, M, pre, h, hn, hp => by
    obtain ⟨f', M', y3, e1, e2, e3, e4⟩ := all_loop (φr := φ__law_all m) (m := m) (pre := pre) (n0 := M.length) (a0 := some (.tup (l.map ndD))) (by omega) (fun kids M pre a b c => all_eq m kids M pre a b (by omega)) l [] M.length (M ++ [.lst []]) none (by omega) (by omega) (by show 0 + _ < _; omega) (Nat.le_refl _) app_at
    rw [List.length_append, List.length_singleton] at e3
    refine ⟨f', M', ?_, e2, by omega, fun j hj => by rw [e4 j hj, app_old hj]⟩
    rw [φ__law_all]
    refine run_def rfl ?_
    unfold ψ__law_all
    simp only [LD.v_lenO, LD.v_eqQi, LD.v_neQi, LD.q_Ins, LD.q_App, LD.okS_t, LD.v_isLst, LD.lstK_s, LD.v_app, LD.q_Rev, LD.lsK_s, LD.q_Get, LD.getKK_s, LD.v_lsL, LD.v_keyI, LD.v_keyS, Option.isSome_some, Option.isSome_none, Option.getD_some, Option.getD_none, LD.v_eqs, LD.v_nes, LD.v_isiBb, LD.q_C, LD.q_Var, LD.q_Bin, LD.q_Un, LD.q_tOf, LD.q_tCmp, LD.q_tAnd, LD.q_tOr, LD.q_tNot, LD.q_And, LD.q_Or, LD.q_Not, LD.q_If, LD.q_Nil, LD.q_Cons, LD.q_Tup, LD.q_Lst, LD.q_LstM, LD.q_Call, LD.q_Meth, LD.q_Attr, LD.q_Blt, LD.q_Comp, LD.q_iOf, LD.srcK_s, LD.v_truB, LD.v_truL, LD.v_truN, LD.v_srcL, LD.v_neg, LD.q_iRange, LD.q_Next, LD.q_Seq, LD.q_Expr, LD.q_Ret, LD.q_RetN, LD.q_SIf, LD.q_Bk, LD.q_Ct, LD.q_Asg, LD.q_Nm, LD.q_Sub, LD.q_Del, LD.q_Fld, LD.q_Dic, LD.q_For, LD.wipeD, Bool.not_true, Bool.not_false, LD.ifT, LD.le0, LD.le1, LD.le2, LD.le3, LD.le4, LD.le5, LD.le6, LD.cmpK_l, LD.nn_n, LD.nn_i, LD.nn_t, LD.nn_l, LD.nn_r, LD.nn_b, LD.nn_s, LD.nonK_n, LD.okK_o, LD.bind_k, LD.bind_b, LD.bind_e, LD.bindS_k, LD.bindS_e, LD.ofO_s, LD.getV_s, LD.truK_s, LD.blK_b, LD.refK_r, LD.insK_i, LD.lookK_s, LD.lookK_n, LD.refS_r, LD.insS_i, LD.lookS_s, LD.seq_n, LD.seq_r, LD.seq_b, LD.seq_c, LD.seq_e, LD.storeK_s, LD.memK_s, LD.endF_n, LD.endF_r, LD.endF_e, LD.pick_t, LD.pick_f, LD.finL_f, LD.finL_t, LD.v_add, LD.v_sub, LD.v_mulR, LD.v_fdiv, LD.v_mod, LD.v_int, LD.v_lt, LD.v_le, LD.v_gt, LD.v_ge, LD.v_eq, LD.v_ne, LD.v_len, LD.v_tix, LD.v_lix, LD.v_rix, LD.rixK_l, LD.rixK_d, LD.v_isN, LD.v_isnN, LD.v_isNone, LD.v_isNoneN, LD.startD, List.length_cons, List.length_nil, List.map_cons, List.map_nil, List.cons_append, List.nil_append, List.append_nil, List.getElem?_cons_zero, List.getElem?_cons_succ, List.set_cons_zero, List.set_cons_succ, List.replicate_succ, List.replicate_zero, Nat.reduceAdd, Nat.reduceSub, Nat.reduceBEq, Int.reduceLT, Int.reduceNeg, Int.reduceLE, Nat.reduceLeDiff, Nat.reduceLT, List.lookup_cons, List.lookup_nil, beq_self_eq_true, Option.map_some, Option.map_none, srcT, e1]
theorem mulk {p : Int} {k : Nat} {M : Mem} (hk : k < 1000) : mulD (.int p) (.int k) M = some (.int (p * k), M) := v_mul (by
  have : small (k : Int) = true := small_iff.mpr ⟨by omega, by omega⟩
  rw [this, Bool.or_true])
/-! ### the drawn rows: which they are does not matter -/
def pickc (ns : List Int) (k : Nat) : Int := if 0 < ns.length then (ns[k % ns.length]?).getD 0 else 0
def posc (c : Int) : Int := if c < 0 then 1 - 2 * c else c
def mix1 (c k : Int) : Int := ((c + 131 * k + 7) * 48271 + k * k * 69621) % 1000000007
def mix2 (c k : Int) : Int := ((c + 17 * k + 3) * 2862933555777941757) % 18446744073709551557
def mixc (n k c : Int) : Int := if n ≤ k ∨ c < 1000000000 then mix2 (mix1 c k) k else c
def rowv (ns : List Int) (k : Nat) : Int := mixc ns.length k (posc (pickc ns k))
theorem rows_body {ns : List Int} {k : Nat} {x4 : Option D} {rs : List Int} {n1 : D} (hk : k < 1000) (hl : rs.length < 1000) :
    β__law_rows_2 [some (intsD ns), some n1, some (.ref 0), some (.int k), x4] [.lst (rs.map .int)] = .nx [some (intsD ns), some n1, some (.ref 0), some (.int k), some (.int (rowv ns k))] [.lst ((rs ++ [rowv ns k]).map .int)] := by
  have hL : (rs.map D.int).length < LINE := by rw [List.length_map]; have := big; omega
  unfold β__law_rows_2
  refine (seqN (s1 := [some (intsD ns), some n1, some (.ref 0), some (.int k), some (.int 0)]) (M1 := [.lst (rs.map .int)]) (by simp only [LD.v_lenO, LD.v_eqQi, LD.v_neQi, LD.q_Ins, LD.q_App, LD.okS_t, LD.v_isLst, LD.lstK_s, LD.v_app, LD.q_Rev, LD.lsK_s, LD.q_Get, LD.getKK_s, LD.v_lsL, LD.v_keyI, LD.v_keyS, Option.isSome_some, Option.isSome_none, Option.getD_some, Option.getD_none, LD.v_eqs, LD.v_nes, LD.v_isiBb, LD.q_C, LD.q_Var, LD.q_Bin, LD.q_Un, LD.q_tOf, LD.q_tCmp, LD.q_tAnd, LD.q_tOr, LD.q_tNot, LD.q_And, LD.q_Or, LD.q_Not, LD.q_If, LD.q_Nil, LD.q_Cons, LD.q_Tup, LD.q_Lst, LD.q_LstM, LD.q_Call, LD.q_Meth, LD.q_Attr, LD.q_Blt, LD.q_Comp, LD.q_iOf, LD.srcK_s, LD.v_truB, LD.v_truL, LD.v_truN, LD.v_srcL, LD.v_neg, LD.q_iRange, LD.q_Next, LD.q_Seq, LD.q_Expr, LD.q_Ret, LD.q_RetN, LD.q_SIf, LD.q_Bk, LD.q_Ct, LD.q_Asg, LD.q_Nm, LD.q_Sub, LD.q_Del, LD.q_Fld, LD.q_Dic, LD.q_For, LD.wipeD, Bool.not_true, Bool.not_false, LD.ifT, LD.le0, LD.le1, LD.le2, LD.le3, LD.le4, LD.le5, LD.le6, LD.cmpK_l, LD.nn_n, LD.nn_i, LD.nn_t, LD.nn_l, LD.nn_r, LD.nn_b, LD.nn_s, LD.nonK_n, LD.okK_o, LD.bind_k, LD.bind_b, LD.bind_e, LD.bindS_k, LD.bindS_e, LD.ofO_s, LD.getV_s, LD.truK_s, LD.blK_b, LD.refK_r, LD.insK_i, LD.lookK_s, LD.lookK_n, LD.refS_r, LD.insS_i, LD.lookS_s, LD.seq_n, LD.seq_r, LD.seq_b, LD.seq_c, LD.seq_e, LD.storeK_s, LD.memK_s, LD.endF_n, LD.endF_r, LD.endF_e, LD.pick_t, LD.pick_f, LD.finL_f, LD.finL_t, LD.v_add, LD.v_sub, LD.v_mulR, LD.v_fdiv, LD.v_mod, LD.v_int, LD.v_lt, LD.v_le, LD.v_gt, LD.v_ge, LD.v_eq, LD.v_ne, LD.v_len, LD.v_tix, LD.v_lix, LD.v_rix, LD.rixK_l, LD.rixK_d, LD.v_isN, LD.v_isnN, LD.v_isNone, LD.v_isNoneN, LD.startD, List.length_cons, List.length_nil, List.map_cons, List.map_nil, List.cons_append, List.nil_append, List.append_nil, List.getElem?_cons_zero, List.getElem?_cons_succ, List.set_cons_zero, List.set_cons_succ, List.replicate_succ, List.replicate_zero, Nat.reduceAdd, Nat.reduceSub, Nat.reduceBEq, Int.reduceLT, Int.reduceNeg, Int.reduceLE, Nat.reduceLeDiff, Nat.reduceLT, List.lookup_cons, List.lookup_nil, beq_self_eq_true, Option.map_some, Option.map_none])).trans ?_
  refine (seqN (s1 := [some (intsD ns), some n1, some (.ref 0), some (.int k), some (.int (pickc ns k))]) (M1 := [.lst (rs.map .int)]) ?_).trans ?_
  · unfold intsD pickc
    by_cases h : 0 < ns.length
    · have hm : k % ns.length < ns.length := Nat.mod_lt _ h
      have hp : (0 : Int) < ns.length := by omega
      have hx : atI (ns.map D.int) ((k : Int) % (ns.length : Int)) = some (.int (ns[k % ns.length])) := by
        have e : ((k : Int) % (ns.length : Int)) = ((k % ns.length : Nat) : Int) := by omega
        rw [e]
        exact atN (by rw [List.getElem?_map, List.getElem?_eq_getElem hm] <;> rfl)
      rw [if_pos h, List.getElem?_eq_getElem hm]
      simp only [LD.v_lenO, LD.v_eqQi, LD.v_neQi, LD.q_Ins, LD.q_App, LD.okS_t, LD.v_isLst, LD.lstK_s, LD.v_app, LD.q_Rev, LD.lsK_s, LD.q_Get, LD.getKK_s, LD.v_lsL, LD.v_keyI, LD.v_keyS, Option.isSome_some, Option.isSome_none, Option.getD_some, Option.getD_none, LD.v_eqs, LD.v_nes, LD.v_isiBb, LD.q_C, LD.q_Var, LD.q_Bin, LD.q_Un, LD.q_tOf, LD.q_tCmp, LD.q_tAnd, LD.q_tOr, LD.q_tNot, LD.q_And, LD.q_Or, LD.q_Not, LD.q_If, LD.q_Nil, LD.q_Cons, LD.q_Tup, LD.q_Lst, LD.q_LstM, LD.q_Call, LD.q_Meth, LD.q_Attr, LD.q_Blt, LD.q_Comp, LD.q_iOf, LD.srcK_s, LD.v_truB, LD.v_truL, LD.v_truN, LD.v_srcL, LD.v_neg, LD.q_iRange, LD.q_Next, LD.q_Seq, LD.q_Expr, LD.q_Ret, LD.q_RetN, LD.q_SIf, LD.q_Bk, LD.q_Ct, LD.q_Asg, LD.q_Nm, LD.q_Sub, LD.q_Del, LD.q_Fld, LD.q_Dic, LD.q_For, LD.wipeD, Bool.not_true, Bool.not_false, LD.ifT, LD.le0, LD.le1, LD.le2, LD.le3, LD.le4, LD.le5, LD.le6, LD.cmpK_l, LD.nn_n, LD.nn_i, LD.nn_t, LD.nn_l, LD.nn_r, LD.nn_b, LD.nn_s, LD.nonK_n, LD.okK_o, LD.bind_k, LD.bind_b, LD.bind_e, LD.bindS_k, LD.bindS_e, LD.ofO_s, LD.getV_s, LD.truK_s, LD.blK_b, LD.refK_r, LD.insK_i, LD.lookK_s, LD.lookK_n, LD.refS_r, LD.insS_i, LD.lookS_s, LD.seq_n, LD.seq_r, LD.seq_b, LD.seq_c, LD.seq_e, LD.storeK_s, LD.memK_s, LD.endF_n, LD.endF_r, LD.endF_e, LD.pick_t, LD.pick_f, LD.finL_f, LD.finL_t, LD.v_add, LD.v_sub, LD.v_mulR, LD.v_fdiv, LD.v_mod, LD.v_int, LD.v_lt, LD.v_le, LD.v_gt, LD.v_ge, LD.v_eq, LD.v_ne, LD.v_len, LD.v_tix, LD.v_lix, LD.v_rix, LD.rixK_l, LD.rixK_d, LD.v_isN, LD.v_isnN, LD.v_isNone, LD.v_isNoneN, LD.startD, List.length_cons, List.length_nil, List.map_cons, List.map_nil, List.cons_append, List.nil_append, List.append_nil, List.getElem?_cons_zero, List.getElem?_cons_succ, List.set_cons_zero, List.set_cons_succ, List.replicate_succ, List.replicate_zero, Nat.reduceAdd, Nat.reduceSub, Nat.reduceBEq, Int.reduceLT, Int.reduceNeg, Int.reduceLE, Nat.reduceLeDiff, Nat.reduceLT, List.lookup_cons, List.lookup_nil, beq_self_eq_true, Option.map_some, Option.map_none, List.length_map, decide_eq_true hp, hx, v_mod hp]
    · have hp : ¬ (0 : Int) < ns.length := by omega
      rw [if_neg h]
      simp only [LD.v_lenO, LD.v_eqQi, LD.v_neQi, LD.q_Ins, LD.q_App, LD.okS_t, LD.v_isLst, LD.lstK_s, LD.v_app, LD.q_Rev, LD.lsK_s, LD.q_Get, LD.getKK_s, LD.v_lsL, LD.v_keyI, LD.v_keyS, Option.isSome_some, Option.isSome_none, Option.getD_some, Option.getD_none, LD.v_eqs, LD.v_nes, LD.v_isiBb, LD.q_C, LD.q_Var, LD.q_Bin, LD.q_Un, LD.q_tOf, LD.q_tCmp, LD.q_tAnd, LD.q_tOr, LD.q_tNot, LD.q_And, LD.q_Or, LD.q_Not, LD.q_If, LD.q_Nil, LD.q_Cons, LD.q_Tup, LD.q_Lst, LD.q_LstM, LD.q_Call, LD.q_Meth, LD.q_Attr, LD.q_Blt, LD.q_Comp, LD.q_iOf, LD.srcK_s, LD.v_truB, LD.v_truL, LD.v_truN, LD.v_srcL, LD.v_neg, LD.q_iRange, LD.q_Next, LD.q_Seq, LD.q_Expr, LD.q_Ret, LD.q_RetN, LD.q_SIf, LD.q_Bk, LD.q_Ct, LD.q_Asg, LD.q_Nm, LD.q_Sub, LD.q_Del, LD.q_Fld, LD.q_Dic, LD.q_For, LD.wipeD, Bool.not_true, Bool.not_false, LD.ifT, LD.le0, LD.le1, LD.le2, LD.le3, LD.le4, LD.le5, LD.le6, LD.cmpK_l, LD.nn_n, LD.nn_i, LD.nn_t, LD.nn_l, LD.nn_r, LD.nn_b, LD.nn_s, LD.nonK_n, LD.okK_o, LD.bind_k, LD.bind_b, LD.bind_e, LD.bindS_k, LD.bindS_e, LD.ofO_s, LD.getV_s, LD.truK_s, LD.blK_b, LD.refK_r, LD.insK_i, LD.lookK_s, LD.lookK_n, LD.refS_r, LD.insS_i, LD.lookS_s, LD.seq_n, LD.seq_r, LD.seq_b, LD.seq_c, LD.seq_e, LD.storeK_s, LD.memK_s, LD.endF_n, LD.endF_r, LD.endF_e, LD.pick_t, LD.pick_f, LD.finL_f, LD.finL_t, LD.v_add, LD.v_sub, LD.v_mulR, LD.v_fdiv, LD.v_mod, LD.v_int, LD.v_lt, LD.v_le, LD.v_gt, LD.v_ge, LD.v_eq, LD.v_ne, LD.v_len, LD.v_tix, LD.v_lix, LD.v_rix, LD.rixK_l, LD.rixK_d, LD.v_isN, LD.v_isnN, LD.v_isNone, LD.v_isNoneN, LD.startD, List.length_cons, List.length_nil, List.map_cons, List.map_nil, List.cons_append, List.nil_append, List.append_nil, List.getElem?_cons_zero, List.getElem?_cons_succ, List.set_cons_zero, List.set_cons_succ, List.replicate_succ, List.replicate_zero, Nat.reduceAdd, Nat.reduceSub, Nat.reduceBEq, Int.reduceLT, Int.reduceNeg, Int.reduceLE, Nat.reduceLeDiff, Nat.reduceLT, List.lookup_cons, List.lookup_nil, beq_self_eq_true, Option.map_some, Option.map_none, List.length_map, decide_eq_false hp]
  refine (seqN (s1 := [some (intsD ns), some n1, some (.ref 0), some (.int k), some (.int (posc (pickc ns k)))]) (M1 := [.lst (rs.map .int)]) ?_).trans ?_
  · generalize pickc ns k = c
    unfold posc
    by_cases h : c < 0
    · rw [if_pos h]
      simp only [LD.v_lenO, LD.v_eqQi, LD.v_neQi, LD.q_Ins, LD.q_App, LD.okS_t, LD.v_isLst, LD.lstK_s, LD.v_app, LD.q_Rev, LD.lsK_s, LD.q_Get, LD.getKK_s, LD.v_lsL, LD.v_keyI, LD.v_keyS, Option.isSome_some, Option.isSome_none, Option.getD_some, Option.getD_none, LD.v_eqs, LD.v_nes, LD.v_isiBb, LD.q_C, LD.q_Var, LD.q_Bin, LD.q_Un, LD.q_tOf, LD.q_tCmp, LD.q_tAnd, LD.q_tOr, LD.q_tNot, LD.q_And, LD.q_Or, LD.q_Not, LD.q_If, LD.q_Nil, LD.q_Cons, LD.q_Tup, LD.q_Lst, LD.q_LstM, LD.q_Call, LD.q_Meth, LD.q_Attr, LD.q_Blt, LD.q_Comp, LD.q_iOf, LD.srcK_s, LD.v_truB, LD.v_truL, LD.v_truN, LD.v_srcL, LD.v_neg, LD.q_iRange, LD.q_Next, LD.q_Seq, LD.q_Expr, LD.q_Ret, LD.q_RetN, LD.q_SIf, LD.q_Bk, LD.q_Ct, LD.q_Asg, LD.q_Nm, LD.q_Sub, LD.q_Del, LD.q_Fld, LD.q_Dic, LD.q_For, LD.wipeD, Bool.not_true, Bool.not_false, LD.ifT, LD.le0, LD.le1, LD.le2, LD.le3, LD.le4, LD.le5, LD.le6, LD.cmpK_l, LD.nn_n, LD.nn_i, LD.nn_t, LD.nn_l, LD.nn_r, LD.nn_b, LD.nn_s, LD.nonK_n, LD.okK_o, LD.bind_k, LD.bind_b, LD.bind_e, LD.bindS_k, LD.bindS_e, LD.ofO_s, LD.getV_s, LD.truK_s, LD.blK_b, LD.refK_r, LD.insK_i, LD.lookK_s, LD.lookK_n, LD.refS_r, LD.insS_i, LD.lookS_s, LD.seq_n, LD.seq_r, LD.seq_b, LD.seq_c, LD.seq_e, LD.storeK_s, LD.memK_s, LD.endF_n, LD.endF_r, LD.endF_e, LD.pick_t, LD.pick_f, LD.finL_f, LD.finL_t, LD.v_add, LD.v_sub, LD.v_mulR, LD.v_fdiv, LD.v_mod, LD.v_int, LD.v_lt, LD.v_le, LD.v_gt, LD.v_ge, LD.v_eq, LD.v_ne, LD.v_len, LD.v_tix, LD.v_lix, LD.v_rix, LD.rixK_l, LD.rixK_d, LD.v_isN, LD.v_isnN, LD.v_isNone, LD.v_isNoneN, LD.startD, List.length_cons, List.length_nil, List.map_cons, List.map_nil, List.cons_append, List.nil_append, List.append_nil, List.getElem?_cons_zero, List.getElem?_cons_succ, List.set_cons_zero, List.set_cons_succ, List.replicate_succ, List.replicate_zero, Nat.reduceAdd, Nat.reduceSub, Nat.reduceBEq, Int.reduceLT, Int.reduceNeg, Int.reduceLE, Nat.reduceLeDiff, Nat.reduceLT, List.lookup_cons, List.lookup_nil, beq_self_eq_true, Option.map_some, Option.map_none, decide_eq_true h, v_mulL]
    · rw [if_neg h]
      simp only [LD.v_lenO, LD.v_eqQi, LD.v_neQi, LD.q_Ins, LD.q_App, LD.okS_t, LD.v_isLst, LD.lstK_s, LD.v_app, LD.q_Rev, LD.lsK_s, LD.q_Get, LD.getKK_s, LD.v_lsL, LD.v_keyI, LD.v_keyS, Option.isSome_some, Option.isSome_none, Option.getD_some, Option.getD_none, LD.v_eqs, LD.v_nes, LD.v_isiBb, LD.q_C, LD.q_Var, LD.q_Bin, LD.q_Un, LD.q_tOf, LD.q_tCmp, LD.q_tAnd, LD.q_tOr, LD.q_tNot, LD.q_And, LD.q_Or, LD.q_Not, LD.q_If, LD.q_Nil, LD.q_Cons, LD.q_Tup, LD.q_Lst, LD.q_LstM, LD.q_Call, LD.q_Meth, LD.q_Attr, LD.q_Blt, LD.q_Comp, LD.q_iOf, LD.srcK_s, LD.v_truB, LD.v_truL, LD.v_truN, LD.v_srcL, LD.v_neg, LD.q_iRange, LD.q_Next, LD.q_Seq, LD.q_Expr, LD.q_Ret, LD.q_RetN, LD.q_SIf, LD.q_Bk, LD.q_Ct, LD.q_Asg, LD.q_Nm, LD.q_Sub, LD.q_Del, LD.q_Fld, LD.q_Dic, LD.q_For, LD.wipeD, Bool.not_true, Bool.not_false, LD.ifT, LD.le0, LD.le1, LD.le2, LD.le3, LD.le4, LD.le5, LD.le6, LD.cmpK_l, LD.nn_n, LD.nn_i, LD.nn_t, LD.nn_l, LD.nn_r, LD.nn_b, LD.nn_s, LD.nonK_n, LD.okK_o, LD.bind_k, LD.bind_b, LD.bind_e, LD.bindS_k, LD.bindS_e, LD.ofO_s, LD.getV_s, LD.truK_s, LD.blK_b, LD.refK_r, LD.insK_i, LD.lookK_s, LD.lookK_n, LD.refS_r, LD.insS_i, LD.lookS_s, LD.seq_n, LD.seq_r, LD.seq_b, LD.seq_c, LD.seq_e, LD.storeK_s, LD.memK_s, LD.endF_n, LD.endF_r, LD.endF_e, LD.pick_t, LD.pick_f, LD.finL_f, LD.finL_t, LD.v_add, LD.v_sub, LD.v_mulR, LD.v_fdiv, LD.v_mod, LD.v_int, LD.v_lt, LD.v_le, LD.v_gt, LD.v_ge, LD.v_eq, LD.v_ne, LD.v_len, LD.v_tix, LD.v_lix, LD.v_rix, LD.rixK_l, LD.rixK_d, LD.v_isN, LD.v_isnN, LD.v_isNone, LD.v_isNoneN, LD.startD, List.length_cons, List.length_nil, List.map_cons, List.map_nil, List.cons_append, List.nil_append, List.append_nil, List.getElem?_cons_zero, List.getElem?_cons_succ, List.set_cons_zero, List.set_cons_succ, List.replicate_succ, List.replicate_zero, Nat.reduceAdd, Nat.reduceSub, Nat.reduceBEq, Int.reduceLT, Int.reduceNeg, Int.reduceLE, Nat.reduceLeDiff, Nat.reduceLT, List.lookup_cons, List.lookup_nil, beq_self_eq_true, Option.map_some, Option.map_none, decide_eq_false h]
  refine (seqN (s1 := [some (intsD ns), some n1, some (.ref 0), some (.int k), some (.int (rowv ns k))]) (M1 := [.lst (rs.map .int)]) ?_).trans ?_
  · unfold rowv
    generalize posc (pickc ns k) = c
    unfold mixc intsD
    by_cases h : (ns.length : Int) ≤ k
    · rw [if_pos (.inl h)]
      unfold mix2 mix1
      simp only [LD.v_lenO, LD.v_eqQi, LD.v_neQi, LD.q_Ins, LD.q_App, LD.okS_t, LD.v_isLst, LD.lstK_s, LD.v_app, LD.q_Rev, LD.lsK_s, LD.q_Get, LD.getKK_s, LD.v_lsL, LD.v_keyI, LD.v_keyS, Option.isSome_some, Option.isSome_none, Option.getD_some, Option.getD_none, LD.v_eqs, LD.v_nes, LD.v_isiBb, LD.q_C, LD.q_Var, LD.q_Bin, LD.q_Un, LD.q_tOf, LD.q_tCmp, LD.q_tAnd, LD.q_tOr, LD.q_tNot, LD.q_And, LD.q_Or, LD.q_Not, LD.q_If, LD.q_Nil, LD.q_Cons, LD.q_Tup, LD.q_Lst, LD.q_LstM, LD.q_Call, LD.q_Meth, LD.q_Attr, LD.q_Blt, LD.q_Comp, LD.q_iOf, LD.srcK_s, LD.v_truB, LD.v_truL, LD.v_truN, LD.v_srcL, LD.v_neg, LD.q_iRange, LD.q_Next, LD.q_Seq, LD.q_Expr, LD.q_Ret, LD.q_RetN, LD.q_SIf, LD.q_Bk, LD.q_Ct, LD.q_Asg, LD.q_Nm, LD.q_Sub, LD.q_Del, LD.q_Fld, LD.q_Dic, LD.q_For, LD.wipeD, Bool.not_true, Bool.not_false, LD.ifT, LD.le0, LD.le1, LD.le2, LD.le3, LD.le4, LD.le5, LD.le6, LD.cmpK_l, LD.nn_n, LD.nn_i, LD.nn_t, LD.nn_l, LD.nn_r, LD.nn_b, LD.nn_s, LD.nonK_n, LD.okK_o, LD.bind_k, LD.bind_b, LD.bind_e, LD.bindS_k, LD.bindS_e, LD.ofO_s, LD.getV_s, LD.truK_s, LD.blK_b, LD.refK_r, LD.insK_i, LD.lookK_s, LD.lookK_n, LD.refS_r, LD.insS_i, LD.lookS_s, LD.seq_n, LD.seq_r, LD.seq_b, LD.seq_c, LD.seq_e, LD.storeK_s, LD.memK_s, LD.endF_n, LD.endF_r, LD.endF_e, LD.pick_t, LD.pick_f, LD.finL_f, LD.finL_t, LD.v_add, LD.v_sub, LD.v_mulR, LD.v_fdiv, LD.v_mod, LD.v_int, LD.v_lt, LD.v_le, LD.v_gt, LD.v_ge, LD.v_eq, LD.v_ne, LD.v_len, LD.v_tix, LD.v_lix, LD.v_rix, LD.rixK_l, LD.rixK_d, LD.v_isN, LD.v_isnN, LD.v_isNone, LD.v_isNoneN, LD.startD, List.length_cons, List.length_nil, List.map_cons, List.map_nil, List.cons_append, List.nil_append, List.append_nil, List.getElem?_cons_zero, List.getElem?_cons_succ, List.set_cons_zero, List.set_cons_succ, List.replicate_succ, List.replicate_zero, Nat.reduceAdd, Nat.reduceSub, Nat.reduceBEq, Int.reduceLT, Int.reduceNeg, Int.reduceLE, Nat.reduceLeDiff, Nat.reduceLT, List.lookup_cons, List.lookup_nil, beq_self_eq_true, Option.map_some, Option.map_none, List.length_map, decide_eq_true h, mulk hk]
    · by_cases h2 : c < 1000000000
      · rw [if_pos (.inr h2)]
        unfold mix2 mix1
        simp only [LD.v_lenO, LD.v_eqQi, LD.v_neQi, LD.q_Ins, LD.q_App, LD.okS_t, LD.v_isLst, LD.lstK_s, LD.v_app, LD.q_Rev, LD.lsK_s, LD.q_Get, LD.getKK_s, LD.v_lsL, LD.v_keyI, LD.v_keyS, Option.isSome_some, Option.isSome_none, Option.getD_some, Option.getD_none, LD.v_eqs, LD.v_nes, LD.v_isiBb, LD.q_C, LD.q_Var, LD.q_Bin, LD.q_Un, LD.q_tOf, LD.q_tCmp, LD.q_tAnd, LD.q_tOr, LD.q_tNot, LD.q_And, LD.q_Or, LD.q_Not, LD.q_If, LD.q_Nil, LD.q_Cons, LD.q_Tup, LD.q_Lst, LD.q_LstM, LD.q_Call, LD.q_Meth, LD.q_Attr, LD.q_Blt, LD.q_Comp, LD.q_iOf, LD.srcK_s, LD.v_truB, LD.v_truL, LD.v_truN, LD.v_srcL, LD.v_neg, LD.q_iRange, LD.q_Next, LD.q_Seq, LD.q_Expr, LD.q_Ret, LD.q_RetN, LD.q_SIf, LD.q_Bk, LD.q_Ct, LD.q_Asg, LD.q_Nm, LD.q_Sub, LD.q_Del, LD.q_Fld, LD.q_Dic, LD.q_For, LD.wipeD, Bool.not_true, Bool.not_false, LD.ifT, LD.le0, LD.le1, LD.le2, LD.le3, LD.le4, LD.le5, LD.le6, LD.cmpK_l, LD.nn_n, LD.nn_i, LD.nn_t, LD.nn_l, LD.nn_r, LD.nn_b, LD.nn_s, LD.nonK_n, LD.okK_o, LD.bind_k, LD.bind_b, LD.bind_e, LD.bindS_k, LD.bindS_e, LD.ofO_s, LD.getV_s, LD.truK_s, LD.blK_b, LD.refK_r, LD.insK_i, LD.lookK_s, LD.lookK_n, LD.refS_r, LD.insS_i, LD.lookS_s, LD.seq_n, LD.seq_r, LD.seq_b, LD.seq_c, LD.seq_e, LD.storeK_s, LD.memK_s, LD.endF_n, LD.endF_r, LD.endF_e, LD.pick_t, LD.pick_f, LD.finL_f, LD.finL_t, LD.v_add, LD.v_sub, LD.v_mulR, LD.v_fdiv, LD.v_mod, LD.v_int, LD.v_lt, LD.v_le, LD.v_gt, LD.v_ge, LD.v_eq, LD.v_ne, LD.v_len, LD.v_tix, LD.v_lix, LD.v_rix, LD.rixK_l, LD.rixK_d, LD.v_isN, LD.v_isnN, LD.v_isNone, LD.v_isNoneN, LD.startD, List.length_cons, List.length_nil, List.map_cons, List.map_nil, List.cons_append, List.nil_append, List.append_nil, List.getElem?_cons_zero, List.getElem?_cons_succ, List.set_cons_zero, List.set_cons_succ, List.replicate_succ, List.replicate_zero, Nat.reduceAdd, Nat.reduceSub, Nat.reduceBEq, Int.reduceLT, Int.reduceNeg, Int.reduceLE, Nat.reduceLeDiff, Nat.reduceLT, List.lookup_cons, List.lookup_nil, beq_self_eq_true, Option.map_some, Option.map_none, List.length_map, decide_eq_false h, decide_eq_true h2, mulk hk]
      · rw [if_neg (fun z => z.elim h h2)]
        simp only [LD.v_lenO, LD.v_eqQi, LD.v_neQi, LD.q_Ins, LD.q_App, LD.okS_t, LD.v_isLst, LD.lstK_s, LD.v_app, LD.q_Rev, LD.lsK_s, LD.q_Get, LD.getKK_s, LD.v_lsL, LD.v_keyI, LD.v_keyS, Option.isSome_some, Option.isSome_none, Option.getD_some, Option.getD_none, LD.v_eqs, LD.v_nes, LD.v_isiBb, LD.q_C, LD.q_Var, LD.q_Bin, LD.q_Un, LD.q_tOf, LD.q_tCmp, LD.q_tAnd, LD.q_tOr, LD.q_tNot, LD.q_And, LD.q_Or, LD.q_Not, LD.q_If, LD.q_Nil, LD.q_Cons, LD.q_Tup, LD.q_Lst, LD.q_LstM, LD.q_Call, LD.q_Meth, LD.q_Attr, LD.q_Blt, LD.q_Comp, LD.q_iOf, LD.srcK_s, LD.v_truB, LD.v_truL, LD.v_truN, LD.v_srcL, LD.v_neg, LD.q_iRange, LD.q_Next, LD.q_Seq, LD.q_Expr, LD.q_Ret, LD.q_RetN, LD.q_SIf, LD.q_Bk, LD.q_Ct, LD.q_Asg, LD.q_Nm, LD.q_Sub, LD.q_Del, LD.q_Fld, LD.q_Dic, LD.q_For, LD.wipeD, Bool.not_true, Bool.not_false, LD.ifT, LD.le0, LD.le1, LD.le2, LD.le3, LD.le4, LD.le5, LD.le6, LD.cmpK_l, LD.nn_n, LD.nn_i, LD.nn_t, LD.nn_l, LD.nn_r, LD.nn_b, LD.nn_s, LD.nonK_n, LD.okK_o, LD.bind_k, LD.bind_b, LD.bind_e, LD.bindS_k, LD.bindS_e, LD.ofO_s, LD.getV_s, LD.truK_s, LD.blK_b, LD.refK_r, LD.insK_i, LD.lookK_s, LD.lookK_n, LD.refS_r, LD.insS_i, LD.lookS_s, LD.seq_n, LD.seq_r, LD.seq_b, LD.seq_c, LD.seq_e, LD.storeK_s, LD.memK_s, LD.endF_n, LD.endF_r, LD.endF_e, LD.pick_t, LD.pick_f, LD.finL_f, LD.finL_t, LD.v_add, LD.v_sub, LD.v_mulR, LD.v_fdiv, LD.v_mod, LD.v_int, LD.v_lt, LD.v_le, LD.v_gt, LD.v_ge, LD.v_eq, LD.v_ne, LD.v_len, LD.v_tix, LD.v_lix, LD.v_rix, LD.rixK_l, LD.rixK_d, LD.v_isN, LD.v_isnN, LD.v_isNone, LD.v_isNoneN, LD.startD, List.length_cons, List.length_nil, List.map_cons, List.map_nil, List.cons_append, List.nil_append, List.append_nil, List.getElem?_cons_zero, List.getElem?_cons_succ, List.set_cons_zero, List.set_cons_succ, List.replicate_succ, List.replicate_zero, Nat.reduceAdd, Nat.reduceSub, Nat.reduceBEq, Int.reduceLT, Int.reduceNeg, Int.reduceLE, Nat.reduceLeDiff, Nat.reduceLT, List.lookup_cons, List.lookup_nil, beq_self_eq_true, Option.map_some, Option.map_none, List.length_map, decide_eq_false h, decide_eq_false h2]
  unfold intsD
  simp only [LD.v_lenO, LD.v_eqQi, LD.v_neQi, LD.q_Ins, LD.q_App, LD.okS_t, LD.v_isLst, LD.lstK_s, LD.v_app, LD.q_Rev, LD.lsK_s, LD.q_Get, LD.getKK_s, LD.v_lsL, LD.v_keyI, LD.v_keyS, Option.isSome_some, Option.isSome_none, Option.getD_some, Option.getD_none, LD.v_eqs, LD.v_nes, LD.v_isiBb, LD.q_C, LD.q_Var, LD.q_Bin, LD.q_Un, LD.q_tOf, LD.q_tCmp, LD.q_tAnd, LD.q_tOr, LD.q_tNot, LD.q_And, LD.q_Or, LD.q_Not, LD.q_If, LD.q_Nil, LD.q_Cons, LD.q_Tup, LD.q_Lst, LD.q_LstM, LD.q_Call, LD.q_Meth, LD.q_Attr, LD.q_Blt, LD.q_Comp, LD.q_iOf, LD.srcK_s, LD.v_truB, LD.v_truL, LD.v_truN, LD.v_srcL, LD.v_neg, LD.q_iRange, LD.q_Next, LD.q_Seq, LD.q_Expr, LD.q_Ret, LD.q_RetN, LD.q_SIf, LD.q_Bk, LD.q_Ct, LD.q_Asg, LD.q_Nm, LD.q_Sub, LD.q_Del, LD.q_Fld, LD.q_Dic, LD.q_For, LD.wipeD, Bool.not_true, Bool.not_false, LD.ifT, LD.le0, LD.le1, LD.le2, LD.le3, LD.le4, LD.le5, LD.le6, LD.cmpK_l, LD.nn_n, LD.nn_i, LD.nn_t, LD.nn_l, LD.nn_r, LD.nn_b, LD.nn_s, LD.nonK_n, LD.okK_o, LD.bind_k, LD.bind_b, LD.bind_e, LD.bindS_k, LD.bindS_e, LD.ofO_s, LD.getV_s, LD.truK_s, LD.blK_b, LD.refK_r, LD.insK_i, LD.lookK_s, LD.lookK_n, LD.refS_r, LD.insS_i, LD.lookS_s, LD.seq_n, LD.seq_r, LD.seq_b, LD.seq_c, LD.seq_e, LD.storeK_s, LD.memK_s, LD.endF_n, LD.endF_r, LD.endF_e, LD.pick_t, LD.pick_f, LD.finL_f, LD.finL_t, LD.v_add, LD.v_sub, LD.v_mulR, LD.v_fdiv, LD.v_mod, LD.v_int, LD.v_lt, LD.v_le, LD.v_gt, LD.v_ge, LD.v_eq, LD.v_ne, LD.v_len, LD.v_tix, LD.v_lix, LD.v_rix, LD.rixK_l, LD.rixK_d, LD.v_isN, LD.v_isnN, LD.v_isNone, LD.v_isNoneN, LD.startD, List.length_cons, List.length_nil, List.map_cons, List.map_nil, List.cons_append, List.nil_append, List.append_nil, List.getElem?_cons_zero, List.getElem?_cons_succ, List.set_cons_zero, List.set_cons_succ, List.replicate_succ, List.replicate_zero, Nat.reduceAdd, Nat.reduceSub, Nat.reduceBEq, Int.reduceLT, Int.reduceNeg, Int.reduceLE, Nat.reduceLeDiff, Nat.reduceLT, List.lookup_cons, List.lookup_nil, beq_self_eq_true, Option.map_some, Option.map_none, hL, appK_s hL, List.map_append]
theorem rows_loop {ns : List Int} {n1 : D} : ∀ (ks : List Nat) (rs : List Int) (x3 x4 : Option D), (∀ k ∈ ks, k < 1000) → rs.length + ks.length < 1000 → ∃ x3' x4', forV (fun _ => true) (gNm 3) β__law_rows_2 (ks.map fun k : Nat => .int k) [some (intsD ns), some n1, some (.ref 0), x3, x4] [.lst (rs.map .int)] =
      .nx [some (intsD ns), some n1, some (.ref 0), x3', x4'] [.lst ((rs ++ ks.map (rowv ns)).map .int)]
  | [], rs, x3, x4, _, _ => ⟨x3, x4, by rw [List.map_nil, List.map_nil, List.append_nil]; exact forV_n rfl⟩
  | k :: ks, rs, x3, x4, h, hl => by
    have hk := h k List.mem_cons_self
    rw [List.length_cons] at hl
    obtain ⟨y3, y4, e⟩ := rows_loop (ns := ns) (n1 := n1) ks (rs ++ [rowv ns k]) (some (.int k)) (some (.int (rowv ns k))) (fun j hj => h j (List.mem_cons_of_mem _ hj)) (by rw [List.length_append, List.length_singleton]; omega)
    refine ⟨y3, y4, ?_⟩
    rw [List.map_cons]
    refine (forV_c rfl rfl (rows_body hk (by omega))).trans ?_
    rw [e, List.append_assoc] <;> rfl
def rowL (ns : List Int) (m : Nat) : List Int := (List.range m).map (rowv ns)
theorem rows_eq (ns : List Int) (m : Nat) (hm : m < 900) : φ__law_rows [intsD ns, .int m] [] = .ok (.ref 0) [.lst ((rowL ns m).map .int)] := by
  unfold φ__law_rows
  refine run_def rfl ?_
  unfold ψ__law_rows
  obtain ⟨x3, x4, e⟩ := rows_loop (ns := ns) (n1 := .int m) (List.range m) [] none none (fun k hk => by have := List.mem_range.mp hk; omega) (by rw [List.length_range]; show 0 + m < 1000; omega)
  have hr : rngK [.int (m : Int)] [.lst []] = .ok ⟨(List.range m).map fun k : Nat => .int k, fun _ => true⟩ [.lst []] := by
    rw [rngN (by omega) (by omega)]
    congr 2
    unfold rangeL
    rw [Int.toNat_natCast]
    congr 1
    funext i
    simp
  simp only [LD.v_lenO, LD.v_eqQi, LD.v_neQi, LD.q_Ins, LD.q_App, LD.okS_t, LD.v_isLst, LD.lstK_s, LD.v_app, LD.q_Rev, LD.lsK_s, LD.q_Get, LD.getKK_s, LD.v_lsL, LD.v_keyI, LD.v_keyS, Option.isSome_some, Option.isSome_none, Option.getD_some, Option.getD_none, LD.v_eqs, LD.v_nes, LD.v_isiBb, LD.q_C, LD.q_Var, LD.q_Bin, LD.q_Un, LD.q_tOf, LD.q_tCmp, LD.q_tAnd, LD.q_tOr, LD.q_tNot, LD.q_And, LD.q_Or, LD.q_Not, LD.q_If, LD.q_Nil, LD.q_Cons, LD.q_Tup, LD.q_Lst, LD.q_LstM, LD.q_Call, LD.q_Meth, LD.q_Attr, LD.q_Blt, LD.q_Comp, LD.q_iOf, LD.srcK_s, LD.v_truB, LD.v_truL, LD.v_truN, LD.v_srcL, LD.v_neg, LD.q_iRange, LD.q_Next, LD.q_Seq, LD.q_Expr, LD.q_Ret, LD.q_RetN, LD.q_SIf, LD.q_Bk, LD.q_Ct, LD.q_Asg, LD.q_Nm, LD.q_Sub, LD.q_Del, LD.q_Fld, LD.q_Dic, LD.q_For, LD.wipeD, Bool.not_true, Bool.not_false, LD.ifT, LD.le0, LD.le1, LD.le2, LD.le3, LD.le4, LD.le5, LD.le6, LD.cmpK_l, LD.nn_n, LD.nn_i, LD.nn_t, LD.nn_l, LD.nn_r, LD.nn_b, LD.nn_s, LD.nonK_n, LD.okK_o, LD.bind_k, LD.bind_b, LD.bind_e, LD.bindS_k, LD.bindS_e, LD.ofO_s, LD.getV_s, LD.truK_s, LD.blK_b, LD.refK_r, LD.insK_i, LD.lookK_s, LD.lookK_n, LD.refS_r, LD.insS_i, LD.lookS_s, LD.seq_n, LD.seq_r, LD.seq_b, LD.seq_c, LD.seq_e, LD.storeK_s, LD.memK_s, LD.endF_n, LD.endF_r, LD.endF_e, LD.pick_t, LD.pick_f, LD.finL_f, LD.finL_t, LD.v_add, LD.v_sub, LD.v_mulR, LD.v_fdiv, LD.v_mod, LD.v_int, LD.v_lt, LD.v_le, LD.v_gt, LD.v_ge, LD.v_eq, LD.v_ne, LD.v_len, LD.v_tix, LD.v_lix, LD.v_rix, LD.rixK_l, LD.rixK_d, LD.v_isN, LD.v_isnN, LD.v_isNone, LD.v_isNoneN, LD.startD, List.length_cons, List.length_nil, List.map_cons, List.map_nil, List.cons_append, List.nil_append, List.append_nil, List.getElem?_cons_zero, List.getElem?_cons_succ, List.set_cons_zero, List.set_cons_succ, List.replicate_succ, List.replicate_zero, Nat.reduceAdd, Nat.reduceSub, Nat.reduceBEq, Int.reduceLT, Int.reduceNeg, Int.reduceLE, Nat.reduceLeDiff, Nat.reduceLT, List.lookup_cons, List.lookup_nil, beq_self_eq_true, Option.map_some, Option.map_none, hr]
  rw [List.map_nil] at e
  rw [e]
  simp only [LD.v_lenO, LD.v_eqQi, LD.v_neQi, LD.q_Ins, LD.q_App, LD.okS_t, LD.v_isLst, LD.lstK_s, LD.v_app, LD.q_Rev, LD.lsK_s, LD.q_Get, LD.getKK_s, LD.v_lsL, LD.v_keyI, LD.v_keyS, Option.isSome_some, Option.isSome_none, Option.getD_some, Option.getD_none, LD.v_eqs, LD.v_nes, LD.v_isiBb, LD.q_C, LD.q_Var, LD.q_Bin, LD.q_Un, LD.q_tOf, LD.q_tCmp, LD.q_tAnd, LD.q_tOr, LD.q_tNot, LD.q_And, LD.q_Or, LD.q_Not, LD.q_If, LD.q_Nil, LD.q_Cons, LD.q_Tup, LD.q_Lst, LD.q_LstM, LD.q_Call, LD.q_Meth, LD.q_Attr, LD.q_Blt, LD.q_Comp, LD.q_iOf, LD.srcK_s, LD.v_truB, LD.v_truL, LD.v_truN, LD.v_srcL, LD.v_neg, LD.q_iRange, LD.q_Next, LD.q_Seq, LD.q_Expr, LD.q_Ret, LD.q_RetN, LD.q_SIf, LD.q_Bk, LD.q_Ct, LD.q_Asg, LD.q_Nm, LD.q_Sub, LD.q_Del, LD.q_Fld, LD.q_Dic, LD.q_For, LD.wipeD, Bool.not_true, Bool.not_false, LD.ifT, LD.le0, LD.le1, LD.le2, LD.le3, LD.le4, LD.le5, LD.le6, LD.cmpK_l, LD.nn_n, LD.nn_i, LD.nn_t, LD.nn_l, LD.nn_r, LD.nn_b, LD.nn_s, LD.nonK_n, LD.okK_o, LD.bind_k, LD.bind_b, LD.bind_e, LD.bindS_k, LD.bindS_e, LD.ofO_s, LD.getV_s, LD.truK_s, LD.blK_b, LD.refK_r, LD.insK_i, LD.lookK_s, LD.lookK_n, LD.refS_r, LD.insS_i, LD.lookS_s, LD.seq_n, LD.seq_r, LD.seq_b, LD.seq_c, LD.seq_e, LD.storeK_s, LD.memK_s, LD.endF_n, LD.endF_r, LD.endF_e, LD.pick_t, LD.pick_f, LD.finL_f, LD.finL_t, LD.v_add, LD.v_sub, LD.v_mulR, LD.v_fdiv, LD.v_mod, LD.v_int, LD.v_lt, LD.v_le, LD.v_gt, LD.v_ge, LD.v_eq, LD.v_ne, LD.v_len, LD.v_tix, LD.v_lix, LD.v_rix, LD.rixK_l, LD.rixK_d, LD.v_isN, LD.v_isnN, LD.v_isNone, LD.v_isNoneN, LD.startD, List.length_cons, List.length_nil, List.map_cons, List.map_nil, List.cons_append, List.nil_append, List.append_nil, List.getElem?_cons_zero, List.getElem?_cons_succ, List.set_cons_zero, List.set_cons_succ, List.replicate_succ, List.replicate_zero, Nat.reduceAdd, Nat.reduceSub, Nat.reduceBEq, Int.reduceLT, Int.reduceNeg, Int.reduceLE, Nat.reduceLeDiff, Nat.reduceLT, List.lookup_cons, List.lookup_nil, beq_self_eq_true, Option.map_some, Option.map_none]
  rfl


/-! ### drawn documents -/
abbrev Mw (R ids : List Int) (at_ left : Int) (E : Mem) : Mem := .lst (R.map .int) :: .lst (ids.map .int) :: .dic [(.inr "at", .int at_), (.inr "left", .int left), (.inr "ids", .ref 1)] :: E
theorem row_at {R : List Int} {i : Nat} (h : i < R.length) : ∃ r, atI (R.map D.int) (i : Int) = some (.int r) := ⟨R[i], atN (by rw [List.getElem?_map, List.getElem?_eq_getElem h] <;> rfl)⟩
theorem row_mod {R : List Int} (h : R.length = 60) (a : Int) : ∃ r, atI (R.map D.int) (a % ((R.map D.int).length : Int)) = some (.int r) := by
  rw [List.length_map, h]
  have h0 := Int.emod_nonneg a (show (60 : Int) ≠ 0 by decide)
  have h1 := Int.emod_lt_of_pos a (show (0 : Int) < 40 by decide)
  obtain ⟨i, hi⟩ : ∃ i : Nat, a % 60 = (i : Int) := ⟨(a % 60).toNat, by omega⟩
  show ∃ r, atI (R.map D.int) (a % (60 : Int)) = some (.int r)
  rw [hi]
  exact row_at (by omega)
theorem pick7 (c : Int) (h0 : 0 ≤ c) (h : c < 7) (x0 x1 x2 x3 x4 x5 x6 : D) (P : D → Prop) (a0 : P x0) (a1 : P x1) (a2 : P x2) (a3 : P x3) (a4 : P x4) (a5 : P x5) (a6 : P x6) : ∃ d, atI [x0, x1, x2, x3, x4, x5, x6] c = some d ∧ P d := by
  have h : c = 0 ∨ c = 1 ∨ c = 2 ∨ c = 3 ∨ c = 4 ∨ c = 5 ∨ c = 6 := by omega
  rcases h with rfl | rfl | rfl | rfl | rfl | rfl | rfl
  · exact ⟨_, rfl, a0⟩
  · exact ⟨_, rfl, a1⟩
  · exact ⟨_, rfl, a2⟩
  · exact ⟨_, rfl, a3⟩
  · exact ⟨_, rfl, a4⟩
  · exact ⟨_, rfl, a5⟩
  · exact ⟨_, rfl, a6⟩
def isS (d : D) : Prop := ∃ x : Str, d = .str x
theorem att_loop {M : Mem} {row : Int} {a1 a2 : D} (e1 : a1 = .lst [.str "checked", .str "default", .str "disabled", .str "kind", .str "locked", .str "name", .str "value"]) (e2 : a2 = .lst [.str "true", .str "false", .str "", .str "box", .str "a", .str "b", .str "yes"]) :
    ∀ (js : List Nat) (ats : List (Str × Str)) (x4 : Option D), (∀ j ∈ js, j < 7) → ats.length + js.length < 1000 → ∃ ats' x4', forV (fun _ => true) (gNm 4) β__law_attributes_4 (js.map fun j : Nat => .int j) [some (.int row), some a1, some a2, some (.ref M.length), x4] (M ++ [.lst (ats.map prS)]) =
      .nx [some (.int row), some a1, some a2, some (.ref M.length), x4'] (M ++ [.lst ((ats' : List (Str × Str)).map prS)])
  | [], ats, x4, _, _ => ⟨ats, x4, forV_n rfl⟩
  | j :: js, ats, x4, hj, hl => by
    rw [List.length_cons] at hl
    have h7 := hj j List.mem_cons_self
    have hL : (ats.map prS).length < LINE := by rw [List.length_map]; have := big; omega
    have hS : ∀ o : DO, (M ++ [DO.lst (ats.map prS)]).set M.length o = M ++ [o] := fun o => by
      rw [List.set_append_right _ _ (Nat.le_refl _), Nat.sub_self] <;> rfl
    obtain ⟨c, hc, c', rfl, c0, c1⟩ := pick7 (j : Int) (by omega) (by omega) (.int 3) (.int 12) (.int 48) (.int 192) (.int 768) (.int 3072) (.int 12288) (fun d => ∃ c : Int, d = .int c ∧ 0 < c ∧ c < 1073741824) ⟨_, rfl, by decide, by decide⟩ ⟨_, rfl, by decide, by decide⟩ ⟨_, rfl, by decide, by decide⟩ ⟨_, rfl, by decide, by decide⟩ ⟨_, rfl, by decide, by decide⟩ ⟨_, rfl, by decide, by decide⟩ ⟨_, rfl, by decide, by decide⟩
    have q5 : (0 : Int) < 5 + 7 * j := by omega
    have q6 : (5 + 7 * j : Int) < 1073741824 := by omega
    have k7 : ∀ M : Mem, mulD (.int 7) (.int j) M = some (.int (7 * j), M) := fun M => mulk (by omega)
    by_cases hk : row / c' % 4 = 1
    · obtain ⟨d, hd, a, rfl⟩ := pick7 (j : Int) (by omega) (by omega) (.str "checked") (.str "default") (.str "disabled") (.str "kind") (.str "locked") (.str "name") (.str "value") isS ⟨_, rfl⟩ ⟨_, rfl⟩ ⟨_, rfl⟩ ⟨_, rfl⟩ ⟨_, rfl⟩ ⟨_, rfl⟩ ⟨_, rfl⟩
      obtain ⟨d, hd2, b, rfl⟩ := pick7 (row / (5 + 7 * j) % 7) (Int.emod_nonneg _ (by decide)) (Int.emod_lt_of_pos _ (by decide)) (.str "true") (.str "false") (.str "") (.str "box") (.str "a") (.str "b") (.str "yes") isS ⟨_, rfl⟩ ⟨_, rfl⟩ ⟨_, rfl⟩ ⟨_, rfl⟩ ⟨_, rfl⟩ ⟨_, rfl⟩ ⟨_, rfl⟩
      obtain ⟨ats', x4', e⟩ := att_loop (M := M) (row := row) e1 e2 js (ats ++ [(a, b)]) (some (.int j)) (fun i hi => hj i (List.mem_cons_of_mem _ hi)) (by rw [List.length_append, List.length_singleton]; omega)
      refine ⟨ats', x4', ?_⟩
      rw [List.map_cons]
      refine (forV_c (s2 := [some (.int row), some a1, some a2, some (.ref M.length), some (.int j)]) (M2 := M ++ [.lst ((ats ++ [(a, b)]).map prS)]) rfl rfl ?_).trans e
      have em : (ats ++ [(a, b)]).map prS = ats.map prS ++ [.tup [.str a, .str b]] := by rw [List.map_append] <;> rfl
      rw [em, e1, e2]
      unfold β__law_attributes_4
      simp only [LD.v_lenO, LD.v_eqQi, LD.v_neQi, LD.q_Ins, LD.q_App, LD.okS_t, LD.v_isLst, LD.lstK_s, LD.v_app, LD.q_Rev, LD.lsK_s, LD.q_Get, LD.getKK_s, LD.v_lsL, LD.v_keyI, LD.v_keyS, Option.isSome_some, Option.isSome_none, Option.getD_some, Option.getD_none, LD.v_eqs, LD.v_nes, LD.v_isiBb, LD.q_C, LD.q_Var, LD.q_Bin, LD.q_Un, LD.q_tOf, LD.q_tCmp, LD.q_tAnd, LD.q_tOr, LD.q_tNot, LD.q_And, LD.q_Or, LD.q_Not, LD.q_If, LD.q_Nil, LD.q_Cons, LD.q_Tup, LD.q_Lst, LD.q_LstM, LD.q_Call, LD.q_Meth, LD.q_Attr, LD.q_Blt, LD.q_Comp, LD.q_iOf, LD.srcK_s, LD.v_truB, LD.v_truL, LD.v_truN, LD.v_srcL, LD.v_neg, LD.q_iRange, LD.q_Next, LD.q_Seq, LD.q_Expr, LD.q_Ret, LD.q_RetN, LD.q_SIf, LD.q_Bk, LD.q_Ct, LD.q_Asg, LD.q_Nm, LD.q_Sub, LD.q_Del, LD.q_Fld, LD.q_Dic, LD.q_For, LD.wipeD, Bool.not_true, Bool.not_false, LD.ifT, LD.le0, LD.le1, LD.le2, LD.le3, LD.le4, LD.le5, LD.le6, LD.cmpK_l, LD.nn_n, LD.nn_i, LD.nn_t, LD.nn_l, LD.nn_r, LD.nn_b, LD.nn_s, LD.nonK_n, LD.okK_o, LD.bind_k, LD.bind_b, LD.bind_e, LD.bindS_k, LD.bindS_e, LD.ofO_s, LD.getV_s, LD.truK_s, LD.blK_b, LD.refK_r, LD.insK_i, LD.lookK_s, LD.lookK_n, LD.refS_r, LD.insS_i, LD.lookS_s, LD.seq_n, LD.seq_r, LD.seq_b, LD.seq_c, LD.seq_e, LD.storeK_s, LD.memK_s, LD.endF_n, LD.endF_r, LD.endF_e, LD.pick_t, LD.pick_f, LD.finL_f, LD.finL_t, LD.v_add, LD.v_sub, LD.v_mulR, LD.v_fdiv, LD.v_mod, LD.v_int, LD.v_lt, LD.v_le, LD.v_gt, LD.v_ge, LD.v_eq, LD.v_ne, LD.v_len, LD.v_tix, LD.v_lix, LD.v_rix, LD.rixK_l, LD.rixK_d, LD.v_isN, LD.v_isnN, LD.v_isNone, LD.v_isNoneN, LD.startD, List.length_cons, List.length_nil, List.map_cons, List.map_nil, List.cons_append, List.nil_append, List.append_nil, List.getElem?_cons_zero, List.getElem?_cons_succ, List.set_cons_zero, List.set_cons_succ, List.replicate_succ, List.replicate_zero, Nat.reduceAdd, Nat.reduceSub, Nat.reduceBEq, Int.reduceLT, Int.reduceNeg, Int.reduceLE, Nat.reduceLeDiff, Nat.reduceLT, List.lookup_cons, List.lookup_nil, beq_self_eq_true, Option.map_some, Option.map_none, le7, hc, v_fdiv c0 c1, beq_iff_eq.mpr hk, app_at, appK_s hL, hS, hd, k7, v_fdiv q5 q6, hd2]
    · obtain ⟨ats', x4', e⟩ := att_loop (M := M) (row := row) e1 e2 js ats (some (.int j)) (fun i hi => hj i (List.mem_cons_of_mem _ hi)) (by omega)
      refine ⟨ats', x4', ?_⟩
      rw [List.map_cons]
      refine (forV_c (s2 := [some (.int row), some a1, some a2, some (.ref M.length), some (.int j)]) (M2 := M ++ [.lst (ats.map prS)]) rfl rfl ?_).trans e
      unfold β__law_attributes_4
      simp only [LD.v_lenO, LD.v_eqQi, LD.v_neQi, LD.q_Ins, LD.q_App, LD.okS_t, LD.v_isLst, LD.lstK_s, LD.v_app, LD.q_Rev, LD.lsK_s, LD.q_Get, LD.getKK_s, LD.v_lsL, LD.v_keyI, LD.v_keyS, Option.isSome_some, Option.isSome_none, Option.getD_some, Option.getD_none, LD.v_eqs, LD.v_nes, LD.v_isiBb, LD.q_C, LD.q_Var, LD.q_Bin, LD.q_Un, LD.q_tOf, LD.q_tCmp, LD.q_tAnd, LD.q_tOr, LD.q_tNot, LD.q_And, LD.q_Or, LD.q_Not, LD.q_If, LD.q_Nil, LD.q_Cons, LD.q_Tup, LD.q_Lst, LD.q_LstM, LD.q_Call, LD.q_Meth, LD.q_Attr, LD.q_Blt, LD.q_Comp, LD.q_iOf, LD.srcK_s, LD.v_truB, LD.v_truL, LD.v_truN, LD.v_srcL, LD.v_neg, LD.q_iRange, LD.q_Next, LD.q_Seq, LD.q_Expr, LD.q_Ret, LD.q_RetN, LD.q_SIf, LD.q_Bk, LD.q_Ct, LD.q_Asg, LD.q_Nm, LD.q_Sub, LD.q_Del, LD.q_Fld, LD.q_Dic, LD.q_For, LD.wipeD, Bool.not_true, Bool.not_false, LD.ifT, LD.le0, LD.le1, LD.le2, LD.le3, LD.le4, LD.le5, LD.le6, LD.cmpK_l, LD.nn_n, LD.nn_i, LD.nn_t, LD.nn_l, LD.nn_r, LD.nn_b, LD.nn_s, LD.nonK_n, LD.okK_o, LD.bind_k, LD.bind_b, LD.bind_e, LD.bindS_k, LD.bindS_e, LD.ofO_s, LD.getV_s, LD.truK_s, LD.blK_b, LD.refK_r, LD.insK_i, LD.lookK_s, LD.lookK_n, LD.refS_r, LD.insS_i, LD.lookS_s, LD.seq_n, LD.seq_r, LD.seq_b, LD.seq_c, LD.seq_e, LD.storeK_s, LD.memK_s, LD.endF_n, LD.endF_r, LD.endF_e, LD.pick_t, LD.pick_f, LD.finL_f, LD.finL_t, LD.v_add, LD.v_sub, LD.v_mulR, LD.v_fdiv, LD.v_mod, LD.v_int, LD.v_lt, LD.v_le, LD.v_gt, LD.v_ge, LD.v_eq, LD.v_ne, LD.v_len, LD.v_tix, LD.v_lix, LD.v_rix, LD.rixK_l, LD.rixK_d, LD.v_isN, LD.v_isnN, LD.v_isNone, LD.v_isNoneN, LD.startD, List.length_cons, List.length_nil, List.map_cons, List.map_nil, List.cons_append, List.nil_append, List.append_nil, List.getElem?_cons_zero, List.getElem?_cons_succ, List.set_cons_zero, List.set_cons_succ, List.replicate_succ, List.replicate_zero, Nat.reduceAdd, Nat.reduceSub, Nat.reduceBEq, Int.reduceLT, Int.reduceNeg, Int.reduceLE, Nat.reduceLeDiff, Nat.reduceLT, List.lookup_cons, List.lookup_nil, beq_self_eq_true, Option.map_some, Option.map_none, le7, hc, v_fdiv c0 c1, beq_eq_false_iff_ne.mpr hk]
theorem tup_r {M : Mem} {i : Nat} {xs : List D} (h : M[i]? = some (.lst xs)) : tupleC [.ref i] M = some (.tup xs, M) := by
  have : sqOf M (.ref i) = some xs := by
    unfold sqOf
    exact v_lsR h
  unfold tupleC
  simp only [this]
  rfl
theorem atts_eq {M : Mem} {row : Int} : ∃ ats : List (Str × Str), φ__law_attributes [.int row] M = .ok (.tup (ats.map prS)) (M ++ [.lst (ats.map prS)]) := by
  obtain ⟨ats, x4, e⟩ := att_loop (M := M) (row := row) rfl rfl (List.range 7) [] none (fun j hj => List.mem_range.mp hj) (by decide)
  refine ⟨ats, ?_⟩
  have hr : ∀ M : Mem, rngK [.int 7] M = .ok ⟨(List.range 7).map fun j : Nat => .int j, fun _ => true⟩ M := fun _ => rfl
  rw [List.map_nil] at e
  unfold φ__law_attributes
  refine run_def rfl ?_
  unfold ψ__law_attributes
  simp only [LD.v_lenO, LD.v_eqQi, LD.v_neQi, LD.q_Ins, LD.q_App, LD.okS_t, LD.v_isLst, LD.lstK_s, LD.v_app, LD.q_Rev, LD.lsK_s, LD.q_Get, LD.getKK_s, LD.v_lsL, LD.v_keyI, LD.v_keyS, Option.isSome_some, Option.isSome_none, Option.getD_some, Option.getD_none, LD.v_eqs, LD.v_nes, LD.v_isiBb, LD.q_C, LD.q_Var, LD.q_Bin, LD.q_Un, LD.q_tOf, LD.q_tCmp, LD.q_tAnd, LD.q_tOr, LD.q_tNot, LD.q_And, LD.q_Or, LD.q_Not, LD.q_If, LD.q_Nil, LD.q_Cons, LD.q_Tup, LD.q_Lst, LD.q_LstM, LD.q_Call, LD.q_Meth, LD.q_Attr, LD.q_Blt, LD.q_Comp, LD.q_iOf, LD.srcK_s, LD.v_truB, LD.v_truL, LD.v_truN, LD.v_srcL, LD.v_neg, LD.q_iRange, LD.q_Next, LD.q_Seq, LD.q_Expr, LD.q_Ret, LD.q_RetN, LD.q_SIf, LD.q_Bk, LD.q_Ct, LD.q_Asg, LD.q_Nm, LD.q_Sub, LD.q_Del, LD.q_Fld, LD.q_Dic, LD.q_For, LD.wipeD, Bool.not_true, Bool.not_false, LD.ifT, LD.le0, LD.le1, LD.le2, LD.le3, LD.le4, LD.le5, LD.le6, LD.cmpK_l, LD.nn_n, LD.nn_i, LD.nn_t, LD.nn_l, LD.nn_r, LD.nn_b, LD.nn_s, LD.nonK_n, LD.okK_o, LD.bind_k, LD.bind_b, LD.bind_e, LD.bindS_k, LD.bindS_e, LD.ofO_s, LD.getV_s, LD.truK_s, LD.blK_b, LD.refK_r, LD.insK_i, LD.lookK_s, LD.lookK_n, LD.refS_r, LD.insS_i, LD.lookS_s, LD.seq_n, LD.seq_r, LD.seq_b, LD.seq_c, LD.seq_e, LD.storeK_s, LD.memK_s, LD.endF_n, LD.endF_r, LD.endF_e, LD.pick_t, LD.pick_f, LD.finL_f, LD.finL_t, LD.v_add, LD.v_sub, LD.v_mulR, LD.v_fdiv, LD.v_mod, LD.v_int, LD.v_lt, LD.v_le, LD.v_gt, LD.v_ge, LD.v_eq, LD.v_ne, LD.v_len, LD.v_tix, LD.v_lix, LD.v_rix, LD.rixK_l, LD.rixK_d, LD.v_isN, LD.v_isnN, LD.v_isNone, LD.v_isNoneN, LD.startD, List.length_cons, List.length_nil, List.map_cons, List.map_nil, List.cons_append, List.nil_append, List.append_nil, List.getElem?_cons_zero, List.getElem?_cons_succ, List.set_cons_zero, List.set_cons_succ, List.replicate_succ, List.replicate_zero, Nat.reduceAdd, Nat.reduceSub, Nat.reduceBEq, Int.reduceLT, Int.reduceNeg, Int.reduceLE, Nat.reduceLeDiff, Nat.reduceLT, List.lookup_cons, List.lookup_nil, beq_self_eq_true, Option.map_some, Option.map_none, le7, hr, e, tup_r app_at]

theorem lenR {R ids : List Int} {a l : Int} {E : Mem} : lenO ((0, φ_Controls___len__) :: []) [.ref 0] (Mw R ids a l E) = some (.int (R.map D.int).length, Mw R ids a l E) := rfl
theorem posR {R : List Int} (h : R.length = 60) : (0 : Int) < ((R.map D.int).length : Int) := by rw [List.length_map, h]; decide
def sg (ids : List Int) (l l' : Nat) : List Int := ((ids.take l).drop l').reverse
theorem sg_self (ids : List Int) (l : Nat) : sg ids l l = [] := by
  unfold sg
  rw [List.drop_eq_nil_of_le (by rw [List.length_take]; omega)] <;> rfl
theorem sg_app {ids : List Int} {l l1 l' : Nat} (h1 : l' ≤ l1) (h2 : l1 ≤ l) (h3 : l ≤ ids.length) : sg ids l l1 ++ sg ids l1 l' = sg ids l l' := by
  unfold sg
  rw [← List.reverse_append]
  congr 1
  have e : ids.take l = ids.take l1 ++ (ids.take l).drop l1 := by
    have := (List.take_append_drop l1 (ids.take l)).symm
    rwa [List.take_take, Nat.min_eq_left h2] at this
  conv => rhs; rw [e]
  rw [List.drop_append_of_le_length (by rw [List.length_take]; omega)]
theorem sg_one {ids : List Int} {l : Nat} (h : l < ids.length) : sg ids (l + 1) l = [ids[l]] := by
  unfold sg
  rw [List.take_succ_eq_append_getElem h, List.drop_append_of_le_length (by rw [List.length_take]; omega), List.drop_eq_nil_of_le (by rw [List.length_take]; omega)] <;> rfl
theorem kat {a l : Int} {M : Mem} : rixK (some (.dic [(.inr "at", .int a), (.inr "left", .int l), (.inr "ids", .ref 1)])) (.str "at") M = some (.int a, M) := rfl
theorem kleft {a l : Int} {M : Mem} : rixK (some (.dic [(.inr "at", .int a), (.inr "left", .int l), (.inr "ids", .ref 1)])) (.str "left") M = some (.int l, M) := rfl
theorem kids_ {a l : Int} {M : Mem} : rixK (some (.dic [(.inr "at", .int a), (.inr "left", .int l), (.inr "ids", .ref 1)])) (.str "ids") M = some (.ref 1, M) := rfl
theorem sat {R ids : List Int} {a l v : Int} {E : Mem} : setD (.ref 2) (.str "at") (.int v) (Mw R ids a l E) = some (Mw R ids v l E) := rfl
theorem sleft {R ids : List Int} {a l v : Int} {E : Mem} : setD (.ref 2) (.str "left") (.int v) (Mw R ids a l E) = some (Mw R ids a v E) := rfl
theorem log50 : ∀ n : Nat, n < 50 → n.log2 < 1920 := by decide
theorem t_str {i : Int} (h0 : 0 ≤ i) (h : i < 50) (M : Mem) : ∃ x y : Str, strC [.int i] M = some (.str x, M) ∧ addD (.str "t") (.str x) M = some (.str y, M) := by
  have hl : i.natAbs.log2 < 1920 := log50 _ (by omega)
  have hx : (Str.ofString (toString i)).length ≤ 13 := PyData.shown_int_le (i := i) (by omega)
  refine ⟨_, _, if_pos hl, v_adds (a := "t") ?_⟩
  have := big
  have e : ("t" : Str).length = 1 := rfl
  omega
theorem pick8 (c : Int) (h0 : 0 ≤ c) (h : c < 8) (x0 x1 x2 x3 x4 x5 x6 x7 : Str) : ∃ d : Str, atI [D.str x0, .str x1, .str x2, .str x3, .str x4, .str x5, .str x6, .str x7] c = some (.str d) := by
  have h : c = 0 ∨ c = 1 ∨ c = 2 ∨ c = 3 ∨ c = 4 ∨ c = 5 ∨ c = 6 ∨ c = 7 := by omega
  rcases h with rfl | rfl | rfl | rfl | rfl | rfl | rfl | rfl <;> exact ⟨_, rfl⟩
theorem forV_b {chk : Mem → Bool} {γ : GSem} {ψ : SSem} {s s1 s2 : DS} {M M2 : Mem} {x : D} {xs : List D} (hc : chk M = true) (hg : γ x M s = some s1) (h : ψ s1 M = .bk s2 M2) : forV chk γ ψ (x :: xs) s M = .nx s2 M2 := by
  unfold forV
  rw [if_pos hc, hg]
  simp only [h]
/-- what a call for nodes promises -/
def NdOk (φ : FnD) (R ids : List Int) (d m : Nat) : Prop := ∀ (a : Int) (l : Nat) (E : Mem), l ≤ ids.length → ∃ (ks : List Nd) (a' : Int) (l' : Nat) (X : Mem), φ [.ref 0, .ref 2, .int d] (Mw R ids a l E) = .ok (.tup (ks.map ndD)) (Mw R ids a' l' (E ++ X)) ∧ l' ≤ l ∧ numsL ks = sg ids l l' ∧ htL ks ≤ m
theorem node_body {φr : FnD} {R ids : List Int} {d m : Nat} (hR : R.length = 60) (ih : d < 4 → NdOk φr R ids (d + 1) m) {E0 Y : Mem} {cur : List Nd} {a : Int} {l : Nat} (hl : l < ids.length) (hc : cur.length < 1000) {x4 x5 x6 x7 x8 : Option D} :
    ∃ (nd : Nd) (a' : Int) (l' : Nat) (Y' : Mem) (y5 y6 y7 y8 : Option D), β__law_nodes_2 φr [some (.ref 0), some (.ref 2), some (.int d), some (.ref (E0.length + 3)), x4, x5, x6, x7, x8] (Mw R ids a (l + 1 : Nat) (E0 ++ .lst (cur.map ndD) :: Y)) =
      .nx [some (.ref 0), some (.ref 2), some (.int d), some (.ref (E0.length + 3)), x4, y5, y6, y7, y8] (Mw R ids a' l' (E0 ++ .lst ((cur ++ [nd]).map ndD) :: Y')) ∧ l' ≤ l ∧ numsN nd = sg ids (l + 1) l' ∧ htN nd ≤ m + 1 := by
  obtain ⟨r, hr⟩ := row_mod hR a
  have hid : atI (ids.map D.int) (l : Int) = some (.int ids[l]) := atN (by rw [List.getElem?_map, List.getElem?_eq_getElem hl] <;> rfl)
  have hL : (cur.map ndD).length < LINE := by rw [List.length_map]; have := big; omega
  have hM : ∀ (a l : Int) (Y : Mem), (Mw R ids a l (E0 ++ .lst (cur.map ndD) :: Y))[E0.length + 3]? = some (.lst (cur.map ndD)) := fun a l Y => by
    show (E0 ++ DO.lst _ :: Y)[E0.length]? = _
    rw [List.getElem?_append_right (Nat.le_refl _), Nat.sub_self] <;> rfl
  have hS : ∀ (a l : Int) (Y : Mem) (o : DO), (Mw R ids a l (E0 ++ .lst (cur.map ndD) :: Y)).set (E0.length + 3) o = Mw R ids a l (E0 ++ o :: Y) := fun a l Y o => by
    show _ :: _ :: _ :: (E0 ++ DO.lst _ :: Y).set E0.length o = _
    rw [List.set_append_right _ _ (Nat.le_refl _), Nat.sub_self] <;> rfl
  have d0 : decide (((l + 1 : Nat) : Int) ≤ 0) = false := decide_eq_false (by omega)
  have d1 : ((l + 1 : Nat) : Int) - 1 = (l : Int) := by omega
  generalize hrow : r / 3 = row
  by_cases hk : row % 4 = 0
  · obtain ⟨x, y, hx, hy⟩ := t_str (i := row / 4 % 50) (Int.emod_nonneg _ (by decide)) (Int.emod_lt_of_pos _ (by decide)) (Mw R ids (a + 1) l (E0 ++ .lst (cur.map ndD) :: Y))
    have em : (cur ++ [Nd.txt ids[l] y]).map ndD = cur.map ndD ++ [.tup [.str "text", .int ids[l], .str y]] := by rw [List.map_append, List.map_singleton, ndD]
    refine ⟨.txt ids[l] y, a + 1, l, Y, some (.int row), some (.int ids[l]), x7, x8, ?_, Nat.le_refl _, by rw [numsN, sg_one hl], by rw [htN]; omega⟩
    rw [em]
    unfold β__law_nodes_2
    simp only [LD.v_lenO, LD.v_eqQi, LD.v_neQi, LD.q_Ins, LD.q_App, LD.okS_t, LD.v_isLst, LD.lstK_s, LD.v_app, LD.q_Rev, LD.lsK_s, LD.q_Get, LD.getKK_s, LD.v_lsL, LD.v_keyI, LD.v_keyS, Option.isSome_some, Option.isSome_none, Option.getD_some, Option.getD_none, LD.v_eqs, LD.v_nes, LD.v_isiBb, LD.q_C, LD.q_Var, LD.q_Bin, LD.q_Un, LD.q_tOf, LD.q_tCmp, LD.q_tAnd, LD.q_tOr, LD.q_tNot, LD.q_And, LD.q_Or, LD.q_Not, LD.q_If, LD.q_Nil, LD.q_Cons, LD.q_Tup, LD.q_Lst, LD.q_LstM, LD.q_Call, LD.q_Meth, LD.q_Attr, LD.q_Blt, LD.q_Comp, LD.q_iOf, LD.srcK_s, LD.v_truB, LD.v_truL, LD.v_truN, LD.v_srcL, LD.v_neg, LD.q_iRange, LD.q_Next, LD.q_Seq, LD.q_Expr, LD.q_Ret, LD.q_RetN, LD.q_SIf, LD.q_Bk, LD.q_Ct, LD.q_Asg, LD.q_Nm, LD.q_Sub, LD.q_Del, LD.q_Fld, LD.q_Dic, LD.q_For, LD.wipeD, Bool.not_true, Bool.not_false, LD.ifT, LD.le0, LD.le1, LD.le2, LD.le3, LD.le4, LD.le5, LD.le6, LD.cmpK_l, LD.nn_n, LD.nn_i, LD.nn_t, LD.nn_l, LD.nn_r, LD.nn_b, LD.nn_s, LD.nonK_n, LD.okK_o, LD.bind_k, LD.bind_b, LD.bind_e, LD.bindS_k, LD.bindS_e, LD.ofO_s, LD.getV_s, LD.truK_s, LD.blK_b, LD.refK_r, LD.insK_i, LD.lookK_s, LD.lookK_n, LD.refS_r, LD.insS_i, LD.lookS_s, LD.seq_n, LD.seq_r, LD.seq_b, LD.seq_c, LD.seq_e, LD.storeK_s, LD.memK_s, LD.endF_n, LD.endF_r, LD.endF_e, LD.pick_t, LD.pick_f, LD.finL_f, LD.finL_t, LD.v_add, LD.v_sub, LD.v_mulR, LD.v_fdiv, LD.v_mod, LD.v_int, LD.v_lt, LD.v_le, LD.v_gt, LD.v_ge, LD.v_eq, LD.v_ne, LD.v_len, LD.v_tix, LD.v_lix, LD.v_rix, LD.rixK_l, LD.rixK_d, LD.v_isN, LD.v_isnN, LD.v_isNone, LD.v_isNoneN, LD.startD, List.length_cons, List.length_nil, List.map_cons, List.map_nil, List.cons_append, List.nil_append, List.append_nil, List.getElem?_cons_zero, List.getElem?_cons_succ, List.set_cons_zero, List.set_cons_succ, List.replicate_succ, List.replicate_zero, Nat.reduceAdd, Nat.reduceSub, Nat.reduceBEq, Int.reduceLT, Int.reduceNeg, Int.reduceLE, Nat.reduceLeDiff, Nat.reduceLT, List.lookup_cons, List.lookup_nil, beq_self_eq_true, Option.map_some, Option.map_none, kat, lenR, v_mod (posR hR), hr, hrow, sat, kleft, d0, d1, sleft, kids_, hid, beq_iff_eq.mpr hk, hM, hx, hy, appK_s hL, hS]
  · have nk : (row % 4 == 0) = false := beq_eq_false_iff_ne.mpr hk
    obtain ⟨tag, ht⟩ := pick8 (row / 4 % 8) (Int.emod_nonneg _ (by decide)) (Int.emod_lt_of_pos _ (by decide)) "input" "area" "select" "option" "box" "div" "form" "input"
    have hat : ∀ (a l : Int) (Y : Mem), ∃ ats : List (Str × Str), φ__law_attributes [.int (row / 96)] (Mw R ids a l (E0 ++ .lst (cur.map ndD) :: Y)) = .ok (.tup (ats.map prS)) (Mw R ids a l (E0 ++ .lst (cur.map ndD) :: (Y ++ [.lst (ats.map prS)]))) := fun a l Y => by
      obtain ⟨ats, e⟩ := atts_eq (M := Mw R ids a l (E0 ++ .lst (cur.map ndD) :: Y)) (row := row / 96)
      refine ⟨ats, e.trans ?_⟩
      show LD.R.ok _ (_ :: _ :: _ :: ((E0 ++ .lst (cur.map ndD) :: Y) ++ [.lst (ats.map prS)])) = _
      rw [List.append_assoc] <;> rfl
    by_cases hq : d < 4 ∧ 0 < row / 32 % 3
    · obtain ⟨ks, a', l', X, e1, e2, e3, e4⟩ := ih hq.1 (a + 1) l (E0 ++ .lst (cur.map ndD) :: Y) (by omega)
      obtain ⟨ats, ea⟩ := hat a' l' (Y ++ X)
      have em : (cur ++ [Nd.el ids[l] tag ats ks]).map ndD = cur.map ndD ++ [.tup [.str "element", .int ids[l], .str tag, .tup (ats.map prS), .tup (ks.map ndD)]] := by rw [List.map_append, List.map_singleton, ndD, ndsD_map]
      refine ⟨.el ids[l] tag ats ks, a', l', Y ++ X ++ [.lst (ats.map prS)], some (.int row), some (.int ids[l]), some (.str tag), some (.tup (ks.map ndD)), ?_, e2, ?_, by rw [htN]; omega⟩
      · have hd : decide ((d : Int) < 4) = true := decide_eq_true (by omega)
        have ed : (d : Int) + 1 = ((d + 1 : Nat) : Int) := by omega
        have e1' : φr [.ref 0, .ref 2, .int ((d + 1 : Nat) : Int)] (Mw R ids (a + 1) l (E0 ++ .lst (cur.map ndD) :: Y)) = .ok (.tup (ks.map ndD)) (Mw R ids a' l' (E0 ++ .lst (cur.map ndD) :: (Y ++ X))) := by
          rw [e1, List.append_assoc] <;> rfl
        rw [em]
        unfold β__law_nodes_2
        simp only [LD.v_lenO, LD.v_eqQi, LD.v_neQi, LD.q_Ins, LD.q_App, LD.okS_t, LD.v_isLst, LD.lstK_s, LD.v_app, LD.q_Rev, LD.lsK_s, LD.q_Get, LD.getKK_s, LD.v_lsL, LD.v_keyI, LD.v_keyS, Option.isSome_some, Option.isSome_none, Option.getD_some, Option.getD_none, LD.v_eqs, LD.v_nes, LD.v_isiBb, LD.q_C, LD.q_Var, LD.q_Bin, LD.q_Un, LD.q_tOf, LD.q_tCmp, LD.q_tAnd, LD.q_tOr, LD.q_tNot, LD.q_And, LD.q_Or, LD.q_Not, LD.q_If, LD.q_Nil, LD.q_Cons, LD.q_Tup, LD.q_Lst, LD.q_LstM, LD.q_Call, LD.q_Meth, LD.q_Attr, LD.q_Blt, LD.q_Comp, LD.q_iOf, LD.srcK_s, LD.v_truB, LD.v_truL, LD.v_truN, LD.v_srcL, LD.v_neg, LD.q_iRange, LD.q_Next, LD.q_Seq, LD.q_Expr, LD.q_Ret, LD.q_RetN, LD.q_SIf, LD.q_Bk, LD.q_Ct, LD.q_Asg, LD.q_Nm, LD.q_Sub, LD.q_Del, LD.q_Fld, LD.q_Dic, LD.q_For, LD.wipeD, Bool.not_true, Bool.not_false, LD.ifT, LD.le0, LD.le1, LD.le2, LD.le3, LD.le4, LD.le5, LD.le6, LD.cmpK_l, LD.nn_n, LD.nn_i, LD.nn_t, LD.nn_l, LD.nn_r, LD.nn_b, LD.nn_s, LD.nonK_n, LD.okK_o, LD.bind_k, LD.bind_b, LD.bind_e, LD.bindS_k, LD.bindS_e, LD.ofO_s, LD.getV_s, LD.truK_s, LD.blK_b, LD.refK_r, LD.insK_i, LD.lookK_s, LD.lookK_n, LD.refS_r, LD.insS_i, LD.lookS_s, LD.seq_n, LD.seq_r, LD.seq_b, LD.seq_c, LD.seq_e, LD.storeK_s, LD.memK_s, LD.endF_n, LD.endF_r, LD.endF_e, LD.pick_t, LD.pick_f, LD.finL_f, LD.finL_t, LD.v_add, LD.v_sub, LD.v_mulR, LD.v_fdiv, LD.v_mod, LD.v_int, LD.v_lt, LD.v_le, LD.v_gt, LD.v_ge, LD.v_eq, LD.v_ne, LD.v_len, LD.v_tix, LD.v_lix, LD.v_rix, LD.rixK_l, LD.rixK_d, LD.v_isN, LD.v_isnN, LD.v_isNone, LD.v_isNoneN, LD.startD, List.length_cons, List.length_nil, List.map_cons, List.map_nil, List.cons_append, List.nil_append, List.append_nil, List.getElem?_cons_zero, List.getElem?_cons_succ, List.set_cons_zero, List.set_cons_succ, List.replicate_succ, List.replicate_zero, Nat.reduceAdd, Nat.reduceSub, Nat.reduceBEq, Int.reduceLT, Int.reduceNeg, Int.reduceLE, Nat.reduceLeDiff, Nat.reduceLT, List.lookup_cons, List.lookup_nil, beq_self_eq_true, Option.map_some, Option.map_none, le8, kat, lenR, v_mod (posR hR), hr, hrow, sat, kleft, d0, d1, sleft, kids_, hid, nk, ht, hd, decide_eq_true hq.2, ed, e1', hM, ea, appK_s hL, hS]
      · rw [numsN, e3, ← sg_app e2 (Nat.le_succ l) (by omega), sg_one hl] <;> rfl
    · obtain ⟨ats, ea⟩ := hat (a + 1) l Y
      have em : (cur ++ [Nd.el ids[l] tag ats []]).map ndD = cur.map ndD ++ [.tup [.str "element", .int ids[l], .str tag, .tup (ats.map prS), .tup []]] := by rw [List.map_append, List.map_singleton, ndD, ndsD]
      refine ⟨.el ids[l] tag ats [], a + 1, l, Y ++ [.lst (ats.map prS)], some (.int row), some (.int ids[l]), some (.str tag), some (.tup []), ?_, Nat.le_refl _, by rw [numsN, numsL, sg_one hl], by rw [htN, htL]; omega⟩
      rw [em]
      unfold β__law_nodes_2
      by_cases hd : d < 4
      · have hd' : decide ((d : Int) < 4) = true := decide_eq_true (by omega)
        have hz : ¬ 0 < row / 32 % 3 := fun z => hq ⟨hd, z⟩
        simp only [LD.v_lenO, LD.v_eqQi, LD.v_neQi, LD.q_Ins, LD.q_App, LD.okS_t, LD.v_isLst, LD.lstK_s, LD.v_app, LD.q_Rev, LD.lsK_s, LD.q_Get, LD.getKK_s, LD.v_lsL, LD.v_keyI, LD.v_keyS, Option.isSome_some, Option.isSome_none, Option.getD_some, Option.getD_none, LD.v_eqs, LD.v_nes, LD.v_isiBb, LD.q_C, LD.q_Var, LD.q_Bin, LD.q_Un, LD.q_tOf, LD.q_tCmp, LD.q_tAnd, LD.q_tOr, LD.q_tNot, LD.q_And, LD.q_Or, LD.q_Not, LD.q_If, LD.q_Nil, LD.q_Cons, LD.q_Tup, LD.q_Lst, LD.q_LstM, LD.q_Call, LD.q_Meth, LD.q_Attr, LD.q_Blt, LD.q_Comp, LD.q_iOf, LD.srcK_s, LD.v_truB, LD.v_truL, LD.v_truN, LD.v_srcL, LD.v_neg, LD.q_iRange, LD.q_Next, LD.q_Seq, LD.q_Expr, LD.q_Ret, LD.q_RetN, LD.q_SIf, LD.q_Bk, LD.q_Ct, LD.q_Asg, LD.q_Nm, LD.q_Sub, LD.q_Del, LD.q_Fld, LD.q_Dic, LD.q_For, LD.wipeD, Bool.not_true, Bool.not_false, LD.ifT, LD.le0, LD.le1, LD.le2, LD.le3, LD.le4, LD.le5, LD.le6, LD.cmpK_l, LD.nn_n, LD.nn_i, LD.nn_t, LD.nn_l, LD.nn_r, LD.nn_b, LD.nn_s, LD.nonK_n, LD.okK_o, LD.bind_k, LD.bind_b, LD.bind_e, LD.bindS_k, LD.bindS_e, LD.ofO_s, LD.getV_s, LD.truK_s, LD.blK_b, LD.refK_r, LD.insK_i, LD.lookK_s, LD.lookK_n, LD.refS_r, LD.insS_i, LD.lookS_s, LD.seq_n, LD.seq_r, LD.seq_b, LD.seq_c, LD.seq_e, LD.storeK_s, LD.memK_s, LD.endF_n, LD.endF_r, LD.endF_e, LD.pick_t, LD.pick_f, LD.finL_f, LD.finL_t, LD.v_add, LD.v_sub, LD.v_mulR, LD.v_fdiv, LD.v_mod, LD.v_int, LD.v_lt, LD.v_le, LD.v_gt, LD.v_ge, LD.v_eq, LD.v_ne, LD.v_len, LD.v_tix, LD.v_lix, LD.v_rix, LD.rixK_l, LD.rixK_d, LD.v_isN, LD.v_isnN, LD.v_isNone, LD.v_isNoneN, LD.startD, List.length_cons, List.length_nil, List.map_cons, List.map_nil, List.cons_append, List.nil_append, List.append_nil, List.getElem?_cons_zero, List.getElem?_cons_succ, List.set_cons_zero, List.set_cons_succ, List.replicate_succ, List.replicate_zero, Nat.reduceAdd, Nat.reduceSub, Nat.reduceBEq, Int.reduceLT, Int.reduceNeg, Int.reduceLE, Nat.reduceLeDiff, Nat.reduceLT, List.lookup_cons, List.lookup_nil, beq_self_eq_true, Option.map_some, Option.map_none, le8, kat, lenR, v_mod (posR hR), hr, hrow, sat, kleft, d0, d1, sleft, kids_, hid, nk, ht, hd', decide_eq_false hz, hM, ea, appK_s hL, hS]
      · have hd' : decide ((d : Int) < 4) = false := decide_eq_false (by omega)
        simp only [LD.v_lenO, LD.v_eqQi, LD.v_neQi, LD.q_Ins, LD.q_App, LD.okS_t, LD.v_isLst, LD.lstK_s, LD.v_app, LD.q_Rev, LD.lsK_s, LD.q_Get, LD.getKK_s, LD.v_lsL, LD.v_keyI, LD.v_keyS, Option.isSome_some, Option.isSome_none, Option.getD_some, Option.getD_none, LD.v_eqs, LD.v_nes, LD.v_isiBb, LD.q_C, LD.q_Var, LD.q_Bin, LD.q_Un, LD.q_tOf, LD.q_tCmp, LD.q_tAnd, LD.q_tOr, LD.q_tNot, LD.q_And, LD.q_Or, LD.q_Not, LD.q_If, LD.q_Nil, LD.q_Cons, LD.q_Tup, LD.q_Lst, LD.q_LstM, LD.q_Call, LD.q_Meth, LD.q_Attr, LD.q_Blt, LD.q_Comp, LD.q_iOf, LD.srcK_s, LD.v_truB, LD.v_truL, LD.v_truN, LD.v_srcL, LD.v_neg, LD.q_iRange, LD.q_Next, LD.q_Seq, LD.q_Expr, LD.q_Ret, LD.q_RetN, LD.q_SIf, LD.q_Bk, LD.q_Ct, LD.q_Asg, LD.q_Nm, LD.q_Sub, LD.q_Del, LD.q_Fld, LD.q_Dic, LD.q_For, LD.wipeD, Bool.not_true, Bool.not_false, LD.ifT, LD.le0, LD.le1, LD.le2, LD.le3, LD.le4, LD.le5, LD.le6, LD.cmpK_l, LD.nn_n, LD.nn_i, LD.nn_t, LD.nn_l, LD.nn_r, LD.nn_b, LD.nn_s, LD.nonK_n, LD.okK_o, LD.bind_k, LD.bind_b, LD.bind_e, LD.bindS_k, LD.bindS_e, LD.ofO_s, LD.getV_s, LD.truK_s, LD.blK_b, LD.refK_r, LD.insK_i, LD.lookK_s, LD.lookK_n, LD.refS_r, LD.insS_i, LD.lookS_s, LD.seq_n, LD.seq_r, LD.seq_b, LD.seq_c, LD.seq_e, LD.storeK_s, LD.memK_s, LD.endF_n, LD.endF_r, LD.endF_e, LD.pick_t, LD.pick_f, LD.finL_f, LD.finL_t, LD.v_add, LD.v_sub, LD.v_mulR, LD.v_fdiv, LD.v_mod, LD.v_int, LD.v_lt, LD.v_le, LD.v_gt, LD.v_ge, LD.v_eq, LD.v_ne, LD.v_len, LD.v_tix, LD.v_lix, LD.v_rix, LD.rixK_l, LD.rixK_d, LD.v_isN, LD.v_isnN, LD.v_isNone, LD.v_isNoneN, LD.startD, List.length_cons, List.length_nil, List.map_cons, List.map_nil, List.cons_append, List.nil_append, List.append_nil, List.getElem?_cons_zero, List.getElem?_cons_succ, List.set_cons_zero, List.set_cons_succ, List.replicate_succ, List.replicate_zero, Nat.reduceAdd, Nat.reduceSub, Nat.reduceBEq, Int.reduceLT, Int.reduceNeg, Int.reduceLE, Nat.reduceLeDiff, Nat.reduceLT, List.lookup_cons, List.lookup_nil, beq_self_eq_true, Option.map_some, Option.map_none, le8, kat, lenR, v_mod (posR hR), hr, hrow, sat, kleft, d0, d1, sleft, kids_, hid, nk, ht, hd', hM, ea, appK_s hL, hS]
theorem numsL_app : ∀ (l m : List Nd), numsL (l ++ m) = numsL l ++ numsL m
  | [], m => by rw [List.nil_append, numsL, List.nil_append]
  | a :: r, m => by rw [List.cons_append, numsL, numsL, numsL_app r m, List.append_assoc]
theorem htL_app : ∀ (l m : List Nd), htL (l ++ m) = max (htL l) (htL m)
  | [], m => by rw [List.nil_append, htL]; omega
  | a :: r, m => by rw [List.cons_append, htL, htL, htL_app r m]; omega
theorem node_loop {φr : FnD} {R ids : List Int} {d m : Nat} (hR : R.length = 60) (ih : d < 4 → NdOk φr R ids (d + 1) m) {E0 : Mem} : ∀ (js : List D) (cur : List Nd) (a : Int) (l : Nat) (Y : Mem) (x4 x5 x6 x7 x8 : Option D), l ≤ ids.length → cur.length + js.length < 1000 →
    ∃ (more : List Nd) (a' : Int) (l' : Nat) (Y' : Mem) (y4 y5 y6 y7 y8 : Option D), forV (fun _ => true) (gNm 4) (β__law_nodes_2 φr) js [some (.ref 0), some (.ref 2), some (.int d), some (.ref (E0.length + 3)), x4, x5, x6, x7, x8] (Mw R ids a l (E0 ++ .lst (cur.map ndD) :: Y)) =
      .nx [some (.ref 0), some (.ref 2), some (.int d), some (.ref (E0.length + 3)), y4, y5, y6, y7, y8] (Mw R ids a' l' (E0 ++ .lst ((cur ++ more).map ndD) :: Y')) ∧ l' ≤ l ∧ numsL more = sg ids l l' ∧ htL more ≤ m + 1
  | [], cur, a, l, Y, x4, x5, x6, x7, x8, _, _ => ⟨[], a, l, Y, x4, x5, x6, x7, x8, by rw [List.append_nil]; exact forV_n rfl, Nat.le_refl _, by rw [numsL, sg_self], by rw [htL]; omega⟩
  | j :: js, cur, a, 0, Y, x4, x5, x6, x7, x8, hl, hc => by
    obtain ⟨r, hr⟩ := row_mod hR a
    refine ⟨[], a + 1, 0, Y, some j, some (.int (r / 3)), x6, x7, x8, ?_, Nat.le_refl _, by rw [numsL, sg_self], by rw [htL]; omega⟩
    rw [List.append_nil]
    have d0 : decide (((0 : Nat) : Int) ≤ 0) = true := rfl
    refine forV_b rfl rfl ?_
    unfold β__law_nodes_2
    simp only [LD.v_lenO, LD.v_eqQi, LD.v_neQi, LD.q_Ins, LD.q_App, LD.okS_t, LD.v_isLst, LD.lstK_s, LD.v_app, LD.q_Rev, LD.lsK_s, LD.q_Get, LD.getKK_s, LD.v_lsL, LD.v_keyI, LD.v_keyS, Option.isSome_some, Option.isSome_none, Option.getD_some, Option.getD_none, LD.v_eqs, LD.v_nes, LD.v_isiBb, LD.q_C, LD.q_Var, LD.q_Bin, LD.q_Un, LD.q_tOf, LD.q_tCmp, LD.q_tAnd, LD.q_tOr, LD.q_tNot, LD.q_And, LD.q_Or, LD.q_Not, LD.q_If, LD.q_Nil, LD.q_Cons, LD.q_Tup, LD.q_Lst, LD.q_LstM, LD.q_Call, LD.q_Meth, LD.q_Attr, LD.q_Blt, LD.q_Comp, LD.q_iOf, LD.srcK_s, LD.v_truB, LD.v_truL, LD.v_truN, LD.v_srcL, LD.v_neg, LD.q_iRange, LD.q_Next, LD.q_Seq, LD.q_Expr, LD.q_Ret, LD.q_RetN, LD.q_SIf, LD.q_Bk, LD.q_Ct, LD.q_Asg, LD.q_Nm, LD.q_Sub, LD.q_Del, LD.q_Fld, LD.q_Dic, LD.q_For, LD.wipeD, Bool.not_true, Bool.not_false, LD.ifT, LD.le0, LD.le1, LD.le2, LD.le3, LD.le4, LD.le5, LD.le6, LD.cmpK_l, LD.nn_n, LD.nn_i, LD.nn_t, LD.nn_l, LD.nn_r, LD.nn_b, LD.nn_s, LD.nonK_n, LD.okK_o, LD.bind_k, LD.bind_b, LD.bind_e, LD.bindS_k, LD.bindS_e, LD.ofO_s, LD.getV_s, LD.truK_s, LD.blK_b, LD.refK_r, LD.insK_i, LD.lookK_s, LD.lookK_n, LD.refS_r, LD.insS_i, LD.lookS_s, LD.seq_n, LD.seq_r, LD.seq_b, LD.seq_c, LD.seq_e, LD.storeK_s, LD.memK_s, LD.endF_n, LD.endF_r, LD.endF_e, LD.pick_t, LD.pick_f, LD.finL_f, LD.finL_t, LD.v_add, LD.v_sub, LD.v_mulR, LD.v_fdiv, LD.v_mod, LD.v_int, LD.v_lt, LD.v_le, LD.v_gt, LD.v_ge, LD.v_eq, LD.v_ne, LD.v_len, LD.v_tix, LD.v_lix, LD.v_rix, LD.rixK_l, LD.rixK_d, LD.v_isN, LD.v_isnN, LD.v_isNone, LD.v_isNoneN, LD.startD, List.length_cons, List.length_nil, List.map_cons, List.map_nil, List.cons_append, List.nil_append, List.append_nil, List.getElem?_cons_zero, List.getElem?_cons_succ, List.set_cons_zero, List.set_cons_succ, List.replicate_succ, List.replicate_zero, Nat.reduceAdd, Nat.reduceSub, Nat.reduceBEq, Int.reduceLT, Int.reduceNeg, Int.reduceLE, Nat.reduceLeDiff, Nat.reduceLT, List.lookup_cons, List.lookup_nil, beq_self_eq_true, Option.map_some, Option.map_none, kat, lenR, v_mod (posR hR), hr, sat, kleft, d0]
  | j :: js, cur, a, l + 1, Y, x4, x5, x6, x7, x8, hl, hc => by
    rw [List.length_cons] at hc
    obtain ⟨nd, a1, l1, Y1, z5, z6, z7, z8, e1, e2, e3, e4⟩ := node_body hR ih (E0 := E0) (Y := Y) (cur := cur) (a := a) (l := l) (by omega) (by omega) (x4 := some j) (x5 := x5) (x6 := x6) (x7 := x7) (x8 := x8)
    obtain ⟨more, a2, l2, Y2, y4, y5, y6, y7, y8, f1, f2, f3, f4⟩ := node_loop hR ih js (cur ++ [nd]) a1 l1 Y1 (some j) z5 z6 z7 z8 (by omega) (by rw [List.length_append, List.length_singleton]; omega)
    refine ⟨nd :: more, a2, l2, Y2, y4, y5, y6, y7, y8, ?_, by omega, ?_, by rw [htL]; omega⟩
    · refine (forV_c rfl rfl e1).trans (f1.trans ?_)
      rw [List.append_assoc] <;> rfl
    · rw [numsL, e3, f3, sg_app f2 (by omega) hl]
theorem nodes_eq {R ids : List Int} (hR : R.length = 60) : ∀ (m d : Nat), d ≤ 4 → 4 < d + m → NdOk (φ__law_nodes m) R ids d m
  | 0, d, h1, h2 => by omega
  | m + 1, d, h1, h2 => fun a l E hl => by
    obtain ⟨r, hr⟩ := row_mod hR a
    have c0 := Int.emod_nonneg r (show (3 : Int) ≠ 0 by decide)
    have c1 := Int.emod_lt_of_pos r (show (0 : Int) < 3 by decide)
    obtain ⟨n, hn⟩ : ∃ n : Nat, 1 + r % 3 = (n : Int) := ⟨(1 + r % 3).toNat, by omega⟩
    have hrn : ∀ M : Mem, rngK [.int (n : Int)] M = .ok ⟨(List.range n).map fun j : Nat => .int j, fun _ => true⟩ M := fun M => by
      rw [rngN (by omega) (by omega)]
      congr 2
      unfold rangeL
      rw [Int.toNat_natCast]
      congr 1
      funext i
      simp
    obtain ⟨more, a', l', Y', y4, y5, y6, y7, y8, e1, e2, e3, e4⟩ := node_loop (φr := φ__law_nodes m) (m := m) (d := d) (ids := ids) hR (fun hd => nodes_eq hR m (d + 1) (by omega) (by omega)) (E0 := E) ((List.range n).map fun j : Nat => .int j) [] a l [] none none none none none hl (by rw [List.length_map, List.length_range]; show 0 + n < _; omega)
    refine ⟨more, a', l', .lst (more.map ndD) :: Y', ?_, e2, e3, e4⟩
    rw [List.map_nil, List.nil_append] at e1
    have hM : (Mw R ids a' l' (E ++ .lst (more.map ndD) :: Y'))[E.length + 3]? = some (.lst (more.map ndD)) := by
      show (E ++ DO.lst _ :: Y')[E.length]? = _
      rw [List.getElem?_append_right (Nat.le_refl _), Nat.sub_self] <;> rfl
    have l3 : E.length + 1 + 1 + 1 = E.length + 3 := rfl
    rw [φ__law_nodes]
    refine run_def rfl ?_
    unfold ψ__law_nodes
    simp only [LD.v_lenO, LD.v_eqQi, LD.v_neQi, LD.q_Ins, LD.q_App, LD.okS_t, LD.v_isLst, LD.lstK_s, LD.v_app, LD.q_Rev, LD.lsK_s, LD.q_Get, LD.getKK_s, LD.v_lsL, LD.v_keyI, LD.v_keyS, Option.isSome_some, Option.isSome_none, Option.getD_some, Option.getD_none, LD.v_eqs, LD.v_nes, LD.v_isiBb, LD.q_C, LD.q_Var, LD.q_Bin, LD.q_Un, LD.q_tOf, LD.q_tCmp, LD.q_tAnd, LD.q_tOr, LD.q_tNot, LD.q_And, LD.q_Or, LD.q_Not, LD.q_If, LD.q_Nil, LD.q_Cons, LD.q_Tup, LD.q_Lst, LD.q_LstM, LD.q_Call, LD.q_Meth, LD.q_Attr, LD.q_Blt, LD.q_Comp, LD.q_iOf, LD.srcK_s, LD.v_truB, LD.v_truL, LD.v_truN, LD.v_srcL, LD.v_neg, LD.q_iRange, LD.q_Next, LD.q_Seq, LD.q_Expr, LD.q_Ret, LD.q_RetN, LD.q_SIf, LD.q_Bk, LD.q_Ct, LD.q_Asg, LD.q_Nm, LD.q_Sub, LD.q_Del, LD.q_Fld, LD.q_Dic, LD.q_For, LD.wipeD, Bool.not_true, Bool.not_false, LD.ifT, LD.le0, LD.le1, LD.le2, LD.le3, LD.le4, LD.le5, LD.le6, LD.cmpK_l, LD.nn_n, LD.nn_i, LD.nn_t, LD.nn_l, LD.nn_r, LD.nn_b, LD.nn_s, LD.nonK_n, LD.okK_o, LD.bind_k, LD.bind_b, LD.bind_e, LD.bindS_k, LD.bindS_e, LD.ofO_s, LD.getV_s, LD.truK_s, LD.blK_b, LD.refK_r, LD.insK_i, LD.lookK_s, LD.lookK_n, LD.refS_r, LD.insS_i, LD.lookS_s, LD.seq_n, LD.seq_r, LD.seq_b, LD.seq_c, LD.seq_e, LD.storeK_s, LD.memK_s, LD.endF_n, LD.endF_r, LD.endF_e, LD.pick_t, LD.pick_f, LD.finL_f, LD.finL_t, LD.v_add, LD.v_sub, LD.v_mulR, LD.v_fdiv, LD.v_mod, LD.v_int, LD.v_lt, LD.v_le, LD.v_gt, LD.v_ge, LD.v_eq, LD.v_ne, LD.v_len, LD.v_tix, LD.v_lix, LD.v_rix, LD.rixK_l, LD.rixK_d, LD.v_isN, LD.v_isnN, LD.v_isNone, LD.v_isNoneN, LD.startD, List.length_cons, List.length_nil, List.map_cons, List.map_nil, List.cons_append, List.nil_append, List.append_nil, List.getElem?_cons_zero, List.getElem?_cons_succ, List.set_cons_zero, List.set_cons_succ, List.replicate_succ, List.replicate_zero, Nat.reduceAdd, Nat.reduceSub, Nat.reduceBEq, Int.reduceLT, Int.reduceNeg, Int.reduceLE, Nat.reduceLeDiff, Nat.reduceLT, List.lookup_cons, List.lookup_nil, beq_self_eq_true, Option.map_some, Option.map_none, l3, kat, lenR, v_mod (posR hR), hr, hn, hrn, e1, tup_r hM]

/-! ### the numbers -/
structure IdOk (ids : List Int) (k : Nat) : Prop where
  nd : ids.Nodup
  len : ids.length = k
  top : ∀ x ∈ ids, x ≤ k
theorem IdOk.ins {ids : List Int} {k : Nat} (h : IdOk ids k) (p : Nat) : IdOk (ids.take p ++ [((k + 1 : Nat) : Int)] ++ ids.drop p) (k + 1) := by
  have hx : ∀ x ∈ ids, x ≠ ((k + 1 : Nat) : Int) := fun x hx e => by have := h.top x hx; omega
  refine ⟨?_, ?_, fun x hm => ?_⟩
  · rw [List.append_assoc]
    have hnd := h.nd
    rw [← List.take_append_drop p ids] at hnd
    obtain ⟨n1, n2, n3⟩ := List.nodup_append.mp hnd
    refine List.nodup_append.mpr ⟨n1, List.nodup_cons.mpr ⟨fun hm => hx _ (List.mem_of_mem_drop hm) rfl, n2⟩, fun a ha b hb => ?_⟩
    rcases List.mem_cons.mp hb with rfl | hb
    · exact hx a (List.mem_of_mem_take ha)
    · exact n3 a ha b hb
  · rw [List.length_append, List.length_append, List.length_take, List.length_drop, List.length_singleton, h.len]
    omega
  · rcases List.mem_append.mp hm with hm | hm
    · rcases List.mem_append.mp hm with hm | hm
      · have := h.top x (List.mem_of_mem_take hm)
        omega
      · rw [List.mem_singleton.mp hm]
        exact Int.le_refl _
    · have := h.top x (List.mem_of_mem_drop hm)
      omega
theorem ids_loop {R : List Int} (hR : R.length = 60) {a1 : Int} {a2 : Option D} : ∀ (d k : Nat) (ids : List Int) (x4 : Option D), IdOk ids k → k + d < 900 → ∃ ids' x4', forV (fun _ => true) (gNm 4) β__law_document_2 ((List.range' k d).map fun j : Nat => .int j) [some (.ref 0), some (.int a1), a2, some (.ref 1), x4] [.lst (R.map .int), .lst (ids.map .int)] =
    .nx [some (.ref 0), some (.int a1), a2, some (.ref 1), x4'] [.lst (R.map .int), .lst (ids'.map .int)] ∧ IdOk ids' (k + d)
  | 0, k, ids, x4, h, _ => ⟨ids, x4, forV_n rfl, h⟩
  | d + 1, k, ids, x4, h, hk => by
    obtain ⟨r, hr⟩ := row_mod hR (a1 + k)
    have hp : (0 : Int) < ((ids.map D.int).length : Int) + 1 := by omega
    have c0 := Int.emod_nonneg (r / 11) (show ((ids.map D.int).length : Int) + 1 ≠ 0 by omega)
    have c1 := Int.emod_lt_of_pos (r / 11) hp
    generalize hq : r / 11 % (((ids.map D.int).length : Int) + 1) = q at c0 c1
    have hle : (ids.map D.int).length = k := by rw [List.length_map, h.len]
    obtain ⟨ids', x4', e, ok⟩ := ids_loop hR (a1 := a1) (a2 := a2) d (k + 1) (ids.take q.toNat ++ [((k + 1 : Nat) : Int)] ++ ids.drop q.toNat) (some (.int k)) (h.ins q.toNat) (by omega)
    refine ⟨ids', x4', ?_, by rw [show k + (d + 1) = k + 1 + d by omega]; exact ok⟩
    rw [List.range'_succ, List.map_cons]
    refine (forV_c (s2 := [some (.ref 0), some (.int a1), a2, some (.ref 1), some (.int k)]) (M2 := [.lst (R.map .int), .lst ((ids.take q.toNat ++ [((k + 1 : Nat) : Int)] ++ ids.drop q.toNat).map .int)]) rfl rfl ?_).trans e
    have l0 : lenO ((0, φ_Controls___len__) :: []) [.ref 0] [.lst (R.map .int), .lst (ids.map .int)] = some (.int (R.map D.int).length, [.lst (R.map .int), .lst (ids.map .int)]) := rfl
    have l1 : lenO ((0, φ_Controls___len__) :: []) [.ref 1] [.lst (R.map .int), .lst (ids.map .int)] = some (.int (ids.map D.int).length, [.lst (R.map .int), .lst (ids.map .int)]) := rfl
    have hi := v_ins (M := [.lst (R.map .int), .lst (ids.map .int)]) (i := 1) (k := q) (d := .int ((k : Int) + 1)) (xs := ids.map D.int) rfl (by have := big; omega) c0 (by omega)
    have em : (ids.take q.toNat ++ [((k + 1 : Nat) : Int)] ++ ids.drop q.toNat).map D.int = (ids.map D.int).take q.toNat ++ [D.int ((k : Int) + 1)] ++ (ids.map D.int).drop q.toNat := by
      rw [List.map_append, List.map_append, List.map_take, List.map_drop] <;> rfl
    rw [em]
    unfold β__law_document_2
    simp only [LD.v_lenO, LD.v_eqQi, LD.v_neQi, LD.q_Ins, LD.q_App, LD.okS_t, LD.v_isLst, LD.lstK_s, LD.v_app, LD.q_Rev, LD.lsK_s, LD.q_Get, LD.getKK_s, LD.v_lsL, LD.v_keyI, LD.v_keyS, Option.isSome_some, Option.isSome_none, Option.getD_some, Option.getD_none, LD.v_eqs, LD.v_nes, LD.v_isiBb, LD.q_C, LD.q_Var, LD.q_Bin, LD.q_Un, LD.q_tOf, LD.q_tCmp, LD.q_tAnd, LD.q_tOr, LD.q_tNot, LD.q_And, LD.q_Or, LD.q_Not, LD.q_If, LD.q_Nil, LD.q_Cons, LD.q_Tup, LD.q_Lst, LD.q_LstM, LD.q_Call, LD.q_Meth, LD.q_Attr, LD.q_Blt, LD.q_Comp, LD.q_iOf, LD.srcK_s, LD.v_truB, LD.v_truL, LD.v_truN, LD.v_srcL, LD.v_neg, LD.q_iRange, LD.q_Next, LD.q_Seq, LD.q_Expr, LD.q_Ret, LD.q_RetN, LD.q_SIf, LD.q_Bk, LD.q_Ct, LD.q_Asg, LD.q_Nm, LD.q_Sub, LD.q_Del, LD.q_Fld, LD.q_Dic, LD.q_For, LD.wipeD, Bool.not_true, Bool.not_false, LD.ifT, LD.le0, LD.le1, LD.le2, LD.le3, LD.le4, LD.le5, LD.le6, LD.cmpK_l, LD.nn_n, LD.nn_i, LD.nn_t, LD.nn_l, LD.nn_r, LD.nn_b, LD.nn_s, LD.nonK_n, LD.okK_o, LD.bind_k, LD.bind_b, LD.bind_e, LD.bindS_k, LD.bindS_e, LD.ofO_s, LD.getV_s, LD.truK_s, LD.blK_b, LD.refK_r, LD.insK_i, LD.lookK_s, LD.lookK_n, LD.refS_r, LD.insS_i, LD.lookS_s, LD.seq_n, LD.seq_r, LD.seq_b, LD.seq_c, LD.seq_e, LD.storeK_s, LD.memK_s, LD.endF_n, LD.endF_r, LD.endF_e, LD.pick_t, LD.pick_f, LD.finL_f, LD.finL_t, LD.v_add, LD.v_sub, LD.v_mulR, LD.v_fdiv, LD.v_mod, LD.v_int, LD.v_lt, LD.v_le, LD.v_gt, LD.v_ge, LD.v_eq, LD.v_ne, LD.v_len, LD.v_tix, LD.v_lix, LD.v_rix, LD.rixK_l, LD.rixK_d, LD.v_isN, LD.v_isnN, LD.v_isNone, LD.v_isNoneN, LD.startD, List.length_cons, List.length_nil, List.map_cons, List.map_nil, List.cons_append, List.nil_append, List.append_nil, List.getElem?_cons_zero, List.getElem?_cons_succ, List.set_cons_zero, List.set_cons_succ, List.replicate_succ, List.replicate_zero, Nat.reduceAdd, Nat.reduceSub, Nat.reduceBEq, Int.reduceLT, Int.reduceNeg, Int.reduceLE, Nat.reduceLeDiff, Nat.reduceLT, List.lookup_cons, List.lookup_nil, beq_self_eq_true, Option.map_some, Option.map_none, l0, v_mod (posR hR), hr, l1, v_mod hp, hq, hi]
theorem doc_eq {R : List Int} (hR : R.length = 60) (many : Nat) (hm : many < 100) : ∃ (ns : List Nd) (M : Mem), φ__law_document [.ref 0, .int 1, .int many] [.lst (R.map .int)] = .ok (.tup (ns.map ndD)) (.lst (R.map .int) :: M) ∧ (numsL ns).Nodup ∧ (numsL ns).length < 200 ∧ (∀ x ∈ numsL ns, x ≤ (many : Int)) ∧ htL ns ≤ 10 := by
  obtain ⟨ids, x4, e, ok⟩ := ids_loop hR (a1 := 1) (a2 := some (.int many)) many 0 [] none ⟨List.Pairwise.nil, rfl, fun x h => nomatch h⟩ (by omega)
  rw [Nat.zero_add] at ok
  obtain ⟨ns, a', l', X, f1, f2, f3, f4⟩ := nodes_eq (ids := ids) hR 10 0 (by decide) (by decide) 1 many [] (by rw [ok.len]; exact Nat.le_refl _)
  have hrn : ∀ M : Mem, rngK [.int (many : Int)] M = .ok ⟨(List.range' 0 many).map fun j : Nat => .int j, fun _ => true⟩ M := fun M => by
    rw [rngN (by omega) (by omega)]
    congr 2
    unfold rangeL
    rw [Int.toNat_natCast, List.range_eq_range']
    congr 1
    funext i
    simp
  refine ⟨ns, .lst (ids.map .int) :: .dic [(.inr "at", .int a'), (.inr "left", .int l'), (.inr "ids", .ref 1)] :: ([] ++ X), ?_, ?_, ?_, ?_, f4⟩
  · have f1' : φ__law_nodes 10 [.ref 0, .ref 2, .int 0] [.lst (R.map .int), .lst (ids.map .int), .dic [(.inr "at", .int 1), (.inr "left", .int many), (.inr "ids", .ref 1)]] = _ := f1
    rw [List.map_nil] at e
    unfold φ__law_document
    refine run_def rfl ?_
    unfold ψ__law_document
    simp only [LD.v_lenO, LD.v_eqQi, LD.v_neQi, LD.q_Ins, LD.q_App, LD.okS_t, LD.v_isLst, LD.lstK_s, LD.v_app, LD.q_Rev, LD.lsK_s, LD.q_Get, LD.getKK_s, LD.v_lsL, LD.v_keyI, LD.v_keyS, Option.isSome_some, Option.isSome_none, Option.getD_some, Option.getD_none, LD.v_eqs, LD.v_nes, LD.v_isiBb, LD.q_C, LD.q_Var, LD.q_Bin, LD.q_Un, LD.q_tOf, LD.q_tCmp, LD.q_tAnd, LD.q_tOr, LD.q_tNot, LD.q_And, LD.q_Or, LD.q_Not, LD.q_If, LD.q_Nil, LD.q_Cons, LD.q_Tup, LD.q_Lst, LD.q_LstM, LD.q_Call, LD.q_Meth, LD.q_Attr, LD.q_Blt, LD.q_Comp, LD.q_iOf, LD.srcK_s, LD.v_truB, LD.v_truL, LD.v_truN, LD.v_srcL, LD.v_neg, LD.q_iRange, LD.q_Next, LD.q_Seq, LD.q_Expr, LD.q_Ret, LD.q_RetN, LD.q_SIf, LD.q_Bk, LD.q_Ct, LD.q_Asg, LD.q_Nm, LD.q_Sub, LD.q_Del, LD.q_Fld, LD.q_Dic, LD.q_For, LD.wipeD, Bool.not_true, Bool.not_false, LD.ifT, LD.le0, LD.le1, LD.le2, LD.le3, LD.le4, LD.le5, LD.le6, LD.cmpK_l, LD.nn_n, LD.nn_i, LD.nn_t, LD.nn_l, LD.nn_r, LD.nn_b, LD.nn_s, LD.nonK_n, LD.okK_o, LD.bind_k, LD.bind_b, LD.bind_e, LD.bindS_k, LD.bindS_e, LD.ofO_s, LD.getV_s, LD.truK_s, LD.blK_b, LD.refK_r, LD.insK_i, LD.lookK_s, LD.lookK_n, LD.refS_r, LD.insS_i, LD.lookS_s, LD.seq_n, LD.seq_r, LD.seq_b, LD.seq_c, LD.seq_e, LD.storeK_s, LD.memK_s, LD.endF_n, LD.endF_r, LD.endF_e, LD.pick_t, LD.pick_f, LD.finL_f, LD.finL_t, LD.v_add, LD.v_sub, LD.v_mulR, LD.v_fdiv, LD.v_mod, LD.v_int, LD.v_lt, LD.v_le, LD.v_gt, LD.v_ge, LD.v_eq, LD.v_ne, LD.v_len, LD.v_tix, LD.v_lix, LD.v_rix, LD.rixK_l, LD.rixK_d, LD.v_isN, LD.v_isnN, LD.v_isNone, LD.v_isNoneN, LD.startD, List.length_cons, List.length_nil, List.map_cons, List.map_nil, List.cons_append, List.nil_append, List.append_nil, List.getElem?_cons_zero, List.getElem?_cons_succ, List.set_cons_zero, List.set_cons_succ, List.replicate_succ, List.replicate_zero, Nat.reduceAdd, Nat.reduceSub, Nat.reduceBEq, Int.reduceLT, Int.reduceNeg, Int.reduceLE, Nat.reduceLeDiff, Nat.reduceLT, List.lookup_cons, List.lookup_nil, beq_self_eq_true, Option.map_some, Option.map_none, hrn, e, q_DispK, dispK_s, List.zip_cons_cons, List.zip_nil_left, f1']
  · rw [f3]
    unfold sg
    exact List.pairwise_reverse.mpr (((ok.nd.sublist (List.take_sublist _ _)).sublist (List.drop_sublist _ _)).imp fun h e => h e.symm)
  · rw [f3]
    unfold sg
    rw [List.length_reverse, List.length_drop, List.length_take, ok.len]
    omega
  · rw [f3]
    intro x hx
    unfold sg at hx
    exact ok.top x (List.mem_of_mem_take (List.mem_of_mem_drop (List.mem_reverse.mp hx)))
end K65
namespace K65
open PySem PySem.Spec PyProof.Rows L2 LD
/-! ### dicts -/
theorem getK_put {α : Type} {kvs : List (Key × D)} {k : Key} {d : D} {k' : Key} : getK (setD.putK' kvs k d) k' = if k = k' then some d else getK kvs k' := by
  have old : ∀ l : List (Key × D), getK (l.map fun kv => if kv.1 = k then (kv.1, d) else kv) k' = if k = k' then (if l.any (fun kv => decide (kv.1 = k)) then some d else none) else getK l k' := by
    intro l
    induction l with
    | nil => show none = _; split <;> rfl
    | cons p l ih =>
      unfold getK at ih ⊢
      by_cases hp : p.1 = k
      · rw [List.map_cons, if_pos hp, List.any_cons, decide_eq_true hp, Bool.true_or]
        by_cases hk : k = k'
        · rw [List.find?_cons_of_pos (by simp [hp, hk]), if_pos hk] <;> rfl
        · rw [List.find?_cons_of_neg (by simp [hp, hk]), ih, if_neg hk, if_neg hk, List.find?_cons_of_neg (by simp [hp, hk])]
      · rw [List.map_cons, if_neg hp, List.any_cons, decide_eq_false hp, Bool.false_or]
        by_cases hk : p.1 = k'
        · rw [List.find?_cons_of_pos (by simp [hk]), if_neg (fun e => hp (by rw [hk, e])), List.find?_cons_of_pos (by simp [hk])]
        · rw [List.find?_cons_of_neg (by simp [hk]), ih, List.find?_cons_of_neg (by simp [hk])]
  unfold setD.putK'
  split
  · rename_i h
    rw [old, h, if_pos rfl]
  · rename_i h
    have h2 : ∀ p ∈ kvs, ¬ p.1 = k := fun p hp e => h (List.any_eq_true.mpr ⟨p, hp, decide_eq_true e⟩)
    unfold getK
    rw [List.find?_append]
    by_cases hk : k = k'
    · rw [if_pos hk, List.find?_eq_none.mpr fun p hp => by rw [decide_eq_true_eq, ← hk]; exact h2 p hp, Option.none_or, List.find?_cons_of_pos (by simp [hk])] <;> rfl
    · rw [if_neg hk, List.find?_cons_of_neg (by simp [hk]), List.find?_nil, Option.or_none]
theorem put_len {kvs : List (Key × D)} {k : Key} {d : D} : (setD.putK' kvs k d).length ≤ kvs.length + 1 := by
  unfold setD.putK'
  split
  · rw [List.length_map]; omega
  · rw [List.length_append, List.length_singleton]; exact Nat.le_refl _
theorem put_same {kvs : List (Key × D)} {k : Key} {d : D} (h : (getK kvs k).isSome = true) : (setD.putK' kvs k d).length = kvs.length := by
  unfold setD.putK'
  rw [if_pos, List.length_map]
  unfold getK at h
  rw [Option.isSome_map, List.find?_isSome] at h
  obtain ⟨p, hp, hk⟩ := h
  exact List.any_eq_true.mpr ⟨p, hp, hk⟩
theorem sub_dic {M : Mem} {i : Nat} {kvs : List (Key × D)} {n : Int} {d : D} (h : M[i]? = some (.dic kvs)) (hl : kvs.length < LINE) : setD (.ref i) (.int n) d M = some (M.set i (.dic (setD.putK' kvs (.inl n) d))) := by
  simp only [setD, h, LD.keyOf]
  rw [if_pos hl]
theorem in_dic {M : Mem} {i : Nat} {kvs : List (Key × D)} {n : Int} {b : Bool} {tb : List (Nat × FnD)} (h : M[i]? = some (.dic kvs)) : inO tb b (.int n) (.ref i) M = some (.bl ((getK kvs (.inl n)).isSome != b), M) := by
  unfold inO
  simp only [h, inD, dcOf, LD.keyOf]
  rfl
theorem lenO_r {M : Mem} {i : Nat} {xs : List D} {tb : List (Nat × FnD)} (h : M[i]? = some (.lst xs)) : lenO tb [.ref i] M = some (.int xs.length, M) := by
  unfold lenO
  simp only [h]
  exact v_lenR h
theorem any_str {x : Str} : ∀ ls : List Str, ((ls.map D.str).any fun z => eqF z (.str x)) = decide (x ∈ ls)
  | [] => rfl
  | y :: r => by
    have ih := any_str (x := x) r
    rw [List.map_cons, List.any_cons, ih]
    show (y == x || decide (x ∈ r)) = _
    by_cases h : x = y
    · subst h
      rw [beq_self_eq_true, decide_eq_true List.mem_cons_self, Bool.true_or]
    · rw [beq_eq_false_iff_ne.mpr (fun e => h e.symm), Bool.false_or]
      by_cases h2 : x ∈ r
      · rw [decide_eq_true h2, decide_eq_true (List.mem_cons_of_mem _ h2)]
      · rw [decide_eq_false h2, decide_eq_false fun z => (List.mem_cons.mp z).elim h h2]
theorem all_str : ∀ ls : List Str, (ls.map D.str).all isF = true
  | [] => rfl
  | y :: r => by rw [List.map_cons, List.all_cons, all_str r] <;> rfl
/-! ### kinds and values of controls -/
inductive Vl where
  | b (x : Bool)
  | s (x : Str)
  deriving DecidableEq
def vlD : Vl → D
  | .b x => .bl x
  | .s x => .str x
def ovD : Option Vl → D
  | none => .non
  | some v => vlD v
def vlIn (v : Vl) (xs : List Str) : Bool := match v with
  | .s x => decide (x ∈ xs)
  | .b _ => false
theorem in_strs {v : Vl} {xs : List Str} {b : Bool} {tb : List (Nat × FnD)} {M : Mem} : inO tb b (vlD v) (.lst (xs.map .str)) M = some (.bl (vlIn v xs != b), M) := by
  show (inD M (vlD v) (.lst (xs.map .str))).map _ = _
  have : inD M (vlD v) (.lst (xs.map .str)) = some (vlIn v xs) := by
    show (if (isF (vlD v) && (xs.map D.str).all isF) = true then some ((xs.map D.str).any fun z => eqF z (vlD v)) else _) = _
    rw [all_str, if_pos (show (isF (vlD v) && true) = true by cases v <;> rfl)]
    cases v with
    | s x =>
      show some ((xs.map D.str).any fun z => eqF z (.str x)) = _
      rw [any_str] <;> rfl
    | b x =>
      congr 1
      show ((xs.map D.str).any fun z => eqF z (.bl x)) = false
      rw [List.any_eq_false]
      intro z hz
      obtain ⟨y, _, rfl⟩ := List.mem_map.mp hz
      exact Bool.false_ne_true
  rw [this] <;> rfl
theorem in_str {x : Str} {xs : List Str} {b : Bool} {tb : List (Nat × FnD)} {M : Mem} : inO tb b (.str x) (.lst (xs.map .str)) M = some (.bl (decide (x ∈ xs) != b), M) := in_strs (v := .s x)
def tagOf : Nd → Str
  | .txt _ _ => ""
  | .el _ tag _ _ => tag
def kidsOf : Nd → List Nd
  | .txt _ _ => []
  | .el _ _ _ kids => kids
def kindE (tag : Str) (ats : List (Str × Str)) : Option Str :=
  if tag = "select" then some ("select" : Str) else if tag = "input" then some (if attrOf ats "kind" = some ("box" : Str) then "box" else "field") else if tag = "area" then some ("field" : Str) else none
def kd : Nd → Option Str
  | .txt _ _ => none
  | .el _ tag ats _ => kindE tag ats
theorem nd2 {n : Int} {tag : Str} {ats : List (Str × Str)} {kids : List Nd} (M : Mem) : ixD (ndD (.el n tag ats kids)) (.int 2) M = some (.str tag, M) := by rw [ndD] <;> rfl
theorem o_eqS (o : Option Str) (x : Str) (M : Mem) : boD eqD (oD o) (.str x) M = some (.bl (decide (o = some x)), M) := by
  cases o with
  | none => rfl
  | some y =>
    show some (D.bl (y == x), M) = _
    by_cases h : y = x
    · subst h; rw [beq_self_eq_true, decide_eq_true rfl]
    · rw [beq_eq_false_iff_ne.mpr h, decide_eq_false fun z => h (Option.some.inj z)]
theorem in3t (tag : Str) (b : Bool) (tb : List (Nat × FnD)) (M : Mem) : inO tb b (.str tag) (.tup [.str "input", .str "area", .str "select"]) M = some (.bl (decide (tag ∈ (["input", "area", "select"] : List Str)) != b), M) := by
  have : inD M (.str tag) (.tup [.str "input", .str "area", .str "select"]) = some (decide (tag ∈ (["input", "area", "select"] : List Str))) := by
    rw [← any_str]
    rfl
  unfold inO
  simp only [this]
  rfl
theorem bn1 : (true != true) = false := rfl
theorem bn2 : (false != true) = true := rfl
theorem bn3 : (true != false) = true := rfl
theorem bn4 : (false != false) = false := rfl
theorem in3l (tag : Str) (b : Bool) (tb : List (Nat × FnD)) (M : Mem) : inO tb b (.str tag) (.lst [.str "input", .str "area", .str "select"]) M = some (.bl (decide (tag ∈ (["input", "area", "select"] : List Str)) != b), M) := in_str (xs := ["input", "area", "select"])
theorem ne_si : (("input" : Str) == "select") = false := by decide
theorem ne_sa : (("area" : Str) == "select") = false := by decide
theorem ne_ia : (("area" : Str) == "input") = false := by decide
theorem kind_eq (a : Nd) (M : Mem) : φ_kind_of_control [ndD a] M = .ok (oD (kd a)) M := by
  unfold φ_kind_of_control
  refine run_def rfl ?_
  unfold ψ_kind_of_control
  cases a with
  | txt n x =>
    simp only [LD.v_lenO, LD.v_eqQi, LD.v_neQi, LD.q_Ins, LD.q_App, LD.okS_t, LD.v_isLst, LD.lstK_s, LD.v_app, LD.q_Rev, LD.lsK_s, LD.q_Get, LD.getKK_s, LD.v_lsL, LD.v_keyI, LD.v_keyS, Option.isSome_some, Option.isSome_none, Option.getD_some, Option.getD_none, LD.v_eqs, LD.v_nes, LD.v_isiBb, LD.q_C, LD.q_Var, LD.q_Bin, LD.q_Un, LD.q_tOf, LD.q_tCmp, LD.q_tAnd, LD.q_tOr, LD.q_tNot, LD.q_And, LD.q_Or, LD.q_Not, LD.q_If, LD.q_Nil, LD.q_Cons, LD.q_Tup, LD.q_Lst, LD.q_LstM, LD.q_Call, LD.q_Meth, LD.q_Attr, LD.q_Blt, LD.q_Comp, LD.q_iOf, LD.srcK_s, LD.v_truB, LD.v_truL, LD.v_truN, LD.v_srcL, LD.v_neg, LD.q_iRange, LD.q_Next, LD.q_Seq, LD.q_Expr, LD.q_Ret, LD.q_RetN, LD.q_SIf, LD.q_Bk, LD.q_Ct, LD.q_Asg, LD.q_Nm, LD.q_Sub, LD.q_Del, LD.q_Fld, LD.q_Dic, LD.q_For, LD.wipeD, Bool.not_true, Bool.not_false, LD.ifT, LD.le0, LD.le1, LD.le2, LD.le3, LD.le4, LD.le5, LD.le6, LD.cmpK_l, LD.nn_n, LD.nn_i, LD.nn_t, LD.nn_l, LD.nn_r, LD.nn_b, LD.nn_s, LD.nonK_n, LD.okK_o, LD.bind_k, LD.bind_b, LD.bind_e, LD.bindS_k, LD.bindS_e, LD.ofO_s, LD.getV_s, LD.truK_s, LD.blK_b, LD.refK_r, LD.insK_i, LD.lookK_s, LD.lookK_n, LD.refS_r, LD.insS_i, LD.lookS_s, LD.seq_n, LD.seq_r, LD.seq_b, LD.seq_c, LD.seq_e, LD.storeK_s, LD.memK_s, LD.endF_n, LD.endF_r, LD.endF_e, LD.pick_t, LD.pick_f, LD.finL_f, LD.finL_t, LD.v_add, LD.v_sub, LD.v_mulR, LD.v_fdiv, LD.v_mod, LD.v_int, LD.v_lt, LD.v_le, LD.v_gt, LD.v_ge, LD.v_eq, LD.v_ne, LD.v_len, LD.v_tix, LD.v_lix, LD.v_rix, LD.rixK_l, LD.rixK_d, LD.v_isN, LD.v_isnN, LD.v_isNone, LD.v_isNoneN, LD.startD, List.length_cons, List.length_nil, List.map_cons, List.map_nil, List.cons_append, List.nil_append, List.append_nil, List.getElem?_cons_zero, List.getElem?_cons_succ, List.set_cons_zero, List.set_cons_succ, List.replicate_succ, List.replicate_zero, Nat.reduceAdd, Nat.reduceSub, Nat.reduceBEq, Int.reduceLT, Int.reduceNeg, Int.reduceLE, Nat.reduceLeDiff, Nat.reduceLT, List.lookup_cons, List.lookup_nil, beq_self_eq_true, Option.map_some, Option.map_none, nd0, eqK, elT, v_nes]
    rfl
  | el n tag ats kids =>
    show _ = LD.R.ok (oD (kindE tag ats)) M
    unfold kindE
    by_cases h1 : tag = "select"
    · subst h1
      have hm : decide (("select" : Str) ∈ (["input", "area", "select"] : List Str)) = true := by decide
      simp only [LD.v_lenO, LD.v_eqQi, LD.v_neQi, LD.q_Ins, LD.q_App, LD.okS_t, LD.v_isLst, LD.lstK_s, LD.v_app, LD.q_Rev, LD.lsK_s, LD.q_Get, LD.getKK_s, LD.v_lsL, LD.v_keyI, LD.v_keyS, Option.isSome_some, Option.isSome_none, Option.getD_some, Option.getD_none, LD.v_eqs, LD.v_nes, LD.v_isiBb, LD.q_C, LD.q_Var, LD.q_Bin, LD.q_Un, LD.q_tOf, LD.q_tCmp, LD.q_tAnd, LD.q_tOr, LD.q_tNot, LD.q_And, LD.q_Or, LD.q_Not, LD.q_If, LD.q_Nil, LD.q_Cons, LD.q_Tup, LD.q_Lst, LD.q_LstM, LD.q_Call, LD.q_Meth, LD.q_Attr, LD.q_Blt, LD.q_Comp, LD.q_iOf, LD.srcK_s, LD.v_truB, LD.v_truL, LD.v_truN, LD.v_srcL, LD.v_neg, LD.q_iRange, LD.q_Next, LD.q_Seq, LD.q_Expr, LD.q_Ret, LD.q_RetN, LD.q_SIf, LD.q_Bk, LD.q_Ct, LD.q_Asg, LD.q_Nm, LD.q_Sub, LD.q_Del, LD.q_Fld, LD.q_Dic, LD.q_For, LD.wipeD, Bool.not_true, Bool.not_false, LD.ifT, LD.le0, LD.le1, LD.le2, LD.le3, LD.le4, LD.le5, LD.le6, LD.cmpK_l, LD.nn_n, LD.nn_i, LD.nn_t, LD.nn_l, LD.nn_r, LD.nn_b, LD.nn_s, LD.nonK_n, LD.okK_o, LD.bind_k, LD.bind_b, LD.bind_e, LD.bindS_k, LD.bindS_e, LD.ofO_s, LD.getV_s, LD.truK_s, LD.blK_b, LD.refK_r, LD.insK_i, LD.lookK_s, LD.lookK_n, LD.refS_r, LD.insS_i, LD.lookS_s, LD.seq_n, LD.seq_r, LD.seq_b, LD.seq_c, LD.seq_e, LD.storeK_s, LD.memK_s, LD.endF_n, LD.endF_r, LD.endF_e, LD.pick_t, LD.pick_f, LD.finL_f, LD.finL_t, LD.v_add, LD.v_sub, LD.v_mulR, LD.v_fdiv, LD.v_mod, LD.v_int, LD.v_lt, LD.v_le, LD.v_gt, LD.v_ge, LD.v_eq, LD.v_ne, LD.v_len, LD.v_tix, LD.v_lix, LD.v_rix, LD.rixK_l, LD.rixK_d, LD.v_isN, LD.v_isnN, LD.v_isNone, LD.v_isNoneN, LD.startD, List.length_cons, List.length_nil, List.map_cons, List.map_nil, List.cons_append, List.nil_append, List.append_nil, List.getElem?_cons_zero, List.getElem?_cons_succ, List.set_cons_zero, List.set_cons_succ, List.replicate_succ, List.replicate_zero, Nat.reduceAdd, Nat.reduceSub, Nat.reduceBEq, Int.reduceLT, Int.reduceNeg, Int.reduceLE, Nat.reduceLeDiff, Nat.reduceLT, List.lookup_cons, List.lookup_nil, beq_self_eq_true, Option.map_some, Option.map_none, nd0, eqK, elE, nd2, in3t, hm, bn1, bn2, bn3, bn4, beq_self_eq_true, if_true]
      rfl
    · rw [if_neg h1]
      have n1 : (tag == "select") = false := beq_eq_false_iff_ne.mpr h1
      by_cases h2 : tag = "input"
      · subst h2
        have hm : decide (("input" : Str) ∈ (["input", "area", "select"] : List Str)) = true := by decide
        rw [if_pos rfl]
        by_cases hb : attrOf ats "kind" = some ("box" : Str)
        · rw [if_pos hb]
          simp only [LD.v_lenO, LD.v_eqQi, LD.v_neQi, LD.q_Ins, LD.q_App, LD.okS_t, LD.v_isLst, LD.lstK_s, LD.v_app, LD.q_Rev, LD.lsK_s, LD.q_Get, LD.getKK_s, LD.v_lsL, LD.v_keyI, LD.v_keyS, Option.isSome_some, Option.isSome_none, Option.getD_some, Option.getD_none, LD.v_eqs, LD.v_nes, LD.v_isiBb, LD.q_C, LD.q_Var, LD.q_Bin, LD.q_Un, LD.q_tOf, LD.q_tCmp, LD.q_tAnd, LD.q_tOr, LD.q_tNot, LD.q_And, LD.q_Or, LD.q_Not, LD.q_If, LD.q_Nil, LD.q_Cons, LD.q_Tup, LD.q_Lst, LD.q_LstM, LD.q_Call, LD.q_Meth, LD.q_Attr, LD.q_Blt, LD.q_Comp, LD.q_iOf, LD.srcK_s, LD.v_truB, LD.v_truL, LD.v_truN, LD.v_srcL, LD.v_neg, LD.q_iRange, LD.q_Next, LD.q_Seq, LD.q_Expr, LD.q_Ret, LD.q_RetN, LD.q_SIf, LD.q_Bk, LD.q_Ct, LD.q_Asg, LD.q_Nm, LD.q_Sub, LD.q_Del, LD.q_Fld, LD.q_Dic, LD.q_For, LD.wipeD, Bool.not_true, Bool.not_false, LD.ifT, LD.le0, LD.le1, LD.le2, LD.le3, LD.le4, LD.le5, LD.le6, LD.cmpK_l, LD.nn_n, LD.nn_i, LD.nn_t, LD.nn_l, LD.nn_r, LD.nn_b, LD.nn_s, LD.nonK_n, LD.okK_o, LD.bind_k, LD.bind_b, LD.bind_e, LD.bindS_k, LD.bindS_e, LD.ofO_s, LD.getV_s, LD.truK_s, LD.blK_b, LD.refK_r, LD.insK_i, LD.lookK_s, LD.lookK_n, LD.refS_r, LD.insS_i, LD.lookS_s, LD.seq_n, LD.seq_r, LD.seq_b, LD.seq_c, LD.seq_e, LD.storeK_s, LD.memK_s, LD.endF_n, LD.endF_r, LD.endF_e, LD.pick_t, LD.pick_f, LD.finL_f, LD.finL_t, LD.v_add, LD.v_sub, LD.v_mulR, LD.v_fdiv, LD.v_mod, LD.v_int, LD.v_lt, LD.v_le, LD.v_gt, LD.v_ge, LD.v_eq, LD.v_ne, LD.v_len, LD.v_tix, LD.v_lix, LD.v_rix, LD.rixK_l, LD.rixK_d, LD.v_isN, LD.v_isnN, LD.v_isNone, LD.v_isNoneN, LD.startD, List.length_cons, List.length_nil, List.map_cons, List.map_nil, List.cons_append, List.nil_append, List.append_nil, List.getElem?_cons_zero, List.getElem?_cons_succ, List.set_cons_zero, List.set_cons_succ, List.replicate_succ, List.replicate_zero, Nat.reduceAdd, Nat.reduceSub, Nat.reduceBEq, Int.reduceLT, Int.reduceNeg, Int.reduceLE, Nat.reduceLeDiff, Nat.reduceLT, List.lookup_cons, List.lookup_nil, beq_self_eq_true, Option.map_some, Option.map_none, nd0, eqK, elE, nd2, in3t, hm, bn1, bn2, bn3, bn4, n1, text_eq, o_eqS, decide_eq_true hb]
          rfl
        · rw [if_neg hb]
          simp only [LD.v_lenO, LD.v_eqQi, LD.v_neQi, LD.q_Ins, LD.q_App, LD.okS_t, LD.v_isLst, LD.lstK_s, LD.v_app, LD.q_Rev, LD.lsK_s, LD.q_Get, LD.getKK_s, LD.v_lsL, LD.v_keyI, LD.v_keyS, Option.isSome_some, Option.isSome_none, Option.getD_some, Option.getD_none, LD.v_eqs, LD.v_nes, LD.v_isiBb, LD.q_C, LD.q_Var, LD.q_Bin, LD.q_Un, LD.q_tOf, LD.q_tCmp, LD.q_tAnd, LD.q_tOr, LD.q_tNot, LD.q_And, LD.q_Or, LD.q_Not, LD.q_If, LD.q_Nil, LD.q_Cons, LD.q_Tup, LD.q_Lst, LD.q_LstM, LD.q_Call, LD.q_Meth, LD.q_Attr, LD.q_Blt, LD.q_Comp, LD.q_iOf, LD.srcK_s, LD.v_truB, LD.v_truL, LD.v_truN, LD.v_srcL, LD.v_neg, LD.q_iRange, LD.q_Next, LD.q_Seq, LD.q_Expr, LD.q_Ret, LD.q_RetN, LD.q_SIf, LD.q_Bk, LD.q_Ct, LD.q_Asg, LD.q_Nm, LD.q_Sub, LD.q_Del, LD.q_Fld, LD.q_Dic, LD.q_For, LD.wipeD, Bool.not_true, Bool.not_false, LD.ifT, LD.le0, LD.le1, LD.le2, LD.le3, LD.le4, LD.le5, LD.le6, LD.cmpK_l, LD.nn_n, LD.nn_i, LD.nn_t, LD.nn_l, LD.nn_r, LD.nn_b, LD.nn_s, LD.nonK_n, LD.okK_o, LD.bind_k, LD.bind_b, LD.bind_e, LD.bindS_k, LD.bindS_e, LD.ofO_s, LD.getV_s, LD.truK_s, LD.blK_b, LD.refK_r, LD.insK_i, LD.lookK_s, LD.lookK_n, LD.refS_r, LD.insS_i, LD.lookS_s, LD.seq_n, LD.seq_r, LD.seq_b, LD.seq_c, LD.seq_e, LD.storeK_s, LD.memK_s, LD.endF_n, LD.endF_r, LD.endF_e, LD.pick_t, LD.pick_f, LD.finL_f, LD.finL_t, LD.v_add, LD.v_sub, LD.v_mulR, LD.v_fdiv, LD.v_mod, LD.v_int, LD.v_lt, LD.v_le, LD.v_gt, LD.v_ge, LD.v_eq, LD.v_ne, LD.v_len, LD.v_tix, LD.v_lix, LD.v_rix, LD.rixK_l, LD.rixK_d, LD.v_isN, LD.v_isnN, LD.v_isNone, LD.v_isNoneN, LD.startD, List.length_cons, List.length_nil, List.map_cons, List.map_nil, List.cons_append, List.nil_append, List.append_nil, List.getElem?_cons_zero, List.getElem?_cons_succ, List.set_cons_zero, List.set_cons_succ, List.replicate_succ, List.replicate_zero, Nat.reduceAdd, Nat.reduceSub, Nat.reduceBEq, Int.reduceLT, Int.reduceNeg, Int.reduceLE, Nat.reduceLeDiff, Nat.reduceLT, List.lookup_cons, List.lookup_nil, beq_self_eq_true, Option.map_some, Option.map_none, nd0, eqK, elE, nd2, in3t, hm, bn1, bn2, bn3, bn4, n1, text_eq, o_eqS, decide_eq_false hb]
          rfl
      · rw [if_neg h2]
        have n2 : (tag == "input") = false := beq_eq_false_iff_ne.mpr h2
        by_cases h3 : tag = "area"
        · subst h3
          have hm : decide (("area" : Str) ∈ (["input", "area", "select"] : List Str)) = true := by decide
          rw [if_pos rfl]
          simp only [LD.v_lenO, LD.v_eqQi, LD.v_neQi, LD.q_Ins, LD.q_App, LD.okS_t, LD.v_isLst, LD.lstK_s, LD.v_app, LD.q_Rev, LD.lsK_s, LD.q_Get, LD.getKK_s, LD.v_lsL, LD.v_keyI, LD.v_keyS, Option.isSome_some, Option.isSome_none, Option.getD_some, Option.getD_none, LD.v_eqs, LD.v_nes, LD.v_isiBb, LD.q_C, LD.q_Var, LD.q_Bin, LD.q_Un, LD.q_tOf, LD.q_tCmp, LD.q_tAnd, LD.q_tOr, LD.q_tNot, LD.q_And, LD.q_Or, LD.q_Not, LD.q_If, LD.q_Nil, LD.q_Cons, LD.q_Tup, LD.q_Lst, LD.q_LstM, LD.q_Call, LD.q_Meth, LD.q_Attr, LD.q_Blt, LD.q_Comp, LD.q_iOf, LD.srcK_s, LD.v_truB, LD.v_truL, LD.v_truN, LD.v_srcL, LD.v_neg, LD.q_iRange, LD.q_Next, LD.q_Seq, LD.q_Expr, LD.q_Ret, LD.q_RetN, LD.q_SIf, LD.q_Bk, LD.q_Ct, LD.q_Asg, LD.q_Nm, LD.q_Sub, LD.q_Del, LD.q_Fld, LD.q_Dic, LD.q_For, LD.wipeD, Bool.not_true, Bool.not_false, LD.ifT, LD.le0, LD.le1, LD.le2, LD.le3, LD.le4, LD.le5, LD.le6, LD.cmpK_l, LD.nn_n, LD.nn_i, LD.nn_t, LD.nn_l, LD.nn_r, LD.nn_b, LD.nn_s, LD.nonK_n, LD.okK_o, LD.bind_k, LD.bind_b, LD.bind_e, LD.bindS_k, LD.bindS_e, LD.ofO_s, LD.getV_s, LD.truK_s, LD.blK_b, LD.refK_r, LD.insK_i, LD.lookK_s, LD.lookK_n, LD.refS_r, LD.insS_i, LD.lookS_s, LD.seq_n, LD.seq_r, LD.seq_b, LD.seq_c, LD.seq_e, LD.storeK_s, LD.memK_s, LD.endF_n, LD.endF_r, LD.endF_e, LD.pick_t, LD.pick_f, LD.finL_f, LD.finL_t, LD.v_add, LD.v_sub, LD.v_mulR, LD.v_fdiv, LD.v_mod, LD.v_int, LD.v_lt, LD.v_le, LD.v_gt, LD.v_ge, LD.v_eq, LD.v_ne, LD.v_len, LD.v_tix, LD.v_lix, LD.v_rix, LD.rixK_l, LD.rixK_d, LD.v_isN, LD.v_isnN, LD.v_isNone, LD.v_isNoneN, LD.startD, List.length_cons, List.length_nil, List.map_cons, List.map_nil, List.cons_append, List.nil_append, List.append_nil, List.getElem?_cons_zero, List.getElem?_cons_succ, List.set_cons_zero, List.set_cons_succ, List.replicate_succ, List.replicate_zero, Nat.reduceAdd, Nat.reduceSub, Nat.reduceBEq, Int.reduceLT, Int.reduceNeg, Int.reduceLE, Nat.reduceLeDiff, Nat.reduceLT, List.lookup_cons, List.lookup_nil, beq_self_eq_true, Option.map_some, Option.map_none, nd0, eqK, elE, nd2, in3t, hm, bn1, bn2, bn3, bn4, n1, n2]
          rfl
        · rw [if_neg h3]
          have hm : decide (tag ∈ (["input", "area", "select"] : List Str)) = false := decide_eq_false fun z => by simp at z; rcases z with z | z | z <;> contradiction
          simp only [LD.v_lenO, LD.v_eqQi, LD.v_neQi, LD.q_Ins, LD.q_App, LD.okS_t, LD.v_isLst, LD.lstK_s, LD.v_app, LD.q_Rev, LD.lsK_s, LD.q_Get, LD.getKK_s, LD.v_lsL, LD.v_keyI, LD.v_keyS, Option.isSome_some, Option.isSome_none, Option.getD_some, Option.getD_none, LD.v_eqs, LD.v_nes, LD.v_isiBb, LD.q_C, LD.q_Var, LD.q_Bin, LD.q_Un, LD.q_tOf, LD.q_tCmp, LD.q_tAnd, LD.q_tOr, LD.q_tNot, LD.q_And, LD.q_Or, LD.q_Not, LD.q_If, LD.q_Nil, LD.q_Cons, LD.q_Tup, LD.q_Lst, LD.q_LstM, LD.q_Call, LD.q_Meth, LD.q_Attr, LD.q_Blt, LD.q_Comp, LD.q_iOf, LD.srcK_s, LD.v_truB, LD.v_truL, LD.v_truN, LD.v_srcL, LD.v_neg, LD.q_iRange, LD.q_Next, LD.q_Seq, LD.q_Expr, LD.q_Ret, LD.q_RetN, LD.q_SIf, LD.q_Bk, LD.q_Ct, LD.q_Asg, LD.q_Nm, LD.q_Sub, LD.q_Del, LD.q_Fld, LD.q_Dic, LD.q_For, LD.wipeD, Bool.not_true, Bool.not_false, LD.ifT, LD.le0, LD.le1, LD.le2, LD.le3, LD.le4, LD.le5, LD.le6, LD.cmpK_l, LD.nn_n, LD.nn_i, LD.nn_t, LD.nn_l, LD.nn_r, LD.nn_b, LD.nn_s, LD.nonK_n, LD.okK_o, LD.bind_k, LD.bind_b, LD.bind_e, LD.bindS_k, LD.bindS_e, LD.ofO_s, LD.getV_s, LD.truK_s, LD.blK_b, LD.refK_r, LD.insK_i, LD.lookK_s, LD.lookK_n, LD.refS_r, LD.insS_i, LD.lookS_s, LD.seq_n, LD.seq_r, LD.seq_b, LD.seq_c, LD.seq_e, LD.storeK_s, LD.memK_s, LD.endF_n, LD.endF_r, LD.endF_e, LD.pick_t, LD.pick_f, LD.finL_f, LD.finL_t, LD.v_add, LD.v_sub, LD.v_mulR, LD.v_fdiv, LD.v_mod, LD.v_int, LD.v_lt, LD.v_le, LD.v_gt, LD.v_ge, LD.v_eq, LD.v_ne, LD.v_len, LD.v_tix, LD.v_lix, LD.v_rix, LD.rixK_l, LD.rixK_d, LD.v_isN, LD.v_isnN, LD.v_isNone, LD.v_isNoneN, LD.startD, List.length_cons, List.length_nil, List.map_cons, List.map_nil, List.cons_append, List.nil_append, List.append_nil, List.getElem?_cons_zero, List.getElem?_cons_succ, List.set_cons_zero, List.set_cons_succ, List.replicate_succ, List.replicate_zero, Nat.reduceAdd, Nat.reduceSub, Nat.reduceBEq, Int.reduceLT, Int.reduceNeg, Int.reduceLE, Nat.reduceLeDiff, Nat.reduceLT, List.lookup_cons, List.lookup_nil, beq_self_eq_true, Option.map_some, Option.map_none, nd0, eqK, elE, nd2, in3t, hm, bn1, bn2, bn3, bn4]
          rfl
end K65
namespace K65
open PySem PySem.Spec PyProof.Rows L2 LD
/-! ### all elements, each with whether it is disabled -/
mutual
def elN : Nd → Bool → List (Nd × Bool)
  | .txt _ _, _ => []
  | .el n tag ats kids, d => (.el n tag ats kids, d || (attrOf ats "disabled").isSome) :: elL kids (d || (attrOf ats "disabled").isSome)
def elL : List Nd → Bool → List (Nd × Bool)
  | [], _ => []
  | a :: r, d => elN a d ++ elL r d
end
def prE (q : Nd × Bool) : D := .tup [ndD q.1, .bl q.2]
mutual
theorem elN_len : ∀ (a : Nd) (d : Bool), (elN a d).length ≤ (numsN a).length
  | .txt _ _, d => by rw [elN]; exact Nat.zero_le _
  | .el n tag ats kids, d => by
    have := elL_len kids (d || (attrOf ats "disabled").isSome)
    rw [elN, numsN, List.length_cons, List.length_cons]
    omega
theorem elL_len : ∀ (l : List Nd) (d : Bool), (elL l d).length ≤ (numsL l).length
  | [], d => by rw [elL]; exact Nat.zero_le _
  | a :: r, d => by
    have h1 := elN_len a d
    have h2 := elL_len r d
    rw [elL, numsL, List.length_append, List.length_append]
    omega
end
theorem el_loop {φr : FnD} {m : Nat} {d : Bool} {n0 : Nat} {a0 : Option D}
    (ih : ∀ (kids : List Nd) (M : Mem) (d : Bool), htL kids < m → (numsL kids).length < 1000 → ∃ i M', φr [.tup (kids.map ndD), .bl d] M = .ok (.ref i) M' ∧ M'[i]? = some (.lst ((elL kids d).map prE)) ∧ M.length ≤ M'.length ∧ ∀ j, j < M.length → M'[j]? = M[j]?) :
    ∀ (l : List Nd) (fl : List (Nd × Bool)) (f : Nat) (M : Mem) (x3 x4 : Option D), htL l ≤ m → fl.length + (numsL l).length < 1000 → n0 ≤ f → M[f]? = some (.lst (fl.map prE)) →
    ∃ f' M' x3' x4', forV (fun _ => true) (gNm 3) (β_elements_of_2 φr) (l.map ndD) [a0, some (.bl d), some (.ref f), x3, x4] M = .nx [a0, some (.bl d), some (.ref f'), x3', x4'] M' ∧ M'[f']? = some (.lst ((fl ++ elL l d).map prE)) ∧ M.length ≤ M'.length ∧ ∀ j, j < n0 → M'[j]? = M[j]?
  | [], fl, f, M, x3, x4, _, _, _, hf => ⟨f, M, x3, x4, forV_n rfl, by rw [elL, List.append_nil]; exact hf, Nat.le_refl _, fun _ _ => rfl⟩
  | .txt n x :: r, fl, f, M, x3, x4, hm, hl, hn, hf => by
    rw [numsL, List.length_append] at hl
    rw [htL] at hm
    have e1 : β_elements_of_2 φr [a0, some (.bl d), some (.ref f), some (ndD (.txt n x)), x4] M = .nx [a0, some (.bl d), some (.ref f), some (ndD (.txt n x)), x4] M := by
      unfold β_elements_of_2
      simp only [LD.v_lenO, LD.v_eqQi, LD.v_neQi, LD.q_Ins, LD.q_App, LD.okS_t, LD.v_isLst, LD.lstK_s, LD.v_app, LD.q_Rev, LD.lsK_s, LD.q_Get, LD.getKK_s, LD.v_lsL, LD.v_keyI, LD.v_keyS, Option.isSome_some, Option.isSome_none, Option.getD_some, Option.getD_none, LD.v_eqs, LD.v_nes, LD.v_isiBb, LD.q_C, LD.q_Var, LD.q_Bin, LD.q_Un, LD.q_tOf, LD.q_tCmp, LD.q_tAnd, LD.q_tOr, LD.q_tNot, LD.q_And, LD.q_Or, LD.q_Not, LD.q_If, LD.q_Nil, LD.q_Cons, LD.q_Tup, LD.q_Lst, LD.q_LstM, LD.q_Call, LD.q_Meth, LD.q_Attr, LD.q_Blt, LD.q_Comp, LD.q_iOf, LD.srcK_s, LD.v_truB, LD.v_truL, LD.v_truN, LD.v_srcL, LD.v_neg, LD.q_iRange, LD.q_Next, LD.q_Seq, LD.q_Expr, LD.q_Ret, LD.q_RetN, LD.q_SIf, LD.q_Bk, LD.q_Ct, LD.q_Asg, LD.q_Nm, LD.q_Sub, LD.q_Del, LD.q_Fld, LD.q_Dic, LD.q_For, LD.wipeD, Bool.not_true, Bool.not_false, LD.ifT, LD.le0, LD.le1, LD.le2, LD.le3, LD.le4, LD.le5, LD.le6, LD.cmpK_l, LD.nn_n, LD.nn_i, LD.nn_t, LD.nn_l, LD.nn_r, LD.nn_b, LD.nn_s, LD.nonK_n, LD.okK_o, LD.bind_k, LD.bind_b, LD.bind_e, LD.bindS_k, LD.bindS_e, LD.ofO_s, LD.getV_s, LD.truK_s, LD.blK_b, LD.refK_r, LD.insK_i, LD.lookK_s, LD.lookK_n, LD.refS_r, LD.insS_i, LD.lookS_s, LD.seq_n, LD.seq_r, LD.seq_b, LD.seq_c, LD.seq_e, LD.storeK_s, LD.memK_s, LD.endF_n, LD.endF_r, LD.endF_e, LD.pick_t, LD.pick_f, LD.finL_f, LD.finL_t, LD.v_add, LD.v_sub, LD.v_mulR, LD.v_fdiv, LD.v_mod, LD.v_int, LD.v_lt, LD.v_le, LD.v_gt, LD.v_ge, LD.v_eq, LD.v_ne, LD.v_len, LD.v_tix, LD.v_lix, LD.v_rix, LD.rixK_l, LD.rixK_d, LD.v_isN, LD.v_isnN, LD.v_isNone, LD.v_isNoneN, LD.startD, List.length_cons, List.length_nil, List.map_cons, List.map_nil, List.cons_append, List.nil_append, List.append_nil, List.getElem?_cons_zero, List.getElem?_cons_succ, List.set_cons_zero, List.set_cons_succ, List.replicate_succ, List.replicate_zero, Nat.reduceAdd, Nat.reduceSub, Nat.reduceBEq, Int.reduceLT, Int.reduceNeg, Int.reduceLE, Nat.reduceLeDiff, Nat.reduceLT, List.lookup_cons, List.lookup_nil, beq_self_eq_true, Option.map_some, Option.map_none, nd0, eqK, elT]
    obtain ⟨f', M', y3, y4, e2, e3, e4, e5⟩ := el_loop (n0 := n0) ih r fl f M (some (ndD (.txt n x))) x4 (by omega) (by omega) hn hf
    refine ⟨f', M', y3, y4, ?_, ?_, e4, e5⟩
    · rw [List.map_cons]
      exact (forV_c rfl rfl e1).trans e2
    · rw [e3, elL, elN, List.nil_append]
  | .el n tag ats kids :: r, fl, f, M, x3, x4, hm, hl, hn, hf => by
    rw [numsL, List.length_append, numsN, List.length_cons] at hl
    rw [htL, htN] at hm
    have hL : (fl.map prE).length < LINE := by rw [List.length_map]; have := big; omega
    have hf1 : ∀ o, (M.set f o)[f]? = some o := fun o => set_is hf
    have hfl : f < M.length := (List.getElem?_eq_some_iff.mp hf).1
    generalize hs : (d || (attrOf ats "disabled").isSome) = s
    have em : (fl ++ [(Nd.el n tag ats kids, s)]).map prE = fl.map prE ++ [.tup [ndD (.el n tag ats kids), .bl s]] := by rw [List.map_append] <;> rfl
    obtain ⟨i, M2, r1, r2, r3, r4⟩ := ih kids (M.set f (.lst ((fl ++ [(Nd.el n tag ats kids, s)]).map prE))) s (by omega) (by omega)
    rw [List.length_set] at r3 r4
    have hf2 : M2[f]? = some (.lst ((fl ++ [(Nd.el n tag ats kids, s)]).map prE)) := by rw [r4 f hfl]; exact hf1 _
    have hk := elL_len kids s
    have hsum : ((fl ++ [(Nd.el n tag ats kids, s)]).map prE).length + ((elL kids s).map prE).length ≤ LINE := by
      rw [List.length_map, List.length_map, List.length_append, List.length_singleton]; have := big; omega
    have e1 : β_elements_of_2 φr [a0, some (.bl d), some (.ref f), some (ndD (.el n tag ats kids)), x4] M = .nx [a0, some (.bl d), some (.ref M2.length), some (ndD (.el n tag ats kids)), some (.bl s)] (M2 ++ [.lst ((fl ++ [(Nd.el n tag ats kids, s)] ++ elL kids s).map prE)]) := by
      rw [List.map_append (l₁ := fl ++ [(Nd.el n tag ats kids, s)])]
      have ea := v_addM (v_lsR hf2) (v_lsR r2) hsum
      rw [em] at r1 ea ⊢
      unfold β_elements_of_2
      cases d with
      | true =>
        have hs' : s = true := by rw [← hs, Bool.true_or]
        subst hs'
        simp only [LD.v_lenO, LD.v_eqQi, LD.v_neQi, LD.q_Ins, LD.q_App, LD.okS_t, LD.v_isLst, LD.lstK_s, LD.v_app, LD.q_Rev, LD.lsK_s, LD.q_Get, LD.getKK_s, LD.v_lsL, LD.v_keyI, LD.v_keyS, Option.isSome_some, Option.isSome_none, Option.getD_some, Option.getD_none, LD.v_eqs, LD.v_nes, LD.v_isiBb, LD.q_C, LD.q_Var, LD.q_Bin, LD.q_Un, LD.q_tOf, LD.q_tCmp, LD.q_tAnd, LD.q_tOr, LD.q_tNot, LD.q_And, LD.q_Or, LD.q_Not, LD.q_If, LD.q_Nil, LD.q_Cons, LD.q_Tup, LD.q_Lst, LD.q_LstM, LD.q_Call, LD.q_Meth, LD.q_Attr, LD.q_Blt, LD.q_Comp, LD.q_iOf, LD.srcK_s, LD.v_truB, LD.v_truL, LD.v_truN, LD.v_srcL, LD.v_neg, LD.q_iRange, LD.q_Next, LD.q_Seq, LD.q_Expr, LD.q_Ret, LD.q_RetN, LD.q_SIf, LD.q_Bk, LD.q_Ct, LD.q_Asg, LD.q_Nm, LD.q_Sub, LD.q_Del, LD.q_Fld, LD.q_Dic, LD.q_For, LD.wipeD, Bool.not_true, Bool.not_false, LD.ifT, LD.le0, LD.le1, LD.le2, LD.le3, LD.le4, LD.le5, LD.le6, LD.cmpK_l, LD.nn_n, LD.nn_i, LD.nn_t, LD.nn_l, LD.nn_r, LD.nn_b, LD.nn_s, LD.nonK_n, LD.okK_o, LD.bind_k, LD.bind_b, LD.bind_e, LD.bindS_k, LD.bindS_e, LD.ofO_s, LD.getV_s, LD.truK_s, LD.blK_b, LD.refK_r, LD.insK_i, LD.lookK_s, LD.lookK_n, LD.refS_r, LD.insS_i, LD.lookS_s, LD.seq_n, LD.seq_r, LD.seq_b, LD.seq_c, LD.seq_e, LD.storeK_s, LD.memK_s, LD.endF_n, LD.endF_r, LD.endF_e, LD.pick_t, LD.pick_f, LD.finL_f, LD.finL_t, LD.v_add, LD.v_sub, LD.v_mulR, LD.v_fdiv, LD.v_mod, LD.v_int, LD.v_lt, LD.v_le, LD.v_gt, LD.v_ge, LD.v_eq, LD.v_ne, LD.v_len, LD.v_tix, LD.v_lix, LD.v_rix, LD.rixK_l, LD.rixK_d, LD.v_isN, LD.v_isnN, LD.v_isNone, LD.v_isNoneN, LD.startD, List.length_cons, List.length_nil, List.map_cons, List.map_nil, List.cons_append, List.nil_append, List.append_nil, List.getElem?_cons_zero, List.getElem?_cons_succ, List.set_cons_zero, List.set_cons_succ, List.replicate_succ, List.replicate_zero, Nat.reduceAdd, Nat.reduceSub, Nat.reduceBEq, Int.reduceLT, Int.reduceNeg, Int.reduceLE, Nat.reduceLeDiff, Nat.reduceLT, List.lookup_cons, List.lookup_nil, beq_self_eq_true, Option.map_some, Option.map_none, hf, appK_s hL, nd0, eqK, elE, nd4, r1, ea]
      | false =>
        have hs' : (attrOf ats "disabled").isSome = s := by rw [← hs, Bool.false_or]
        simp only [LD.v_lenO, LD.v_eqQi, LD.v_neQi, LD.q_Ins, LD.q_App, LD.okS_t, LD.v_isLst, LD.lstK_s, LD.v_app, LD.q_Rev, LD.lsK_s, LD.q_Get, LD.getKK_s, LD.v_lsL, LD.v_keyI, LD.v_keyS, Option.isSome_some, Option.isSome_none, Option.getD_some, Option.getD_none, LD.v_eqs, LD.v_nes, LD.v_isiBb, LD.q_C, LD.q_Var, LD.q_Bin, LD.q_Un, LD.q_tOf, LD.q_tCmp, LD.q_tAnd, LD.q_tOr, LD.q_tNot, LD.q_And, LD.q_Or, LD.q_Not, LD.q_If, LD.q_Nil, LD.q_Cons, LD.q_Tup, LD.q_Lst, LD.q_LstM, LD.q_Call, LD.q_Meth, LD.q_Attr, LD.q_Blt, LD.q_Comp, LD.q_iOf, LD.srcK_s, LD.v_truB, LD.v_truL, LD.v_truN, LD.v_srcL, LD.v_neg, LD.q_iRange, LD.q_Next, LD.q_Seq, LD.q_Expr, LD.q_Ret, LD.q_RetN, LD.q_SIf, LD.q_Bk, LD.q_Ct, LD.q_Asg, LD.q_Nm, LD.q_Sub, LD.q_Del, LD.q_Fld, LD.q_Dic, LD.q_For, LD.wipeD, Bool.not_true, Bool.not_false, LD.ifT, LD.le0, LD.le1, LD.le2, LD.le3, LD.le4, LD.le5, LD.le6, LD.cmpK_l, LD.nn_n, LD.nn_i, LD.nn_t, LD.nn_l, LD.nn_r, LD.nn_b, LD.nn_s, LD.nonK_n, LD.okK_o, LD.bind_k, LD.bind_b, LD.bind_e, LD.bindS_k, LD.bindS_e, LD.ofO_s, LD.getV_s, LD.truK_s, LD.blK_b, LD.refK_r, LD.insK_i, LD.lookK_s, LD.lookK_n, LD.refS_r, LD.insS_i, LD.lookS_s, LD.seq_n, LD.seq_r, LD.seq_b, LD.seq_c, LD.seq_e, LD.storeK_s, LD.memK_s, LD.endF_n, LD.endF_r, LD.endF_e, LD.pick_t, LD.pick_f, LD.finL_f, LD.finL_t, LD.v_add, LD.v_sub, LD.v_mulR, LD.v_fdiv, LD.v_mod, LD.v_int, LD.v_lt, LD.v_le, LD.v_gt, LD.v_ge, LD.v_eq, LD.v_ne, LD.v_len, LD.v_tix, LD.v_lix, LD.v_rix, LD.rixK_l, LD.rixK_d, LD.v_isN, LD.v_isnN, LD.v_isNone, LD.v_isNoneN, LD.startD, List.length_cons, List.length_nil, List.map_cons, List.map_nil, List.cons_append, List.nil_append, List.append_nil, List.getElem?_cons_zero, List.getElem?_cons_succ, List.set_cons_zero, List.set_cons_succ, List.replicate_succ, List.replicate_zero, Nat.reduceAdd, Nat.reduceSub, Nat.reduceBEq, Int.reduceLT, Int.reduceNeg, Int.reduceLE, Nat.reduceLeDiff, Nat.reduceLT, List.lookup_cons, List.lookup_nil, beq_self_eq_true, Option.map_some, Option.map_none, text_eq, nn_o, Bool.not_not, hs', hf, appK_s hL, nd0, eqK, elE, nd4, r1, ea]
    obtain ⟨f', M', y3, y4, e2, e3, e4, e5⟩ := el_loop (n0 := n0) ih r (fl ++ [(Nd.el n tag ats kids, s)] ++ elL kids s) M2.length (M2 ++ [.lst ((fl ++ [(Nd.el n tag ats kids, s)] ++ elL kids s).map prE)]) (some (ndD (.el n tag ats kids))) (some (.bl s)) (by omega)
      (by rw [List.length_append, List.length_append, List.length_singleton]; omega) (by omega) app_at
    rw [List.length_append, List.length_singleton] at e4
    refine ⟨f', M', y3, y4, ?_, ?_, by omega, fun j hj => ?_⟩
    · rw [List.map_cons]
      exact (forV_c rfl rfl e1).trans e2
    · rw [e3, elL, elN, hs]
      simp only [List.append_assoc, List.cons_append, List.nil_append]
    · rw [e5 j hj, app_old (by omega), r4 j (by omega), set_at (by omega)]
theorem elements_eq : ∀ (m : Nat) (l : List Nd) (M : Mem) (d : Bool), htL l < m → (numsL l).length < 1000 → ∃ i M', φ_elements_of m [.tup (l.map ndD), .bl d] M = .ok (.ref i) M' ∧ M'[i]? = some (.lst ((elL l d).map prE)) ∧ M.length ≤ M'.length ∧ ∀ j, j < M.length → M'[j]? = M[j]?
  | 0, l, M, d, h, _ => by omega
  | m + 1, l, M, d, h, hn => by
    obtain ⟨f', M', y3, y4, e1, e2, e3, e4⟩ := el_loop (φr := φ_elements_of m) (m := m) (d := d) (n0 := M.length) (a0 := some (.tup (l.map ndD))) (fun kids M d a b => elements_eq m kids M d a b) l [] M.length (M ++ [.lst []]) none none (by omega) (by show 0 + _ < _; omega) (Nat.le_refl _) app_at
    rw [List.length_append, List.length_singleton] at e3
    refine ⟨f', M', ?_, e2, by omega, fun j hj => by rw [e4 j hj, app_old hj]⟩
    rw [φ_elements_of]
    refine run_def rfl ?_
    unfold ψ_elements_of
    simp only [LD.v_lenO, LD.v_eqQi, LD.v_neQi, LD.q_Ins, LD.q_App, LD.okS_t, LD.v_isLst, LD.lstK_s, LD.v_app, LD.q_Rev, LD.lsK_s, LD.q_Get, LD.getKK_s, LD.v_lsL, LD.v_keyI, LD.v_keyS, Option.isSome_some, Option.isSome_none, Option.getD_some, Option.getD_none, LD.v_eqs, LD.v_nes, LD.v_isiBb, LD.q_C, LD.q_Var, LD.q_Bin, LD.q_Un, LD.q_tOf, LD.q_tCmp, LD.q_tAnd, LD.q_tOr, LD.q_tNot, LD.q_And, LD.q_Or, LD.q_Not, LD.q_If, LD.q_Nil, LD.q_Cons, LD.q_Tup, LD.q_Lst, LD.q_LstM, LD.q_Call, LD.q_Meth, LD.q_Attr, LD.q_Blt, LD.q_Comp, LD.q_iOf, LD.srcK_s, LD.v_truB, LD.v_truL, LD.v_truN, LD.v_srcL, LD.v_neg, LD.q_iRange, LD.q_Next, LD.q_Seq, LD.q_Expr, LD.q_Ret, LD.q_RetN, LD.q_SIf, LD.q_Bk, LD.q_Ct, LD.q_Asg, LD.q_Nm, LD.q_Sub, LD.q_Del, LD.q_Fld, LD.q_Dic, LD.q_For, LD.wipeD, Bool.not_true, Bool.not_false, LD.ifT, LD.le0, LD.le1, LD.le2, LD.le3, LD.le4, LD.le5, LD.le6, LD.cmpK_l, LD.nn_n, LD.nn_i, LD.nn_t, LD.nn_l, LD.nn_r, LD.nn_b, LD.nn_s, LD.nonK_n, LD.okK_o, LD.bind_k, LD.bind_b, LD.bind_e, LD.bindS_k, LD.bindS_e, LD.ofO_s, LD.getV_s, LD.truK_s, LD.blK_b, LD.refK_r, LD.insK_i, LD.lookK_s, LD.lookK_n, LD.refS_r, LD.insS_i, LD.lookS_s, LD.seq_n, LD.seq_r, LD.seq_b, LD.seq_c, LD.seq_e, LD.storeK_s, LD.memK_s, LD.endF_n, LD.endF_r, LD.endF_e, LD.pick_t, LD.pick_f, LD.finL_f, LD.finL_t, LD.v_add, LD.v_sub, LD.v_mulR, LD.v_fdiv, LD.v_mod, LD.v_int, LD.v_lt, LD.v_le, LD.v_gt, LD.v_ge, LD.v_eq, LD.v_ne, LD.v_len, LD.v_tix, LD.v_lix, LD.v_rix, LD.rixK_l, LD.rixK_d, LD.v_isN, LD.v_isnN, LD.v_isNone, LD.v_isNoneN, LD.startD, List.length_cons, List.length_nil, List.map_cons, List.map_nil, List.cons_append, List.nil_append, List.append_nil, List.getElem?_cons_zero, List.getElem?_cons_succ, List.set_cons_zero, List.set_cons_succ, List.replicate_succ, List.replicate_zero, Nat.reduceAdd, Nat.reduceSub, Nat.reduceBEq, Int.reduceLT, Int.reduceNeg, Int.reduceLE, Nat.reduceLeDiff, Nat.reduceLT, List.lookup_cons, List.lookup_nil, beq_self_eq_true, Option.map_some, Option.map_none, srcT, e1]
/-! ### values -/
def optV (a : Nd) : Str := (attrN "value" a).getD ""
def freeOf (l : List (Nd × Bool)) : List Str := (l.filter fun q => decide (tagOf q.1 = "option") && !q.2).map fun q => optV q.1
theorem elem_of {a : Nd} (h : isEl a = true) : ∃ n tag ats kids, a = .el n tag ats kids := by
  cases a with
  | txt n x => cases h
  | el n tag ats kids => exact ⟨n, tag, ats, kids, rfl⟩
mutual
theorem elN_el : ∀ (a : Nd) (d : Bool), ∀ q ∈ elN a d, isEl q.1 = true
  | .txt _ _, d, q, h => by rw [elN] at h; cases h
  | .el n tag ats kids, d, q, h => by
    rw [elN, List.mem_cons] at h
    rcases h with rfl | h
    · rfl
    · exact elL_el kids _ q h
theorem elL_el : ∀ (l : List Nd) (d : Bool), ∀ q ∈ elL l d, isEl q.1 = true
  | [], d, q, h => by rw [elL] at h; cases h
  | a :: r, d, q, h => by
    rw [elL, List.mem_append] at h
    rcases h with h | h
    · exact elN_el a d q h
    · exact elL_el r d q h
end
theorem option_eq {n : Int} {tag : Str} {ats : List (Str × Str)} {kids : List Nd} {M : Mem} : φ_option_value [ndD (.el n tag ats kids)] M = .ok (.str (optV (.el n tag ats kids))) M := by
  unfold φ_option_value
  refine run_def rfl ?_
  unfold ψ_option_value optV
  show _ = LD.R.ok (D.str ((attrOf ats "value").getD "")) M
  generalize ha : attrOf ats "value" = o
  cases o with
  | none =>
    simp only [LD.v_lenO, LD.v_eqQi, LD.v_neQi, LD.q_Ins, LD.q_App, LD.okS_t, LD.v_isLst, LD.lstK_s, LD.v_app, LD.q_Rev, LD.lsK_s, LD.q_Get, LD.getKK_s, LD.v_lsL, LD.v_keyI, LD.v_keyS, Option.isSome_some, Option.isSome_none, Option.getD_some, Option.getD_none, LD.v_eqs, LD.v_nes, LD.v_isiBb, LD.q_C, LD.q_Var, LD.q_Bin, LD.q_Un, LD.q_tOf, LD.q_tCmp, LD.q_tAnd, LD.q_tOr, LD.q_tNot, LD.q_And, LD.q_Or, LD.q_Not, LD.q_If, LD.q_Nil, LD.q_Cons, LD.q_Tup, LD.q_Lst, LD.q_LstM, LD.q_Call, LD.q_Meth, LD.q_Attr, LD.q_Blt, LD.q_Comp, LD.q_iOf, LD.srcK_s, LD.v_truB, LD.v_truL, LD.v_truN, LD.v_srcL, LD.v_neg, LD.q_iRange, LD.q_Next, LD.q_Seq, LD.q_Expr, LD.q_Ret, LD.q_RetN, LD.q_SIf, LD.q_Bk, LD.q_Ct, LD.q_Asg, LD.q_Nm, LD.q_Sub, LD.q_Del, LD.q_Fld, LD.q_Dic, LD.q_For, LD.wipeD, Bool.not_true, Bool.not_false, LD.ifT, LD.le0, LD.le1, LD.le2, LD.le3, LD.le4, LD.le5, LD.le6, LD.cmpK_l, LD.nn_n, LD.nn_i, LD.nn_t, LD.nn_l, LD.nn_r, LD.nn_b, LD.nn_s, LD.nonK_n, LD.okK_o, LD.bind_k, LD.bind_b, LD.bind_e, LD.bindS_k, LD.bindS_e, LD.ofO_s, LD.getV_s, LD.truK_s, LD.blK_b, LD.refK_r, LD.insK_i, LD.lookK_s, LD.lookK_n, LD.refS_r, LD.insS_i, LD.lookS_s, LD.seq_n, LD.seq_r, LD.seq_b, LD.seq_c, LD.seq_e, LD.storeK_s, LD.memK_s, LD.endF_n, LD.endF_r, LD.endF_e, LD.pick_t, LD.pick_f, LD.finL_f, LD.finL_t, LD.v_add, LD.v_sub, LD.v_mulR, LD.v_fdiv, LD.v_mod, LD.v_int, LD.v_lt, LD.v_le, LD.v_gt, LD.v_ge, LD.v_eq, LD.v_ne, LD.v_len, LD.v_tix, LD.v_lix, LD.v_rix, LD.rixK_l, LD.rixK_d, LD.v_isN, LD.v_isnN, LD.v_isNone, LD.v_isNoneN, LD.startD, List.length_cons, List.length_nil, List.map_cons, List.map_nil, List.cons_append, List.nil_append, List.append_nil, List.getElem?_cons_zero, List.getElem?_cons_succ, List.set_cons_zero, List.set_cons_succ, List.replicate_succ, List.replicate_zero, Nat.reduceAdd, Nat.reduceSub, Nat.reduceBEq, Int.reduceLT, Int.reduceNeg, Int.reduceLE, Nat.reduceLeDiff, Nat.reduceLT, List.lookup_cons, List.lookup_nil, beq_self_eq_true, Option.map_some, Option.map_none, text_eq, ha, nn_o]
  | some x =>
    simp only [LD.v_lenO, LD.v_eqQi, LD.v_neQi, LD.q_Ins, LD.q_App, LD.okS_t, LD.v_isLst, LD.lstK_s, LD.v_app, LD.q_Rev, LD.lsK_s, LD.q_Get, LD.getKK_s, LD.v_lsL, LD.v_keyI, LD.v_keyS, Option.isSome_some, Option.isSome_none, Option.getD_some, Option.getD_none, LD.v_eqs, LD.v_nes, LD.v_isiBb, LD.q_C, LD.q_Var, LD.q_Bin, LD.q_Un, LD.q_tOf, LD.q_tCmp, LD.q_tAnd, LD.q_tOr, LD.q_tNot, LD.q_And, LD.q_Or, LD.q_Not, LD.q_If, LD.q_Nil, LD.q_Cons, LD.q_Tup, LD.q_Lst, LD.q_LstM, LD.q_Call, LD.q_Meth, LD.q_Attr, LD.q_Blt, LD.q_Comp, LD.q_iOf, LD.srcK_s, LD.v_truB, LD.v_truL, LD.v_truN, LD.v_srcL, LD.v_neg, LD.q_iRange, LD.q_Next, LD.q_Seq, LD.q_Expr, LD.q_Ret, LD.q_RetN, LD.q_SIf, LD.q_Bk, LD.q_Ct, LD.q_Asg, LD.q_Nm, LD.q_Sub, LD.q_Del, LD.q_Fld, LD.q_Dic, LD.q_For, LD.wipeD, Bool.not_true, Bool.not_false, LD.ifT, LD.le0, LD.le1, LD.le2, LD.le3, LD.le4, LD.le5, LD.le6, LD.cmpK_l, LD.nn_n, LD.nn_i, LD.nn_t, LD.nn_l, LD.nn_r, LD.nn_b, LD.nn_s, LD.nonK_n, LD.okK_o, LD.bind_k, LD.bind_b, LD.bind_e, LD.bindS_k, LD.bindS_e, LD.ofO_s, LD.getV_s, LD.truK_s, LD.blK_b, LD.refK_r, LD.insK_i, LD.lookK_s, LD.lookK_n, LD.refS_r, LD.insS_i, LD.lookS_s, LD.seq_n, LD.seq_r, LD.seq_b, LD.seq_c, LD.seq_e, LD.storeK_s, LD.memK_s, LD.endF_n, LD.endF_r, LD.endF_e, LD.pick_t, LD.pick_f, LD.finL_f, LD.finL_t, LD.v_add, LD.v_sub, LD.v_mulR, LD.v_fdiv, LD.v_mod, LD.v_int, LD.v_lt, LD.v_le, LD.v_gt, LD.v_ge, LD.v_eq, LD.v_ne, LD.v_len, LD.v_tix, LD.v_lix, LD.v_rix, LD.rixK_l, LD.rixK_d, LD.v_isN, LD.v_isnN, LD.v_isNone, LD.v_isNoneN, LD.startD, List.length_cons, List.length_nil, List.map_cons, List.map_nil, List.cons_append, List.nil_append, List.append_nil, List.getElem?_cons_zero, List.getElem?_cons_succ, List.set_cons_zero, List.set_cons_succ, List.replicate_succ, List.replicate_zero, Nat.reduceAdd, Nat.reduceSub, Nat.reduceBEq, Int.reduceLT, Int.reduceNeg, Int.reduceLE, Nat.reduceLeDiff, Nat.reduceLT, List.lookup_cons, List.lookup_nil, beq_self_eq_true, Option.map_some, Option.map_none, text_eq, ha, nn_o]
    rfl
theorem eqSd (x y : Str) (M : Mem) : boD eqD (.str x) (.str y) M = some (.bl (decide (x = y)), M) := by
  rw [v_eqs]
  by_cases h : x = y
  · rw [beq_iff_eq.mpr h, decide_eq_true h]
  · rw [beq_eq_false_iff_ne.mpr h, decide_eq_false h]
theorem free_eq {n : Int} {tag : Str} {ats : List (Str × Str)} {kids : List Nd} {d : Bool} {M : Mem} (h : htL kids < 30) (hn : (numsL kids).length < 1000) : ∃ M', φ_free_options [ndD (.el n tag ats kids), .bl d] M = .ok (.lst ((freeOf (elL kids d)).map .str)) M' ∧ M.length ≤ M'.length ∧ ∀ j, j < M.length → M'[j]? = M[j]? := by
  obtain ⟨i, M', e1, e2, e3, e4⟩ := elements_eq 30 kids M d h hn
  have hL : ((elL kids d).map prE).length ≤ LINE := by
    rw [List.length_map]
    have := elL_len kids d
    have := big
    omega
  have hc := compV_map (M := M') (s := [some (ndD (.el n tag ats kids)), some (.bl d), some (.ref i), none, none]) (γ := gTp [3, 4]) (τ := tAnd (tCmp (boD eqD) (eBin ixD (eVar 3) (eC (.int 2))) (eC (.str "option"))) (tNot (tOf (eVar 4)))) (φ := eCall φ_option_value (aCons (eVar 3) aNil) aNil) (chk := mutChk i ((elL kids d).map prE)) (e := prE) (g := fun q : Nd × Bool => D.str (optV q.1)) (p := fun q : Nd × Bool => decide (tagOf q.1 = "option") && !q.2) (eqb_mut e2) (as := elL kids d) fun q hq => by
    obtain ⟨q1, q2⟩ := q
    obtain ⟨n', tag', ats', kids', rfl⟩ := elem_of (elL_el kids d _ hq)
    refine ⟨[some (ndD (.el n tag ats kids)), some (.bl d), some (.ref i), some (ndD (.el n' tag' ats' kids')), some (.bl q2)], rfl, ?_, fun _ => ?_⟩
    · show _ = LD.R.ok (decide (tag' = "option") && !q2) M'
      by_cases ho : tag' = "option"
      · rw [decide_eq_true ho, Bool.true_and]
        simp only [LD.v_lenO, LD.v_eqQi, LD.v_neQi, LD.q_Ins, LD.q_App, LD.okS_t, LD.v_isLst, LD.lstK_s, LD.v_app, LD.q_Rev, LD.lsK_s, LD.q_Get, LD.getKK_s, LD.v_lsL, LD.v_keyI, LD.v_keyS, Option.isSome_some, Option.isSome_none, Option.getD_some, Option.getD_none, LD.v_eqs, LD.v_nes, LD.v_isiBb, LD.q_C, LD.q_Var, LD.q_Bin, LD.q_Un, LD.q_tOf, LD.q_tCmp, LD.q_tAnd, LD.q_tOr, LD.q_tNot, LD.q_And, LD.q_Or, LD.q_Not, LD.q_If, LD.q_Nil, LD.q_Cons, LD.q_Tup, LD.q_Lst, LD.q_LstM, LD.q_Call, LD.q_Meth, LD.q_Attr, LD.q_Blt, LD.q_Comp, LD.q_iOf, LD.srcK_s, LD.v_truB, LD.v_truL, LD.v_truN, LD.v_srcL, LD.v_neg, LD.q_iRange, LD.q_Next, LD.q_Seq, LD.q_Expr, LD.q_Ret, LD.q_RetN, LD.q_SIf, LD.q_Bk, LD.q_Ct, LD.q_Asg, LD.q_Nm, LD.q_Sub, LD.q_Del, LD.q_Fld, LD.q_Dic, LD.q_For, LD.wipeD, Bool.not_true, Bool.not_false, LD.ifT, LD.le0, LD.le1, LD.le2, LD.le3, LD.le4, LD.le5, LD.le6, LD.cmpK_l, LD.nn_n, LD.nn_i, LD.nn_t, LD.nn_l, LD.nn_r, LD.nn_b, LD.nn_s, LD.nonK_n, LD.okK_o, LD.bind_k, LD.bind_b, LD.bind_e, LD.bindS_k, LD.bindS_e, LD.ofO_s, LD.getV_s, LD.truK_s, LD.blK_b, LD.refK_r, LD.insK_i, LD.lookK_s, LD.lookK_n, LD.refS_r, LD.insS_i, LD.lookS_s, LD.seq_n, LD.seq_r, LD.seq_b, LD.seq_c, LD.seq_e, LD.storeK_s, LD.memK_s, LD.endF_n, LD.endF_r, LD.endF_e, LD.pick_t, LD.pick_f, LD.finL_f, LD.finL_t, LD.v_add, LD.v_sub, LD.v_mulR, LD.v_fdiv, LD.v_mod, LD.v_int, LD.v_lt, LD.v_le, LD.v_gt, LD.v_ge, LD.v_eq, LD.v_ne, LD.v_len, LD.v_tix, LD.v_lix, LD.v_rix, LD.rixK_l, LD.rixK_d, LD.v_isN, LD.v_isnN, LD.v_isNone, LD.v_isNoneN, LD.startD, List.length_cons, List.length_nil, List.map_cons, List.map_nil, List.cons_append, List.nil_append, List.append_nil, List.getElem?_cons_zero, List.getElem?_cons_succ, List.set_cons_zero, List.set_cons_succ, List.replicate_succ, List.replicate_zero, Nat.reduceAdd, Nat.reduceSub, Nat.reduceBEq, Int.reduceLT, Int.reduceNeg, Int.reduceLE, Nat.reduceLeDiff, Nat.reduceLT, List.lookup_cons, List.lookup_nil, beq_self_eq_true, Option.map_some, Option.map_none, nd2, beq_iff_eq.mpr ho]
      · rw [decide_eq_false ho, Bool.false_and]
        simp only [LD.v_lenO, LD.v_eqQi, LD.v_neQi, LD.q_Ins, LD.q_App, LD.okS_t, LD.v_isLst, LD.lstK_s, LD.v_app, LD.q_Rev, LD.lsK_s, LD.q_Get, LD.getKK_s, LD.v_lsL, LD.v_keyI, LD.v_keyS, Option.isSome_some, Option.isSome_none, Option.getD_some, Option.getD_none, LD.v_eqs, LD.v_nes, LD.v_isiBb, LD.q_C, LD.q_Var, LD.q_Bin, LD.q_Un, LD.q_tOf, LD.q_tCmp, LD.q_tAnd, LD.q_tOr, LD.q_tNot, LD.q_And, LD.q_Or, LD.q_Not, LD.q_If, LD.q_Nil, LD.q_Cons, LD.q_Tup, LD.q_Lst, LD.q_LstM, LD.q_Call, LD.q_Meth, LD.q_Attr, LD.q_Blt, LD.q_Comp, LD.q_iOf, LD.srcK_s, LD.v_truB, LD.v_truL, LD.v_truN, LD.v_srcL, LD.v_neg, LD.q_iRange, LD.q_Next, LD.q_Seq, LD.q_Expr, LD.q_Ret, LD.q_RetN, LD.q_SIf, LD.q_Bk, LD.q_Ct, LD.q_Asg, LD.q_Nm, LD.q_Sub, LD.q_Del, LD.q_Fld, LD.q_Dic, LD.q_For, LD.wipeD, Bool.not_true, Bool.not_false, LD.ifT, LD.le0, LD.le1, LD.le2, LD.le3, LD.le4, LD.le5, LD.le6, LD.cmpK_l, LD.nn_n, LD.nn_i, LD.nn_t, LD.nn_l, LD.nn_r, LD.nn_b, LD.nn_s, LD.nonK_n, LD.okK_o, LD.bind_k, LD.bind_b, LD.bind_e, LD.bindS_k, LD.bindS_e, LD.ofO_s, LD.getV_s, LD.truK_s, LD.blK_b, LD.refK_r, LD.insK_i, LD.lookK_s, LD.lookK_n, LD.refS_r, LD.insS_i, LD.lookS_s, LD.seq_n, LD.seq_r, LD.seq_b, LD.seq_c, LD.seq_e, LD.storeK_s, LD.memK_s, LD.endF_n, LD.endF_r, LD.endF_e, LD.pick_t, LD.pick_f, LD.finL_f, LD.finL_t, LD.v_add, LD.v_sub, LD.v_mulR, LD.v_fdiv, LD.v_mod, LD.v_int, LD.v_lt, LD.v_le, LD.v_gt, LD.v_ge, LD.v_eq, LD.v_ne, LD.v_len, LD.v_tix, LD.v_lix, LD.v_rix, LD.rixK_l, LD.rixK_d, LD.v_isN, LD.v_isnN, LD.v_isNone, LD.v_isNoneN, LD.startD, List.length_cons, List.length_nil, List.map_cons, List.map_nil, List.cons_append, List.nil_append, List.append_nil, List.getElem?_cons_zero, List.getElem?_cons_succ, List.set_cons_zero, List.set_cons_succ, List.replicate_succ, List.replicate_zero, Nat.reduceAdd, Nat.reduceSub, Nat.reduceBEq, Int.reduceLT, Int.reduceNeg, Int.reduceLE, Nat.reduceLeDiff, Nat.reduceLT, List.lookup_cons, List.lookup_nil, beq_self_eq_true, Option.map_some, Option.map_none, nd2, beq_eq_false_iff_ne.mpr ho]
    · simp only [LD.v_lenO, LD.v_eqQi, LD.v_neQi, LD.q_Ins, LD.q_App, LD.okS_t, LD.v_isLst, LD.lstK_s, LD.v_app, LD.q_Rev, LD.lsK_s, LD.q_Get, LD.getKK_s, LD.v_lsL, LD.v_keyI, LD.v_keyS, Option.isSome_some, Option.isSome_none, Option.getD_some, Option.getD_none, LD.v_eqs, LD.v_nes, LD.v_isiBb, LD.q_C, LD.q_Var, LD.q_Bin, LD.q_Un, LD.q_tOf, LD.q_tCmp, LD.q_tAnd, LD.q_tOr, LD.q_tNot, LD.q_And, LD.q_Or, LD.q_Not, LD.q_If, LD.q_Nil, LD.q_Cons, LD.q_Tup, LD.q_Lst, LD.q_LstM, LD.q_Call, LD.q_Meth, LD.q_Attr, LD.q_Blt, LD.q_Comp, LD.q_iOf, LD.srcK_s, LD.v_truB, LD.v_truL, LD.v_truN, LD.v_srcL, LD.v_neg, LD.q_iRange, LD.q_Next, LD.q_Seq, LD.q_Expr, LD.q_Ret, LD.q_RetN, LD.q_SIf, LD.q_Bk, LD.q_Ct, LD.q_Asg, LD.q_Nm, LD.q_Sub, LD.q_Del, LD.q_Fld, LD.q_Dic, LD.q_For, LD.wipeD, Bool.not_true, Bool.not_false, LD.ifT, LD.le0, LD.le1, LD.le2, LD.le3, LD.le4, LD.le5, LD.le6, LD.cmpK_l, LD.nn_n, LD.nn_i, LD.nn_t, LD.nn_l, LD.nn_r, LD.nn_b, LD.nn_s, LD.nonK_n, LD.okK_o, LD.bind_k, LD.bind_b, LD.bind_e, LD.bindS_k, LD.bindS_e, LD.ofO_s, LD.getV_s, LD.truK_s, LD.blK_b, LD.refK_r, LD.insK_i, LD.lookK_s, LD.lookK_n, LD.refS_r, LD.insS_i, LD.lookS_s, LD.seq_n, LD.seq_r, LD.seq_b, LD.seq_c, LD.seq_e, LD.storeK_s, LD.memK_s, LD.endF_n, LD.endF_r, LD.endF_e, LD.pick_t, LD.pick_f, LD.finL_f, LD.finL_t, LD.v_add, LD.v_sub, LD.v_mulR, LD.v_fdiv, LD.v_mod, LD.v_int, LD.v_lt, LD.v_le, LD.v_gt, LD.v_ge, LD.v_eq, LD.v_ne, LD.v_len, LD.v_tix, LD.v_lix, LD.v_rix, LD.rixK_l, LD.rixK_d, LD.v_isN, LD.v_isnN, LD.v_isNone, LD.v_isNoneN, LD.startD, List.length_cons, List.length_nil, List.map_cons, List.map_nil, List.cons_append, List.nil_append, List.append_nil, List.getElem?_cons_zero, List.getElem?_cons_succ, List.set_cons_zero, List.set_cons_succ, List.replicate_succ, List.replicate_zero, Nat.reduceAdd, Nat.reduceSub, Nat.reduceBEq, Int.reduceLT, Int.reduceNeg, Int.reduceLE, Nat.reduceLeDiff, Nat.reduceLT, List.lookup_cons, List.lookup_nil, beq_self_eq_true, Option.map_some, Option.map_none, option_eq]
  have hm : ((elL kids d).filter fun q : Nd × Bool => decide (tagOf q.1 = "option") && !q.2).map (fun q : Nd × Bool => D.str (optV q.1)) = (freeOf (elL kids d)).map .str := by
    unfold freeOf
    rw [List.map_map] <;> rfl
  rw [hm] at hc
  refine ⟨M', ?_, e3, e4⟩
  unfold φ_free_options
  refine run_def rfl ?_
  unfold ψ_free_options
  simp only [LD.v_lenO, LD.v_eqQi, LD.v_neQi, LD.q_Ins, LD.q_App, LD.okS_t, LD.v_isLst, LD.lstK_s, LD.v_app, LD.q_Rev, LD.lsK_s, LD.q_Get, LD.getKK_s, LD.v_lsL, LD.v_keyI, LD.v_keyS, Option.isSome_some, Option.isSome_none, Option.getD_some, Option.getD_none, LD.v_eqs, LD.v_nes, LD.v_isiBb, LD.q_C, LD.q_Var, LD.q_Bin, LD.q_Un, LD.q_tOf, LD.q_tCmp, LD.q_tAnd, LD.q_tOr, LD.q_tNot, LD.q_And, LD.q_Or, LD.q_Not, LD.q_If, LD.q_Nil, LD.q_Cons, LD.q_Tup, LD.q_Lst, LD.q_LstM, LD.q_Call, LD.q_Meth, LD.q_Attr, LD.q_Blt, LD.q_Comp, LD.q_iOf, LD.srcK_s, LD.v_truB, LD.v_truL, LD.v_truN, LD.v_srcL, LD.v_neg, LD.q_iRange, LD.q_Next, LD.q_Seq, LD.q_Expr, LD.q_Ret, LD.q_RetN, LD.q_SIf, LD.q_Bk, LD.q_Ct, LD.q_Asg, LD.q_Nm, LD.q_Sub, LD.q_Del, LD.q_Fld, LD.q_Dic, LD.q_For, LD.wipeD, Bool.not_true, Bool.not_false, LD.ifT, LD.le0, LD.le1, LD.le2, LD.le3, LD.le4, LD.le5, LD.le6, LD.cmpK_l, LD.nn_n, LD.nn_i, LD.nn_t, LD.nn_l, LD.nn_r, LD.nn_b, LD.nn_s, LD.nonK_n, LD.okK_o, LD.bind_k, LD.bind_b, LD.bind_e, LD.bindS_k, LD.bindS_e, LD.ofO_s, LD.getV_s, LD.truK_s, LD.blK_b, LD.refK_r, LD.insK_i, LD.lookK_s, LD.lookK_n, LD.refS_r, LD.insS_i, LD.lookS_s, LD.seq_n, LD.seq_r, LD.seq_b, LD.seq_c, LD.seq_e, LD.storeK_s, LD.memK_s, LD.endF_n, LD.endF_r, LD.endF_e, LD.pick_t, LD.pick_f, LD.finL_f, LD.finL_t, LD.v_add, LD.v_sub, LD.v_mulR, LD.v_fdiv, LD.v_mod, LD.v_int, LD.v_lt, LD.v_le, LD.v_gt, LD.v_ge, LD.v_eq, LD.v_ne, LD.v_len, LD.v_tix, LD.v_lix, LD.v_rix, LD.rixK_l, LD.rixK_d, LD.v_isN, LD.v_isnN, LD.v_isNone, LD.v_isNoneN, LD.startD, List.length_cons, List.length_nil, List.map_cons, List.map_nil, List.cons_append, List.nil_append, List.append_nil, List.getElem?_cons_zero, List.getElem?_cons_succ, List.set_cons_zero, List.set_cons_succ, List.replicate_succ, List.replicate_zero, Nat.reduceAdd, Nat.reduceSub, Nat.reduceBEq, Int.reduceLT, Int.reduceNeg, Int.reduceLE, Nat.reduceLeDiff, Nat.reduceLT, List.lookup_cons, List.lookup_nil, beq_self_eq_true, Option.map_some, Option.map_none, nd4, e1, v_srcR e2, cmpK_l hL, hc]
def bndE (ats : List (Str × Str)) (k : Str) : Option Vl := if k = "box" then (attrOf ats "checked").map fun t : Str => Vl.b (t == "true") else (attrOf ats "value").map Vl.s
def fstE (ats : List (Str × Str)) (k : Str) : Vl := if k = "box" then .b (decide (attrOf ats "default" = some ("true" : Str))) else .s ((attrOf ats "default").getD "")
theorem bound_eq {n : Int} {tag k : Str} {ats : List (Str × Str)} {kids : List Nd} {M : Mem} : φ_bound_value [ndD (.el n tag ats kids), .str k] M = .ok (ovD (bndE ats k)) M := by
  unfold φ_bound_value
  refine run_def rfl ?_
  unfold ψ_bound_value bndE
  by_cases hk : k = "box"
  · rw [if_pos hk]
    generalize ha : attrOf ats "checked" = o
    cases o with
    | none => simp only [LD.v_lenO, LD.v_eqQi, LD.v_neQi, LD.q_Ins, LD.q_App, LD.okS_t, LD.v_isLst, LD.lstK_s, LD.v_app, LD.q_Rev, LD.lsK_s, LD.q_Get, LD.getKK_s, LD.v_lsL, LD.v_keyI, LD.v_keyS, Option.isSome_some, Option.isSome_none, Option.getD_some, Option.getD_none, LD.v_eqs, LD.v_nes, LD.v_isiBb, LD.q_C, LD.q_Var, LD.q_Bin, LD.q_Un, LD.q_tOf, LD.q_tCmp, LD.q_tAnd, LD.q_tOr, LD.q_tNot, LD.q_And, LD.q_Or, LD.q_Not, LD.q_If, LD.q_Nil, LD.q_Cons, LD.q_Tup, LD.q_Lst, LD.q_LstM, LD.q_Call, LD.q_Meth, LD.q_Attr, LD.q_Blt, LD.q_Comp, LD.q_iOf, LD.srcK_s, LD.v_truB, LD.v_truL, LD.v_truN, LD.v_srcL, LD.v_neg, LD.q_iRange, LD.q_Next, LD.q_Seq, LD.q_Expr, LD.q_Ret, LD.q_RetN, LD.q_SIf, LD.q_Bk, LD.q_Ct, LD.q_Asg, LD.q_Nm, LD.q_Sub, LD.q_Del, LD.q_Fld, LD.q_Dic, LD.q_For, LD.wipeD, Bool.not_true, Bool.not_false, LD.ifT, LD.le0, LD.le1, LD.le2, LD.le3, LD.le4, LD.le5, LD.le6, LD.cmpK_l, LD.nn_n, LD.nn_i, LD.nn_t, LD.nn_l, LD.nn_r, LD.nn_b, LD.nn_s, LD.nonK_n, LD.okK_o, LD.bind_k, LD.bind_b, LD.bind_e, LD.bindS_k, LD.bindS_e, LD.ofO_s, LD.getV_s, LD.truK_s, LD.blK_b, LD.refK_r, LD.insK_i, LD.lookK_s, LD.lookK_n, LD.refS_r, LD.insS_i, LD.lookS_s, LD.seq_n, LD.seq_r, LD.seq_b, LD.seq_c, LD.seq_e, LD.storeK_s, LD.memK_s, LD.endF_n, LD.endF_r, LD.endF_e, LD.pick_t, LD.pick_f, LD.finL_f, LD.finL_t, LD.v_add, LD.v_sub, LD.v_mulR, LD.v_fdiv, LD.v_mod, LD.v_int, LD.v_lt, LD.v_le, LD.v_gt, LD.v_ge, LD.v_eq, LD.v_ne, LD.v_len, LD.v_tix, LD.v_lix, LD.v_rix, LD.rixK_l, LD.rixK_d, LD.v_isN, LD.v_isnN, LD.v_isNone, LD.v_isNoneN, LD.startD, List.length_cons, List.length_nil, List.map_cons, List.map_nil, List.cons_append, List.nil_append, List.append_nil, List.getElem?_cons_zero, List.getElem?_cons_succ, List.set_cons_zero, List.set_cons_succ, List.replicate_succ, List.replicate_zero, Nat.reduceAdd, Nat.reduceSub, Nat.reduceBEq, Int.reduceLT, Int.reduceNeg, Int.reduceLE, Nat.reduceLeDiff, Nat.reduceLT, List.lookup_cons, List.lookup_nil, beq_self_eq_true, Option.map_some, Option.map_none, beq_iff_eq.mpr hk, text_eq, ha, nn_o]; rfl
    | some x =>
      have hx : oD (some x) = .str x := rfl
      simp only [LD.v_lenO, LD.v_eqQi, LD.v_neQi, LD.q_Ins, LD.q_App, LD.okS_t, LD.v_isLst, LD.lstK_s, LD.v_app, LD.q_Rev, LD.lsK_s, LD.q_Get, LD.getKK_s, LD.v_lsL, LD.v_keyI, LD.v_keyS, Option.isSome_some, Option.isSome_none, Option.getD_some, Option.getD_none, LD.v_eqs, LD.v_nes, LD.v_isiBb, LD.q_C, LD.q_Var, LD.q_Bin, LD.q_Un, LD.q_tOf, LD.q_tCmp, LD.q_tAnd, LD.q_tOr, LD.q_tNot, LD.q_And, LD.q_Or, LD.q_Not, LD.q_If, LD.q_Nil, LD.q_Cons, LD.q_Tup, LD.q_Lst, LD.q_LstM, LD.q_Call, LD.q_Meth, LD.q_Attr, LD.q_Blt, LD.q_Comp, LD.q_iOf, LD.srcK_s, LD.v_truB, LD.v_truL, LD.v_truN, LD.v_srcL, LD.v_neg, LD.q_iRange, LD.q_Next, LD.q_Seq, LD.q_Expr, LD.q_Ret, LD.q_RetN, LD.q_SIf, LD.q_Bk, LD.q_Ct, LD.q_Asg, LD.q_Nm, LD.q_Sub, LD.q_Del, LD.q_Fld, LD.q_Dic, LD.q_For, LD.wipeD, Bool.not_true, Bool.not_false, LD.ifT, LD.le0, LD.le1, LD.le2, LD.le3, LD.le4, LD.le5, LD.le6, LD.cmpK_l, LD.nn_n, LD.nn_i, LD.nn_t, LD.nn_l, LD.nn_r, LD.nn_b, LD.nn_s, LD.nonK_n, LD.okK_o, LD.bind_k, LD.bind_b, LD.bind_e, LD.bindS_k, LD.bindS_e, LD.ofO_s, LD.getV_s, LD.truK_s, LD.blK_b, LD.refK_r, LD.insK_i, LD.lookK_s, LD.lookK_n, LD.refS_r, LD.insS_i, LD.lookS_s, LD.seq_n, LD.seq_r, LD.seq_b, LD.seq_c, LD.seq_e, LD.storeK_s, LD.memK_s, LD.endF_n, LD.endF_r, LD.endF_e, LD.pick_t, LD.pick_f, LD.finL_f, LD.finL_t, LD.v_add, LD.v_sub, LD.v_mulR, LD.v_fdiv, LD.v_mod, LD.v_int, LD.v_lt, LD.v_le, LD.v_gt, LD.v_ge, LD.v_eq, LD.v_ne, LD.v_len, LD.v_tix, LD.v_lix, LD.v_rix, LD.rixK_l, LD.rixK_d, LD.v_isN, LD.v_isnN, LD.v_isNone, LD.v_isNoneN, LD.startD, List.length_cons, List.length_nil, List.map_cons, List.map_nil, List.cons_append, List.nil_append, List.append_nil, List.getElem?_cons_zero, List.getElem?_cons_succ, List.set_cons_zero, List.set_cons_succ, List.replicate_succ, List.replicate_zero, Nat.reduceAdd, Nat.reduceSub, Nat.reduceBEq, Int.reduceLT, Int.reduceNeg, Int.reduceLE, Nat.reduceLeDiff, Nat.reduceLT, List.lookup_cons, List.lookup_nil, beq_self_eq_true, Option.map_some, Option.map_none, beq_iff_eq.mpr hk, text_eq, ha, nn_o, hx]
      rfl
  · rw [if_neg hk]
    generalize ha : attrOf ats "value" = o
    cases o with
    | none => simp only [LD.v_lenO, LD.v_eqQi, LD.v_neQi, LD.q_Ins, LD.q_App, LD.okS_t, LD.v_isLst, LD.lstK_s, LD.v_app, LD.q_Rev, LD.lsK_s, LD.q_Get, LD.getKK_s, LD.v_lsL, LD.v_keyI, LD.v_keyS, Option.isSome_some, Option.isSome_none, Option.getD_some, Option.getD_none, LD.v_eqs, LD.v_nes, LD.v_isiBb, LD.q_C, LD.q_Var, LD.q_Bin, LD.q_Un, LD.q_tOf, LD.q_tCmp, LD.q_tAnd, LD.q_tOr, LD.q_tNot, LD.q_And, LD.q_Or, LD.q_Not, LD.q_If, LD.q_Nil, LD.q_Cons, LD.q_Tup, LD.q_Lst, LD.q_LstM, LD.q_Call, LD.q_Meth, LD.q_Attr, LD.q_Blt, LD.q_Comp, LD.q_iOf, LD.srcK_s, LD.v_truB, LD.v_truL, LD.v_truN, LD.v_srcL, LD.v_neg, LD.q_iRange, LD.q_Next, LD.q_Seq, LD.q_Expr, LD.q_Ret, LD.q_RetN, LD.q_SIf, LD.q_Bk, LD.q_Ct, LD.q_Asg, LD.q_Nm, LD.q_Sub, LD.q_Del, LD.q_Fld, LD.q_Dic, LD.q_For, LD.wipeD, Bool.not_true, Bool.not_false, LD.ifT, LD.le0, LD.le1, LD.le2, LD.le3, LD.le4, LD.le5, LD.le6, LD.cmpK_l, LD.nn_n, LD.nn_i, LD.nn_t, LD.nn_l, LD.nn_r, LD.nn_b, LD.nn_s, LD.nonK_n, LD.okK_o, LD.bind_k, LD.bind_b, LD.bind_e, LD.bindS_k, LD.bindS_e, LD.ofO_s, LD.getV_s, LD.truK_s, LD.blK_b, LD.refK_r, LD.insK_i, LD.lookK_s, LD.lookK_n, LD.refS_r, LD.insS_i, LD.lookS_s, LD.seq_n, LD.seq_r, LD.seq_b, LD.seq_c, LD.seq_e, LD.storeK_s, LD.memK_s, LD.endF_n, LD.endF_r, LD.endF_e, LD.pick_t, LD.pick_f, LD.finL_f, LD.finL_t, LD.v_add, LD.v_sub, LD.v_mulR, LD.v_fdiv, LD.v_mod, LD.v_int, LD.v_lt, LD.v_le, LD.v_gt, LD.v_ge, LD.v_eq, LD.v_ne, LD.v_len, LD.v_tix, LD.v_lix, LD.v_rix, LD.rixK_l, LD.rixK_d, LD.v_isN, LD.v_isnN, LD.v_isNone, LD.v_isNoneN, LD.startD, List.length_cons, List.length_nil, List.map_cons, List.map_nil, List.cons_append, List.nil_append, List.append_nil, List.getElem?_cons_zero, List.getElem?_cons_succ, List.set_cons_zero, List.set_cons_succ, List.replicate_succ, List.replicate_zero, Nat.reduceAdd, Nat.reduceSub, Nat.reduceBEq, Int.reduceLT, Int.reduceNeg, Int.reduceLE, Nat.reduceLeDiff, Nat.reduceLT, List.lookup_cons, List.lookup_nil, beq_self_eq_true, Option.map_some, Option.map_none, beq_eq_false_iff_ne.mpr hk, text_eq, ha]; rfl
    | some x => simp only [LD.v_lenO, LD.v_eqQi, LD.v_neQi, LD.q_Ins, LD.q_App, LD.okS_t, LD.v_isLst, LD.lstK_s, LD.v_app, LD.q_Rev, LD.lsK_s, LD.q_Get, LD.getKK_s, LD.v_lsL, LD.v_keyI, LD.v_keyS, Option.isSome_some, Option.isSome_none, Option.getD_some, Option.getD_none, LD.v_eqs, LD.v_nes, LD.v_isiBb, LD.q_C, LD.q_Var, LD.q_Bin, LD.q_Un, LD.q_tOf, LD.q_tCmp, LD.q_tAnd, LD.q_tOr, LD.q_tNot, LD.q_And, LD.q_Or, LD.q_Not, LD.q_If, LD.q_Nil, LD.q_Cons, LD.q_Tup, LD.q_Lst, LD.q_LstM, LD.q_Call, LD.q_Meth, LD.q_Attr, LD.q_Blt, LD.q_Comp, LD.q_iOf, LD.srcK_s, LD.v_truB, LD.v_truL, LD.v_truN, LD.v_srcL, LD.v_neg, LD.q_iRange, LD.q_Next, LD.q_Seq, LD.q_Expr, LD.q_Ret, LD.q_RetN, LD.q_SIf, LD.q_Bk, LD.q_Ct, LD.q_Asg, LD.q_Nm, LD.q_Sub, LD.q_Del, LD.q_Fld, LD.q_Dic, LD.q_For, LD.wipeD, Bool.not_true, Bool.not_false, LD.ifT, LD.le0, LD.le1, LD.le2, LD.le3, LD.le4, LD.le5, LD.le6, LD.cmpK_l, LD.nn_n, LD.nn_i, LD.nn_t, LD.nn_l, LD.nn_r, LD.nn_b, LD.nn_s, LD.nonK_n, LD.okK_o, LD.bind_k, LD.bind_b, LD.bind_e, LD.bindS_k, LD.bindS_e, LD.ofO_s, LD.getV_s, LD.truK_s, LD.blK_b, LD.refK_r, LD.insK_i, LD.lookK_s, LD.lookK_n, LD.refS_r, LD.insS_i, LD.lookS_s, LD.seq_n, LD.seq_r, LD.seq_b, LD.seq_c, LD.seq_e, LD.storeK_s, LD.memK_s, LD.endF_n, LD.endF_r, LD.endF_e, LD.pick_t, LD.pick_f, LD.finL_f, LD.finL_t, LD.v_add, LD.v_sub, LD.v_mulR, LD.v_fdiv, LD.v_mod, LD.v_int, LD.v_lt, LD.v_le, LD.v_gt, LD.v_ge, LD.v_eq, LD.v_ne, LD.v_len, LD.v_tix, LD.v_lix, LD.v_rix, LD.rixK_l, LD.rixK_d, LD.v_isN, LD.v_isnN, LD.v_isNone, LD.v_isNoneN, LD.startD, List.length_cons, List.length_nil, List.map_cons, List.map_nil, List.cons_append, List.nil_append, List.append_nil, List.getElem?_cons_zero, List.getElem?_cons_succ, List.set_cons_zero, List.set_cons_succ, List.replicate_succ, List.replicate_zero, Nat.reduceAdd, Nat.reduceSub, Nat.reduceBEq, Int.reduceLT, Int.reduceNeg, Int.reduceLE, Nat.reduceLeDiff, Nat.reduceLT, List.lookup_cons, List.lookup_nil, beq_self_eq_true, Option.map_some, Option.map_none, beq_eq_false_iff_ne.mpr hk, text_eq, ha]; rfl
theorem first_eq {n : Int} {tag k : Str} {ats : List (Str × Str)} {kids : List Nd} {M : Mem} : φ_first_value [ndD (.el n tag ats kids), .str k] M = .ok (vlD (fstE ats k)) M := by
  unfold φ_first_value
  refine run_def rfl ?_
  unfold ψ_first_value fstE
  by_cases hk : k = "box"
  · rw [if_pos hk]
    simp only [LD.v_lenO, LD.v_eqQi, LD.v_neQi, LD.q_Ins, LD.q_App, LD.okS_t, LD.v_isLst, LD.lstK_s, LD.v_app, LD.q_Rev, LD.lsK_s, LD.q_Get, LD.getKK_s, LD.v_lsL, LD.v_keyI, LD.v_keyS, Option.isSome_some, Option.isSome_none, Option.getD_some, Option.getD_none, LD.v_eqs, LD.v_nes, LD.v_isiBb, LD.q_C, LD.q_Var, LD.q_Bin, LD.q_Un, LD.q_tOf, LD.q_tCmp, LD.q_tAnd, LD.q_tOr, LD.q_tNot, LD.q_And, LD.q_Or, LD.q_Not, LD.q_If, LD.q_Nil, LD.q_Cons, LD.q_Tup, LD.q_Lst, LD.q_LstM, LD.q_Call, LD.q_Meth, LD.q_Attr, LD.q_Blt, LD.q_Comp, LD.q_iOf, LD.srcK_s, LD.v_truB, LD.v_truL, LD.v_truN, LD.v_srcL, LD.v_neg, LD.q_iRange, LD.q_Next, LD.q_Seq, LD.q_Expr, LD.q_Ret, LD.q_RetN, LD.q_SIf, LD.q_Bk, LD.q_Ct, LD.q_Asg, LD.q_Nm, LD.q_Sub, LD.q_Del, LD.q_Fld, LD.q_Dic, LD.q_For, LD.wipeD, Bool.not_true, Bool.not_false, LD.ifT, LD.le0, LD.le1, LD.le2, LD.le3, LD.le4, LD.le5, LD.le6, LD.cmpK_l, LD.nn_n, LD.nn_i, LD.nn_t, LD.nn_l, LD.nn_r, LD.nn_b, LD.nn_s, LD.nonK_n, LD.okK_o, LD.bind_k, LD.bind_b, LD.bind_e, LD.bindS_k, LD.bindS_e, LD.ofO_s, LD.getV_s, LD.truK_s, LD.blK_b, LD.refK_r, LD.insK_i, LD.lookK_s, LD.lookK_n, LD.refS_r, LD.insS_i, LD.lookS_s, LD.seq_n, LD.seq_r, LD.seq_b, LD.seq_c, LD.seq_e, LD.storeK_s, LD.memK_s, LD.endF_n, LD.endF_r, LD.endF_e, LD.pick_t, LD.pick_f, LD.finL_f, LD.finL_t, LD.v_add, LD.v_sub, LD.v_mulR, LD.v_fdiv, LD.v_mod, LD.v_int, LD.v_lt, LD.v_le, LD.v_gt, LD.v_ge, LD.v_eq, LD.v_ne, LD.v_len, LD.v_tix, LD.v_lix, LD.v_rix, LD.rixK_l, LD.rixK_d, LD.v_isN, LD.v_isnN, LD.v_isNone, LD.v_isNoneN, LD.startD, List.length_cons, List.length_nil, List.map_cons, List.map_nil, List.cons_append, List.nil_append, List.append_nil, List.getElem?_cons_zero, List.getElem?_cons_succ, List.set_cons_zero, List.set_cons_succ, List.replicate_succ, List.replicate_zero, Nat.reduceAdd, Nat.reduceSub, Nat.reduceBEq, Int.reduceLT, Int.reduceNeg, Int.reduceLE, Nat.reduceLeDiff, Nat.reduceLT, List.lookup_cons, List.lookup_nil, beq_self_eq_true, Option.map_some, Option.map_none, beq_iff_eq.mpr hk, text_eq, o_eqS]
    rfl
  · rw [if_neg hk]
    generalize ha : attrOf ats "default" = o
    cases o with
    | none => simp only [LD.v_lenO, LD.v_eqQi, LD.v_neQi, LD.q_Ins, LD.q_App, LD.okS_t, LD.v_isLst, LD.lstK_s, LD.v_app, LD.q_Rev, LD.lsK_s, LD.q_Get, LD.getKK_s, LD.v_lsL, LD.v_keyI, LD.v_keyS, Option.isSome_some, Option.isSome_none, Option.getD_some, Option.getD_none, LD.v_eqs, LD.v_nes, LD.v_isiBb, LD.q_C, LD.q_Var, LD.q_Bin, LD.q_Un, LD.q_tOf, LD.q_tCmp, LD.q_tAnd, LD.q_tOr, LD.q_tNot, LD.q_And, LD.q_Or, LD.q_Not, LD.q_If, LD.q_Nil, LD.q_Cons, LD.q_Tup, LD.q_Lst, LD.q_LstM, LD.q_Call, LD.q_Meth, LD.q_Attr, LD.q_Blt, LD.q_Comp, LD.q_iOf, LD.srcK_s, LD.v_truB, LD.v_truL, LD.v_truN, LD.v_srcL, LD.v_neg, LD.q_iRange, LD.q_Next, LD.q_Seq, LD.q_Expr, LD.q_Ret, LD.q_RetN, LD.q_SIf, LD.q_Bk, LD.q_Ct, LD.q_Asg, LD.q_Nm, LD.q_Sub, LD.q_Del, LD.q_Fld, LD.q_Dic, LD.q_For, LD.wipeD, Bool.not_true, Bool.not_false, LD.ifT, LD.le0, LD.le1, LD.le2, LD.le3, LD.le4, LD.le5, LD.le6, LD.cmpK_l, LD.nn_n, LD.nn_i, LD.nn_t, LD.nn_l, LD.nn_r, LD.nn_b, LD.nn_s, LD.nonK_n, LD.okK_o, LD.bind_k, LD.bind_b, LD.bind_e, LD.bindS_k, LD.bindS_e, LD.ofO_s, LD.getV_s, LD.truK_s, LD.blK_b, LD.refK_r, LD.insK_i, LD.lookK_s, LD.lookK_n, LD.refS_r, LD.insS_i, LD.lookS_s, LD.seq_n, LD.seq_r, LD.seq_b, LD.seq_c, LD.seq_e, LD.storeK_s, LD.memK_s, LD.endF_n, LD.endF_r, LD.endF_e, LD.pick_t, LD.pick_f, LD.finL_f, LD.finL_t, LD.v_add, LD.v_sub, LD.v_mulR, LD.v_fdiv, LD.v_mod, LD.v_int, LD.v_lt, LD.v_le, LD.v_gt, LD.v_ge, LD.v_eq, LD.v_ne, LD.v_len, LD.v_tix, LD.v_lix, LD.v_rix, LD.rixK_l, LD.rixK_d, LD.v_isN, LD.v_isnN, LD.v_isNone, LD.v_isNoneN, LD.startD, List.length_cons, List.length_nil, List.map_cons, List.map_nil, List.cons_append, List.nil_append, List.append_nil, List.getElem?_cons_zero, List.getElem?_cons_succ, List.set_cons_zero, List.set_cons_succ, List.replicate_succ, List.replicate_zero, Nat.reduceAdd, Nat.reduceSub, Nat.reduceBEq, Int.reduceLT, Int.reduceNeg, Int.reduceLE, Nat.reduceLeDiff, Nat.reduceLT, List.lookup_cons, List.lookup_nil, beq_self_eq_true, Option.map_some, Option.map_none, beq_eq_false_iff_ne.mpr hk, text_eq, ha, nn_o]; rfl
    | some x => simp only [LD.v_lenO, LD.v_eqQi, LD.v_neQi, LD.q_Ins, LD.q_App, LD.okS_t, LD.v_isLst, LD.lstK_s, LD.v_app, LD.q_Rev, LD.lsK_s, LD.q_Get, LD.getKK_s, LD.v_lsL, LD.v_keyI, LD.v_keyS, Option.isSome_some, Option.isSome_none, Option.getD_some, Option.getD_none, LD.v_eqs, LD.v_nes, LD.v_isiBb, LD.q_C, LD.q_Var, LD.q_Bin, LD.q_Un, LD.q_tOf, LD.q_tCmp, LD.q_tAnd, LD.q_tOr, LD.q_tNot, LD.q_And, LD.q_Or, LD.q_Not, LD.q_If, LD.q_Nil, LD.q_Cons, LD.q_Tup, LD.q_Lst, LD.q_LstM, LD.q_Call, LD.q_Meth, LD.q_Attr, LD.q_Blt, LD.q_Comp, LD.q_iOf, LD.srcK_s, LD.v_truB, LD.v_truL, LD.v_truN, LD.v_srcL, LD.v_neg, LD.q_iRange, LD.q_Next, LD.q_Seq, LD.q_Expr, LD.q_Ret, LD.q_RetN, LD.q_SIf, LD.q_Bk, LD.q_Ct, LD.q_Asg, LD.q_Nm, LD.q_Sub, LD.q_Del, LD.q_Fld, LD.q_Dic, LD.q_For, LD.wipeD, Bool.not_true, Bool.not_false, LD.ifT, LD.le0, LD.le1, LD.le2, LD.le3, LD.le4, LD.le5, LD.le6, LD.cmpK_l, LD.nn_n, LD.nn_i, LD.nn_t, LD.nn_l, LD.nn_r, LD.nn_b, LD.nn_s, LD.nonK_n, LD.okK_o, LD.bind_k, LD.bind_b, LD.bind_e, LD.bindS_k, LD.bindS_e, LD.ofO_s, LD.getV_s, LD.truK_s, LD.blK_b, LD.refK_r, LD.insK_i, LD.lookK_s, LD.lookK_n, LD.refS_r, LD.insS_i, LD.lookS_s, LD.seq_n, LD.seq_r, LD.seq_b, LD.seq_c, LD.seq_e, LD.storeK_s, LD.memK_s, LD.endF_n, LD.endF_r, LD.endF_e, LD.pick_t, LD.pick_f, LD.finL_f, LD.finL_t, LD.v_add, LD.v_sub, LD.v_mulR, LD.v_fdiv, LD.v_mod, LD.v_int, LD.v_lt, LD.v_le, LD.v_gt, LD.v_ge, LD.v_eq, LD.v_ne, LD.v_len, LD.v_tix, LD.v_lix, LD.v_rix, LD.rixK_l, LD.rixK_d, LD.v_isN, LD.v_isnN, LD.v_isNone, LD.v_isNoneN, LD.startD, List.length_cons, List.length_nil, List.map_cons, List.map_nil, List.cons_append, List.nil_append, List.append_nil, List.getElem?_cons_zero, List.getElem?_cons_succ, List.set_cons_zero, List.set_cons_succ, List.replicate_succ, List.replicate_zero, Nat.reduceAdd, Nat.reduceSub, Nat.reduceBEq, Int.reduceLT, Int.reduceNeg, Int.reduceLE, Nat.reduceLeDiff, Nat.reduceLT, List.lookup_cons, List.lookup_nil, beq_self_eq_true, Option.map_some, Option.map_none, beq_eq_false_iff_ne.mpr hk, text_eq, ha, nn_o]; rfl
end K65
namespace K65
open PySem PySem.Spec PyProof.Rows L2 LD
theorem set_ne {M : Mem} {i j : Nat} {o p q : DO} (h : M[i]? = some p) (h2 : M[j]? = some q) (hn : p ≠ q) : (M.set i o)[j]? = some q := by
  rw [set_at fun e => hn (by subst e; exact Option.some.inj (h.symm.trans h2))]
  exact h2
theorem lt_of {M : Mem} {i : Nat} {o : DO} (h : M[i]? = some o) : i < M.length := (List.getElem?_eq_some_iff.mp h).1
abbrev Kn := Int → Option (Str × Vl)
def prK (p : Str × Vl) : D := .tup [.str p.1, vlD p.2]
def KOk (kvs : List (Key × D)) (f : Kn) : Prop := ∀ n, getK kvs (.inl n) = (f n).map prK
def updK (f : Kn) (n : Int) (p : Str × Vl) : Kn := fun m => if n = m then some p else f m
theorem KOk.put {kvs : List (Key × D)} {f : Kn} (h : KOk kvs f) (n : Int) (p : Str × Vl) : KOk (setD.putK' kvs (.inl n) (prK p)) (updK f n p) := fun m => by
  rw [getK_put (α := Unit)]
  unfold updK
  by_cases hm : n = m
  · rw [if_pos (by rw [hm]), if_pos hm] <;> rfl
  · rw [if_neg (fun e => hm (by injection e)), if_neg hm]
    exact h m
theorem KOk.nil : KOk [] (fun _ => none) := fun _ => rfl
theorem KOk.eqv {kvs : List (Key × D)} {f g : Kn} (h : KOk kvs f) (e : ∀ n, f n = g n) : KOk kvs g := fun n => by rw [← e n]; exact h n
def atsOf : Nd → List (Str × Str)
  | .txt _ _ => []
  | .el _ _ ats _ => ats
def freeQ (q : Nd × Bool) : List Str := freeOf (elL (kidsOf q.1) q.2)
def rawV (before : Kn) (q : Nd × Bool) (k : Str) : Vl := match bndE (atsOf q.1) k with
  | some v => v
  | none => match before (num q.1) with
    | some p => if p.1 = k then p.2 else fstE (atsOf q.1) k
    | none => fstE (atsOf q.1) k
def pickV (v : Vl) (xs : List Str) : Vl := if vlIn v xs = true then v else .s (xs.head?.getD "")
def setV (before : Kn) (q : Nd × Bool) (k : Str) : Vl := if k = "select" ∧ bndE (atsOf q.1) k = none then pickV (rawV before q k) (freeQ q) else rawV before q k
def stepK (before f : Kn) (q : Nd × Bool) : Kn := match kd q.1 with
  | none => f
  | some k => updK f (num q.1) (k, setV before q k)
theorem nn_v (v : Vl) : isNon (vlD v) = false := by cases v <;> rfl
theorem prK1 (p : Str × Vl) (M : Mem) : ixD (prK p) (.int 1) M = some (vlD p.2, M) := rfl
theorem prK0 (p : Str × Vl) (M : Mem) : ixD (prK p) (.int 0) M = some (.str p.1, M) := rfl
theorem dic_at {kvs : List (Key × D)} {f : Kn} {n : Int} {p : Str × Vl} {M : Mem} (h : KOk kvs f) (hf : f n = some p) : rixK (some (.dic kvs)) (.int n) M = some (prK p, M) := by
  rw [rixK_d, h n, hf] <;> rfl
theorem in_kn {M : Mem} {i : Nat} {kvs : List (Key × D)} {f : Kn} {n : Int} {b : Bool} {tb : List (Nat × FnD)} (h : M[i]? = some (.dic kvs)) (ok : KOk kvs f) : inO tb b (.int n) (.ref i) M = some (.bl ((f n).isSome != b), M) := by
  rw [in_dic h, ok n, Option.isSome_map]
theorem bnf (b : Bool) : (b != false) = b := by cases b <;> rfl
theorem bnt (b : Bool) : (b != true) = !b := by cases b <;> rfl
theorem choose_first_eq {M : Mem} {C κ : Nat} {kvs : List (Key × D)} {f : Kn} {n : Int} {tag : Str} {ats : List (Str × Str)} {kids : List Nd} {sh : Bool} {p : Str × Vl}
    (hC : M[C]? = some (.ins 0 [some (.ref κ)])) (hK : M[κ]? = some (.dic kvs)) (ok : KOk kvs f) (hf : f n = some p) (hp : p.1 = "select") (hl : kvs.length < 2000) (h : htL kids < 30) (hn : (numsL kids).length < 1000) :
    ∃ M' kvs', φ_Controls_choose_first [.ref C, ndD (.el n tag ats kids), .bl sh] M = .ok .non M' ∧ M'[κ]? = some (.dic kvs') ∧ KOk kvs' (updK f n ("select", pickV p.2 (freeOf (elL kids sh)))) ∧ kvs'.length = kvs.length ∧ ∀ (i : Nat) o, i ≠ κ → M[i]? = some o → M'[i]? = some o := by
  obtain ⟨M1, e1, e2, e3⟩ := free_eq (n := n) (tag := tag) (ats := ats) (d := sh) (M := M) h hn
  have hC1 : M1[C]? = some (.ins 0 [some (.ref κ)]) := by rw [e3 _ (lt_of hC)]; exact hC
  have hK1 : M1[κ]? = some (.dic kvs) := by rw [e3 _ (lt_of hK)]; exact hK
  have fr : ∀ (i : Nat) o, M[i]? = some o → M1[i]? = some o := fun i o hi => by rw [e3 _ (lt_of hi)]; exact hi
  have hL : kvs.length < LINE := by have := big; omega
  have hat : ∀ M : Mem, rixK (some (.dic kvs)) (.int n) M = some (prK p, M) := fun M => dic_at ok hf
  generalize hx : freeOf (elL kids sh) = xs at e1
  have num1 : num (.el n tag ats kids) = n := rfl
  by_cases hv : vlIn p.2 xs = true
  · refine ⟨M1, kvs, ?_, hK1, ok.eqv fun m => ?_, rfl, fun i o _ hi => fr i o hi⟩
    · unfold φ_Controls_choose_first
      refine run_def rfl ?_
      unfold ψ_Controls_choose_first
      simp only [LD.v_lenO, LD.v_eqQi, LD.v_neQi, LD.q_Ins, LD.q_App, LD.okS_t, LD.v_isLst, LD.lstK_s, LD.v_app, LD.q_Rev, LD.lsK_s, LD.q_Get, LD.getKK_s, LD.v_lsL, LD.v_keyI, LD.v_keyS, Option.isSome_some, Option.isSome_none, Option.getD_some, Option.getD_none, LD.v_eqs, LD.v_nes, LD.v_isiBb, LD.q_C, LD.q_Var, LD.q_Bin, LD.q_Un, LD.q_tOf, LD.q_tCmp, LD.q_tAnd, LD.q_tOr, LD.q_tNot, LD.q_And, LD.q_Or, LD.q_Not, LD.q_If, LD.q_Nil, LD.q_Cons, LD.q_Tup, LD.q_Lst, LD.q_LstM, LD.q_Call, LD.q_Meth, LD.q_Attr, LD.q_Blt, LD.q_Comp, LD.q_iOf, LD.srcK_s, LD.v_truB, LD.v_truL, LD.v_truN, LD.v_srcL, LD.v_neg, LD.q_iRange, LD.q_Next, LD.q_Seq, LD.q_Expr, LD.q_Ret, LD.q_RetN, LD.q_SIf, LD.q_Bk, LD.q_Ct, LD.q_Asg, LD.q_Nm, LD.q_Sub, LD.q_Del, LD.q_Fld, LD.q_Dic, LD.q_For, LD.wipeD, Bool.not_true, Bool.not_false, LD.ifT, LD.le0, LD.le1, LD.le2, LD.le3, LD.le4, LD.le5, LD.le6, LD.cmpK_l, LD.nn_n, LD.nn_i, LD.nn_t, LD.nn_l, LD.nn_r, LD.nn_b, LD.nn_s, LD.nonK_n, LD.okK_o, LD.bind_k, LD.bind_b, LD.bind_e, LD.bindS_k, LD.bindS_e, LD.ofO_s, LD.getV_s, LD.truK_s, LD.blK_b, LD.refK_r, LD.insK_i, LD.lookK_s, LD.lookK_n, LD.refS_r, LD.insS_i, LD.lookS_s, LD.seq_n, LD.seq_r, LD.seq_b, LD.seq_c, LD.seq_e, LD.storeK_s, LD.memK_s, LD.endF_n, LD.endF_r, LD.endF_e, LD.pick_t, LD.pick_f, LD.finL_f, LD.finL_t, LD.v_add, LD.v_sub, LD.v_mulR, LD.v_fdiv, LD.v_mod, LD.v_int, LD.v_lt, LD.v_le, LD.v_gt, LD.v_ge, LD.v_eq, LD.v_ne, LD.v_len, LD.v_tix, LD.v_lix, LD.v_rix, LD.rixK_l, LD.rixK_d, LD.v_isN, LD.v_isnN, LD.v_isNone, LD.v_isNoneN, LD.startD, List.length_cons, List.length_nil, List.map_cons, List.map_nil, List.cons_append, List.nil_append, List.append_nil, List.getElem?_cons_zero, List.getElem?_cons_succ, List.set_cons_zero, List.set_cons_succ, List.replicate_succ, List.replicate_zero, Nat.reduceAdd, Nat.reduceSub, Nat.reduceBEq, Int.reduceLT, Int.reduceNeg, Int.reduceLE, Nat.reduceLeDiff, Nat.reduceLT, List.lookup_cons, List.lookup_nil, beq_self_eq_true, Option.map_some, Option.map_none, e1, hC1, nd1, num1, hK1, hat, prK1, in_strs, hv, bn1, bn2, bn3, bn4]
    · unfold updK pickV
      by_cases hm : n = m
      · rw [if_pos hm, ← hm, hf, if_pos hv, ← hp]
      · rw [if_neg hm]
  · have hv' : vlIn p.2 xs = false := Bool.eq_false_iff.mpr hv
    have hsome : (getK kvs (.inl n)).isSome = true := by rw [ok n, hf] <;> rfl
    refine ⟨M1.set κ (.dic (setD.putK' kvs (.inl n) (prK ("select", .s (xs.head?.getD ""))))), _, ?_, set_is hK1, ?_, put_same hsome, fun i o hi hm => by rw [set_at (fun z => hi z.symm)]; exact fr i o hm⟩
    · have hs := fun d => sub_dic (n := n) (d := d) hK1 hL
      unfold φ_Controls_choose_first
      refine run_def rfl ?_
      unfold ψ_Controls_choose_first
      cases xs with
      | nil =>
        have z0 : decide ((0 : Int) < ((0 : Nat) : Int)) = false := rfl
        have ist := in_strs (v := p.2) (xs := []) (b := true) (tb := (0, φ_Controls___contains__) :: []) (M := M1)
        rw [List.map_nil, hv', bn2] at ist
        rw [List.map_nil] at e1
        simp only [LD.v_lenO, LD.v_eqQi, LD.v_neQi, LD.q_Ins, LD.q_App, LD.okS_t, LD.v_isLst, LD.lstK_s, LD.v_app, LD.q_Rev, LD.lsK_s, LD.q_Get, LD.getKK_s, LD.v_lsL, LD.v_keyI, LD.v_keyS, Option.isSome_some, Option.isSome_none, Option.getD_some, Option.getD_none, LD.v_eqs, LD.v_nes, LD.v_isiBb, LD.q_C, LD.q_Var, LD.q_Bin, LD.q_Un, LD.q_tOf, LD.q_tCmp, LD.q_tAnd, LD.q_tOr, LD.q_tNot, LD.q_And, LD.q_Or, LD.q_Not, LD.q_If, LD.q_Nil, LD.q_Cons, LD.q_Tup, LD.q_Lst, LD.q_LstM, LD.q_Call, LD.q_Meth, LD.q_Attr, LD.q_Blt, LD.q_Comp, LD.q_iOf, LD.srcK_s, LD.v_truB, LD.v_truL, LD.v_truN, LD.v_srcL, LD.v_neg, LD.q_iRange, LD.q_Next, LD.q_Seq, LD.q_Expr, LD.q_Ret, LD.q_RetN, LD.q_SIf, LD.q_Bk, LD.q_Ct, LD.q_Asg, LD.q_Nm, LD.q_Sub, LD.q_Del, LD.q_Fld, LD.q_Dic, LD.q_For, LD.wipeD, Bool.not_true, Bool.not_false, LD.ifT, LD.le0, LD.le1, LD.le2, LD.le3, LD.le4, LD.le5, LD.le6, LD.cmpK_l, LD.nn_n, LD.nn_i, LD.nn_t, LD.nn_l, LD.nn_r, LD.nn_b, LD.nn_s, LD.nonK_n, LD.okK_o, LD.bind_k, LD.bind_b, LD.bind_e, LD.bindS_k, LD.bindS_e, LD.ofO_s, LD.getV_s, LD.truK_s, LD.blK_b, LD.refK_r, LD.insK_i, LD.lookK_s, LD.lookK_n, LD.refS_r, LD.insS_i, LD.lookS_s, LD.seq_n, LD.seq_r, LD.seq_b, LD.seq_c, LD.seq_e, LD.storeK_s, LD.memK_s, LD.endF_n, LD.endF_r, LD.endF_e, LD.pick_t, LD.pick_f, LD.finL_f, LD.finL_t, LD.v_add, LD.v_sub, LD.v_mulR, LD.v_fdiv, LD.v_mod, LD.v_int, LD.v_lt, LD.v_le, LD.v_gt, LD.v_ge, LD.v_eq, LD.v_ne, LD.v_len, LD.v_tix, LD.v_lix, LD.v_rix, LD.rixK_l, LD.rixK_d, LD.v_isN, LD.v_isnN, LD.v_isNone, LD.v_isNoneN, LD.startD, List.length_cons, List.length_nil, List.map_cons, List.map_nil, List.cons_append, List.nil_append, List.append_nil, List.getElem?_cons_zero, List.getElem?_cons_succ, List.set_cons_zero, List.set_cons_succ, List.replicate_succ, List.replicate_zero, Nat.reduceAdd, Nat.reduceSub, Nat.reduceBEq, Int.reduceLT, Int.reduceNeg, Int.reduceLE, Nat.reduceLeDiff, Nat.reduceLT, List.lookup_cons, List.lookup_nil, beq_self_eq_true, Option.map_some, Option.map_none, e1, hC1, nd1, num1, hK1, hat, prK1, ist, z0, hs]
        rfl
      | cons x xs =>
        have zp : decide ((0 : Int) < (((x :: xs).map D.str).length : Int)) = true := decide_eq_true (by rw [List.length_map, List.length_cons]; omega)
        rw [List.map_cons] at e1 zp
        have ist := in_strs (v := p.2) (xs := x :: xs) (b := true) (tb := (0, φ_Controls___contains__) :: []) (M := M1)
        rw [List.map_cons, hv', bn2] at ist
        simp only [LD.v_lenO, LD.v_eqQi, LD.v_neQi, LD.q_Ins, LD.q_App, LD.okS_t, LD.v_isLst, LD.lstK_s, LD.v_app, LD.q_Rev, LD.lsK_s, LD.q_Get, LD.getKK_s, LD.v_lsL, LD.v_keyI, LD.v_keyS, Option.isSome_some, Option.isSome_none, Option.getD_some, Option.getD_none, LD.v_eqs, LD.v_nes, LD.v_isiBb, LD.q_C, LD.q_Var, LD.q_Bin, LD.q_Un, LD.q_tOf, LD.q_tCmp, LD.q_tAnd, LD.q_tOr, LD.q_tNot, LD.q_And, LD.q_Or, LD.q_Not, LD.q_If, LD.q_Nil, LD.q_Cons, LD.q_Tup, LD.q_Lst, LD.q_LstM, LD.q_Call, LD.q_Meth, LD.q_Attr, LD.q_Blt, LD.q_Comp, LD.q_iOf, LD.srcK_s, LD.v_truB, LD.v_truL, LD.v_truN, LD.v_srcL, LD.v_neg, LD.q_iRange, LD.q_Next, LD.q_Seq, LD.q_Expr, LD.q_Ret, LD.q_RetN, LD.q_SIf, LD.q_Bk, LD.q_Ct, LD.q_Asg, LD.q_Nm, LD.q_Sub, LD.q_Del, LD.q_Fld, LD.q_Dic, LD.q_For, LD.wipeD, Bool.not_true, Bool.not_false, LD.ifT, LD.le0, LD.le1, LD.le2, LD.le3, LD.le4, LD.le5, LD.le6, LD.cmpK_l, LD.nn_n, LD.nn_i, LD.nn_t, LD.nn_l, LD.nn_r, LD.nn_b, LD.nn_s, LD.nonK_n, LD.okK_o, LD.bind_k, LD.bind_b, LD.bind_e, LD.bindS_k, LD.bindS_e, LD.ofO_s, LD.getV_s, LD.truK_s, LD.blK_b, LD.refK_r, LD.insK_i, LD.lookK_s, LD.lookK_n, LD.refS_r, LD.insS_i, LD.lookS_s, LD.seq_n, LD.seq_r, LD.seq_b, LD.seq_c, LD.seq_e, LD.storeK_s, LD.memK_s, LD.endF_n, LD.endF_r, LD.endF_e, LD.pick_t, LD.pick_f, LD.finL_f, LD.finL_t, LD.v_add, LD.v_sub, LD.v_mulR, LD.v_fdiv, LD.v_mod, LD.v_int, LD.v_lt, LD.v_le, LD.v_gt, LD.v_ge, LD.v_eq, LD.v_ne, LD.v_len, LD.v_tix, LD.v_lix, LD.v_rix, LD.rixK_l, LD.rixK_d, LD.v_isN, LD.v_isnN, LD.v_isNone, LD.v_isNoneN, LD.startD, List.length_cons, List.length_nil, List.map_cons, List.map_nil, List.cons_append, List.nil_append, List.append_nil, List.getElem?_cons_zero, List.getElem?_cons_succ, List.set_cons_zero, List.set_cons_succ, List.replicate_succ, List.replicate_zero, Nat.reduceAdd, Nat.reduceSub, Nat.reduceBEq, Int.reduceLT, Int.reduceNeg, Int.reduceLE, Nat.reduceLeDiff, Nat.reduceLT, List.lookup_cons, List.lookup_nil, beq_self_eq_true, Option.map_some, Option.map_none, e1, hC1, nd1, num1, hK1, hat, prK1, ist, List.length_map, at0, hs]
        rw [List.length_cons, List.length_map] at zp
        rw [zp]
        simp only [LD.v_lenO, LD.v_eqQi, LD.v_neQi, LD.q_Ins, LD.q_App, LD.okS_t, LD.v_isLst, LD.lstK_s, LD.v_app, LD.q_Rev, LD.lsK_s, LD.q_Get, LD.getKK_s, LD.v_lsL, LD.v_keyI, LD.v_keyS, Option.isSome_some, Option.isSome_none, Option.getD_some, Option.getD_none, LD.v_eqs, LD.v_nes, LD.v_isiBb, LD.q_C, LD.q_Var, LD.q_Bin, LD.q_Un, LD.q_tOf, LD.q_tCmp, LD.q_tAnd, LD.q_tOr, LD.q_tNot, LD.q_And, LD.q_Or, LD.q_Not, LD.q_If, LD.q_Nil, LD.q_Cons, LD.q_Tup, LD.q_Lst, LD.q_LstM, LD.q_Call, LD.q_Meth, LD.q_Attr, LD.q_Blt, LD.q_Comp, LD.q_iOf, LD.srcK_s, LD.v_truB, LD.v_truL, LD.v_truN, LD.v_srcL, LD.v_neg, LD.q_iRange, LD.q_Next, LD.q_Seq, LD.q_Expr, LD.q_Ret, LD.q_RetN, LD.q_SIf, LD.q_Bk, LD.q_Ct, LD.q_Asg, LD.q_Nm, LD.q_Sub, LD.q_Del, LD.q_Fld, LD.q_Dic, LD.q_For, LD.wipeD, Bool.not_true, Bool.not_false, LD.ifT, LD.le0, LD.le1, LD.le2, LD.le3, LD.le4, LD.le5, LD.le6, LD.cmpK_l, LD.nn_n, LD.nn_i, LD.nn_t, LD.nn_l, LD.nn_r, LD.nn_b, LD.nn_s, LD.nonK_n, LD.okK_o, LD.bind_k, LD.bind_b, LD.bind_e, LD.bindS_k, LD.bindS_e, LD.ofO_s, LD.getV_s, LD.truK_s, LD.blK_b, LD.refK_r, LD.insK_i, LD.lookK_s, LD.lookK_n, LD.refS_r, LD.insS_i, LD.lookS_s, LD.seq_n, LD.seq_r, LD.seq_b, LD.seq_c, LD.seq_e, LD.storeK_s, LD.memK_s, LD.endF_n, LD.endF_r, LD.endF_e, LD.pick_t, LD.pick_f, LD.finL_f, LD.finL_t, LD.v_add, LD.v_sub, LD.v_mulR, LD.v_fdiv, LD.v_mod, LD.v_int, LD.v_lt, LD.v_le, LD.v_gt, LD.v_ge, LD.v_eq, LD.v_ne, LD.v_len, LD.v_tix, LD.v_lix, LD.v_rix, LD.rixK_l, LD.rixK_d, LD.v_isN, LD.v_isnN, LD.v_isNone, LD.v_isNoneN, LD.startD, List.length_cons, List.length_nil, List.map_cons, List.map_nil, List.cons_append, List.nil_append, List.append_nil, List.getElem?_cons_zero, List.getElem?_cons_succ, List.set_cons_zero, List.set_cons_succ, List.replicate_succ, List.replicate_zero, Nat.reduceAdd, Nat.reduceSub, Nat.reduceBEq, Int.reduceLT, Int.reduceNeg, Int.reduceLE, Nat.reduceLeDiff, Nat.reduceLT, List.lookup_cons, List.lookup_nil, beq_self_eq_true, Option.map_some, Option.map_none, at0, hC1, nd1, num1, hs]
        rfl
    · unfold pickV
      rw [if_neg hv]
      exact ok.put n _
def kA : SSem := (sAsg (gNm 5) (eCall φ_kind_of_control (aCons (eVar 3) aNil) aNil))
def kC : Sem1 Bool := (tCmp (boD (notB isB)) (eVar 5) (eC .non))
def vA : SSem := (sAsg (gNm 6) (eCall φ_bound_value (aCons (eVar 3) (aCons (eVar 5) aNil)) aNil))
def vB : SSem := (sIf (tAnd (tCmp (boD isB) (eVar 6) (eC .non)) (tAnd (tCmp (inO ((0, φ_Controls___contains__) :: []) false) (eBin ixD (eVar 3) (eC (.int 1))) (eVar 2)) (tCmp (boD eqD) (eBin ixD (eBin ixD (eVar 2) (eBin ixD (eVar 3) (eC (.int 1)))) (eC (.int 0))) (eVar 5)))) (sSeq (sAsg (gNm 6) (eBin ixD (eBin ixD (eVar 2) (eBin ixD (eVar 3) (eC (.int 1)))) (eC (.int 1)))) sNext) (sSeq (sIf (tCmp (boD isB) (eVar 6) (eC .non)) (sSeq (sAsg (gNm 6) (eCall φ_first_value (aCons (eVar 3) (aCons (eVar 5) aNil)) aNil)) sNext) sNext) sNext))
def rS : SSem := (sSeq (sSub (eAttr [] ((0, 0) :: []) (eVar 0)) (eBin ixD (eVar 3) (eC (.int 1))) (eTup (aCons (eVar 5) (aCons (eVar 6) aNil)))) (sSeq (sIf (tAnd (tCmp (boD eqD) (eVar 5) (eC (.str "select"))) (tCmp (boD isB) (eCall φ_bound_value (aCons (eVar 3) (aCons (eVar 5) aNil)) aNil) (eC .non))) (sSeq (sExpr (eMeth ((0, φ_Controls_choose_first) :: []) (eVar 0) (aCons (eVar 3) (aCons (eVar 4) aNil)) aNil)) sNext) sNext) sNext))
theorem body_def : β_Controls_settle_3 = sSeq kA (sSeq (sIf kC (sSeq vA (sSeq vB rS)) sNext) sNext) := rfl
theorem value_eq {M : Mem} {C κ : Nat} {a1 : Option D} {kvs : List (Key × D)} {before : Kn} {n : Int} {tag k : Str} {ats : List (Str × Str)} {kids : List Nd} {sh : Bool} {x6 : Option D} {rest : SSem} (hK : M[κ]? = some (.dic kvs)) (ok : KOk kvs before) :
    sSeq vA (sSeq vB rest) [some (.ref C), a1, some (.ref κ), some (ndD (.el n tag ats kids)), some (.bl sh), some (.str k), x6] M = rest [some (.ref C), a1, some (.ref κ), some (ndD (.el n tag ats kids)), some (.bl sh), some (.str k), some (vlD (rawV before (.el n tag ats kids, sh) k))] M := by
  have num1 : num (.el n tag ats kids) = n := rfl
  have ei := fun b tb => in_kn (n := n) (b := b) (tb := tb) hK ok
  unfold rawV
  show _ = rest [_, _, _, _, _, _, some (vlD (match bndE ats k with | some v => v | none => match before n with | some p => if p.1 = k then p.2 else fstE ats k | none => fstE ats k))] M
  refine (seqN (s1 := [some (.ref C), a1, some (.ref κ), some (ndD (.el n tag ats kids)), some (.bl sh), some (.str k), some (ovD (bndE ats k))]) (M1 := M) ?_).trans ?_
  · unfold vA
    simp only [LD.v_lenO, LD.v_eqQi, LD.v_neQi, LD.q_Ins, LD.q_App, LD.okS_t, LD.v_isLst, LD.lstK_s, LD.v_app, LD.q_Rev, LD.lsK_s, LD.q_Get, LD.getKK_s, LD.v_lsL, LD.v_keyI, LD.v_keyS, Option.isSome_some, Option.isSome_none, Option.getD_some, Option.getD_none, LD.v_eqs, LD.v_nes, LD.v_isiBb, LD.q_C, LD.q_Var, LD.q_Bin, LD.q_Un, LD.q_tOf, LD.q_tCmp, LD.q_tAnd, LD.q_tOr, LD.q_tNot, LD.q_And, LD.q_Or, LD.q_Not, LD.q_If, LD.q_Nil, LD.q_Cons, LD.q_Tup, LD.q_Lst, LD.q_LstM, LD.q_Call, LD.q_Meth, LD.q_Attr, LD.q_Blt, LD.q_Comp, LD.q_iOf, LD.srcK_s, LD.v_truB, LD.v_truL, LD.v_truN, LD.v_srcL, LD.v_neg, LD.q_iRange, LD.q_Next, LD.q_Seq, LD.q_Expr, LD.q_Ret, LD.q_RetN, LD.q_SIf, LD.q_Bk, LD.q_Ct, LD.q_Asg, LD.q_Nm, LD.q_Sub, LD.q_Del, LD.q_Fld, LD.q_Dic, LD.q_For, LD.wipeD, Bool.not_true, Bool.not_false, LD.ifT, LD.le0, LD.le1, LD.le2, LD.le3, LD.le4, LD.le5, LD.le6, LD.cmpK_l, LD.nn_n, LD.nn_i, LD.nn_t, LD.nn_l, LD.nn_r, LD.nn_b, LD.nn_s, LD.nonK_n, LD.okK_o, LD.bind_k, LD.bind_b, LD.bind_e, LD.bindS_k, LD.bindS_e, LD.ofO_s, LD.getV_s, LD.truK_s, LD.blK_b, LD.refK_r, LD.insK_i, LD.lookK_s, LD.lookK_n, LD.refS_r, LD.insS_i, LD.lookS_s, LD.seq_n, LD.seq_r, LD.seq_b, LD.seq_c, LD.seq_e, LD.storeK_s, LD.memK_s, LD.endF_n, LD.endF_r, LD.endF_e, LD.pick_t, LD.pick_f, LD.finL_f, LD.finL_t, LD.v_add, LD.v_sub, LD.v_mulR, LD.v_fdiv, LD.v_mod, LD.v_int, LD.v_lt, LD.v_le, LD.v_gt, LD.v_ge, LD.v_eq, LD.v_ne, LD.v_len, LD.v_tix, LD.v_lix, LD.v_rix, LD.rixK_l, LD.rixK_d, LD.v_isN, LD.v_isnN, LD.v_isNone, LD.v_isNoneN, LD.startD, List.length_cons, List.length_nil, List.map_cons, List.map_nil, List.cons_append, List.nil_append, List.append_nil, List.getElem?_cons_zero, List.getElem?_cons_succ, List.set_cons_zero, List.set_cons_succ, List.replicate_succ, List.replicate_zero, Nat.reduceAdd, Nat.reduceSub, Nat.reduceBEq, Int.reduceLT, Int.reduceNeg, Int.reduceLE, Nat.reduceLeDiff, Nat.reduceLT, List.lookup_cons, List.lookup_nil, beq_self_eq_true, Option.map_some, Option.map_none, bound_eq]
  cases hb : bndE ats k with
  | some v =>
    refine seqN ?_
    have e0 : ovD (some v) = vlD v := rfl
    unfold vB
    simp only [LD.v_lenO, LD.v_eqQi, LD.v_neQi, LD.q_Ins, LD.q_App, LD.okS_t, LD.v_isLst, LD.lstK_s, LD.v_app, LD.q_Rev, LD.lsK_s, LD.q_Get, LD.getKK_s, LD.v_lsL, LD.v_keyI, LD.v_keyS, Option.isSome_some, Option.isSome_none, Option.getD_some, Option.getD_none, LD.v_eqs, LD.v_nes, LD.v_isiBb, LD.q_C, LD.q_Var, LD.q_Bin, LD.q_Un, LD.q_tOf, LD.q_tCmp, LD.q_tAnd, LD.q_tOr, LD.q_tNot, LD.q_And, LD.q_Or, LD.q_Not, LD.q_If, LD.q_Nil, LD.q_Cons, LD.q_Tup, LD.q_Lst, LD.q_LstM, LD.q_Call, LD.q_Meth, LD.q_Attr, LD.q_Blt, LD.q_Comp, LD.q_iOf, LD.srcK_s, LD.v_truB, LD.v_truL, LD.v_truN, LD.v_srcL, LD.v_neg, LD.q_iRange, LD.q_Next, LD.q_Seq, LD.q_Expr, LD.q_Ret, LD.q_RetN, LD.q_SIf, LD.q_Bk, LD.q_Ct, LD.q_Asg, LD.q_Nm, LD.q_Sub, LD.q_Del, LD.q_Fld, LD.q_Dic, LD.q_For, LD.wipeD, Bool.not_true, Bool.not_false, LD.ifT, LD.le0, LD.le1, LD.le2, LD.le3, LD.le4, LD.le5, LD.le6, LD.cmpK_l, LD.nn_n, LD.nn_i, LD.nn_t, LD.nn_l, LD.nn_r, LD.nn_b, LD.nn_s, LD.nonK_n, LD.okK_o, LD.bind_k, LD.bind_b, LD.bind_e, LD.bindS_k, LD.bindS_e, LD.ofO_s, LD.getV_s, LD.truK_s, LD.blK_b, LD.refK_r, LD.insK_i, LD.lookK_s, LD.lookK_n, LD.refS_r, LD.insS_i, LD.lookS_s, LD.seq_n, LD.seq_r, LD.seq_b, LD.seq_c, LD.seq_e, LD.storeK_s, LD.memK_s, LD.endF_n, LD.endF_r, LD.endF_e, LD.pick_t, LD.pick_f, LD.finL_f, LD.finL_t, LD.v_add, LD.v_sub, LD.v_mulR, LD.v_fdiv, LD.v_mod, LD.v_int, LD.v_lt, LD.v_le, LD.v_gt, LD.v_ge, LD.v_eq, LD.v_ne, LD.v_len, LD.v_tix, LD.v_lix, LD.v_rix, LD.rixK_l, LD.rixK_d, LD.v_isN, LD.v_isnN, LD.v_isNone, LD.v_isNoneN, LD.startD, List.length_cons, List.length_nil, List.map_cons, List.map_nil, List.cons_append, List.nil_append, List.append_nil, List.getElem?_cons_zero, List.getElem?_cons_succ, List.set_cons_zero, List.set_cons_succ, List.replicate_succ, List.replicate_zero, Nat.reduceAdd, Nat.reduceSub, Nat.reduceBEq, Int.reduceLT, Int.reduceNeg, Int.reduceLE, Nat.reduceLeDiff, Nat.reduceLT, List.lookup_cons, List.lookup_nil, beq_self_eq_true, Option.map_some, Option.map_none, e0, nn_v]
  | none =>
    have e0 : ovD none = .non := rfl
    cases hf : before n with
    | none =>
      have i0 := ei false ((0, φ_Controls___contains__) :: [])
      rw [hf] at i0
      refine seqN ?_
      unfold vB
      simp only [LD.v_lenO, LD.v_eqQi, LD.v_neQi, LD.q_Ins, LD.q_App, LD.okS_t, LD.v_isLst, LD.lstK_s, LD.v_app, LD.q_Rev, LD.lsK_s, LD.q_Get, LD.getKK_s, LD.v_lsL, LD.v_keyI, LD.v_keyS, Option.isSome_some, Option.isSome_none, Option.getD_some, Option.getD_none, LD.v_eqs, LD.v_nes, LD.v_isiBb, LD.q_C, LD.q_Var, LD.q_Bin, LD.q_Un, LD.q_tOf, LD.q_tCmp, LD.q_tAnd, LD.q_tOr, LD.q_tNot, LD.q_And, LD.q_Or, LD.q_Not, LD.q_If, LD.q_Nil, LD.q_Cons, LD.q_Tup, LD.q_Lst, LD.q_LstM, LD.q_Call, LD.q_Meth, LD.q_Attr, LD.q_Blt, LD.q_Comp, LD.q_iOf, LD.srcK_s, LD.v_truB, LD.v_truL, LD.v_truN, LD.v_srcL, LD.v_neg, LD.q_iRange, LD.q_Next, LD.q_Seq, LD.q_Expr, LD.q_Ret, LD.q_RetN, LD.q_SIf, LD.q_Bk, LD.q_Ct, LD.q_Asg, LD.q_Nm, LD.q_Sub, LD.q_Del, LD.q_Fld, LD.q_Dic, LD.q_For, LD.wipeD, Bool.not_true, Bool.not_false, LD.ifT, LD.le0, LD.le1, LD.le2, LD.le3, LD.le4, LD.le5, LD.le6, LD.cmpK_l, LD.nn_n, LD.nn_i, LD.nn_t, LD.nn_l, LD.nn_r, LD.nn_b, LD.nn_s, LD.nonK_n, LD.okK_o, LD.bind_k, LD.bind_b, LD.bind_e, LD.bindS_k, LD.bindS_e, LD.ofO_s, LD.getV_s, LD.truK_s, LD.blK_b, LD.refK_r, LD.insK_i, LD.lookK_s, LD.lookK_n, LD.refS_r, LD.insS_i, LD.lookS_s, LD.seq_n, LD.seq_r, LD.seq_b, LD.seq_c, LD.seq_e, LD.storeK_s, LD.memK_s, LD.endF_n, LD.endF_r, LD.endF_e, LD.pick_t, LD.pick_f, LD.finL_f, LD.finL_t, LD.v_add, LD.v_sub, LD.v_mulR, LD.v_fdiv, LD.v_mod, LD.v_int, LD.v_lt, LD.v_le, LD.v_gt, LD.v_ge, LD.v_eq, LD.v_ne, LD.v_len, LD.v_tix, LD.v_lix, LD.v_rix, LD.rixK_l, LD.rixK_d, LD.v_isN, LD.v_isnN, LD.v_isNone, LD.v_isNoneN, LD.startD, List.length_cons, List.length_nil, List.map_cons, List.map_nil, List.cons_append, List.nil_append, List.append_nil, List.getElem?_cons_zero, List.getElem?_cons_succ, List.set_cons_zero, List.set_cons_succ, List.replicate_succ, List.replicate_zero, Nat.reduceAdd, Nat.reduceSub, Nat.reduceBEq, Int.reduceLT, Int.reduceNeg, Int.reduceLE, Nat.reduceLeDiff, Nat.reduceLT, List.lookup_cons, List.lookup_nil, beq_self_eq_true, Option.map_some, Option.map_none, e0, nd1, num1, i0, bn4, first_eq]
    | some p =>
      have i0 := ei false ((0, φ_Controls___contains__) :: [])
      rw [hf] at i0
      have hat := dic_at (M := M) ok hf
      by_cases hp : p.1 = k
      · show sSeq vB rest _ M = rest [_, _, _, _, _, _, some (vlD (if p.1 = k then p.2 else fstE ats k))] M
        rw [if_pos hp]
        refine seqN ?_
        unfold vB
        simp only [LD.v_lenO, LD.v_eqQi, LD.v_neQi, LD.q_Ins, LD.q_App, LD.okS_t, LD.v_isLst, LD.lstK_s, LD.v_app, LD.q_Rev, LD.lsK_s, LD.q_Get, LD.getKK_s, LD.v_lsL, LD.v_keyI, LD.v_keyS, Option.isSome_some, Option.isSome_none, Option.getD_some, Option.getD_none, LD.v_eqs, LD.v_nes, LD.v_isiBb, LD.q_C, LD.q_Var, LD.q_Bin, LD.q_Un, LD.q_tOf, LD.q_tCmp, LD.q_tAnd, LD.q_tOr, LD.q_tNot, LD.q_And, LD.q_Or, LD.q_Not, LD.q_If, LD.q_Nil, LD.q_Cons, LD.q_Tup, LD.q_Lst, LD.q_LstM, LD.q_Call, LD.q_Meth, LD.q_Attr, LD.q_Blt, LD.q_Comp, LD.q_iOf, LD.srcK_s, LD.v_truB, LD.v_truL, LD.v_truN, LD.v_srcL, LD.v_neg, LD.q_iRange, LD.q_Next, LD.q_Seq, LD.q_Expr, LD.q_Ret, LD.q_RetN, LD.q_SIf, LD.q_Bk, LD.q_Ct, LD.q_Asg, LD.q_Nm, LD.q_Sub, LD.q_Del, LD.q_Fld, LD.q_Dic, LD.q_For, LD.wipeD, Bool.not_true, Bool.not_false, LD.ifT, LD.le0, LD.le1, LD.le2, LD.le3, LD.le4, LD.le5, LD.le6, LD.cmpK_l, LD.nn_n, LD.nn_i, LD.nn_t, LD.nn_l, LD.nn_r, LD.nn_b, LD.nn_s, LD.nonK_n, LD.okK_o, LD.bind_k, LD.bind_b, LD.bind_e, LD.bindS_k, LD.bindS_e, LD.ofO_s, LD.getV_s, LD.truK_s, LD.blK_b, LD.refK_r, LD.insK_i, LD.lookK_s, LD.lookK_n, LD.refS_r, LD.insS_i, LD.lookS_s, LD.seq_n, LD.seq_r, LD.seq_b, LD.seq_c, LD.seq_e, LD.storeK_s, LD.memK_s, LD.endF_n, LD.endF_r, LD.endF_e, LD.pick_t, LD.pick_f, LD.finL_f, LD.finL_t, LD.v_add, LD.v_sub, LD.v_mulR, LD.v_fdiv, LD.v_mod, LD.v_int, LD.v_lt, LD.v_le, LD.v_gt, LD.v_ge, LD.v_eq, LD.v_ne, LD.v_len, LD.v_tix, LD.v_lix, LD.v_rix, LD.rixK_l, LD.rixK_d, LD.v_isN, LD.v_isnN, LD.v_isNone, LD.v_isNoneN, LD.startD, List.length_cons, List.length_nil, List.map_cons, List.map_nil, List.cons_append, List.nil_append, List.append_nil, List.getElem?_cons_zero, List.getElem?_cons_succ, List.set_cons_zero, List.set_cons_succ, List.replicate_succ, List.replicate_zero, Nat.reduceAdd, Nat.reduceSub, Nat.reduceBEq, Int.reduceLT, Int.reduceNeg, Int.reduceLE, Nat.reduceLeDiff, Nat.reduceLT, List.lookup_cons, List.lookup_nil, beq_self_eq_true, Option.map_some, Option.map_none, e0, nd1, num1, i0, bn3, hK, hat, prK0, beq_iff_eq.mpr hp, prK1]
      · show sSeq vB rest _ M = rest [_, _, _, _, _, _, some (vlD (if p.1 = k then p.2 else fstE ats k))] M
        rw [if_neg hp]
        refine seqN ?_
        unfold vB
        simp only [LD.v_lenO, LD.v_eqQi, LD.v_neQi, LD.q_Ins, LD.q_App, LD.okS_t, LD.v_isLst, LD.lstK_s, LD.v_app, LD.q_Rev, LD.lsK_s, LD.q_Get, LD.getKK_s, LD.v_lsL, LD.v_keyI, LD.v_keyS, Option.isSome_some, Option.isSome_none, Option.getD_some, Option.getD_none, LD.v_eqs, LD.v_nes, LD.v_isiBb, LD.q_C, LD.q_Var, LD.q_Bin, LD.q_Un, LD.q_tOf, LD.q_tCmp, LD.q_tAnd, LD.q_tOr, LD.q_tNot, LD.q_And, LD.q_Or, LD.q_Not, LD.q_If, LD.q_Nil, LD.q_Cons, LD.q_Tup, LD.q_Lst, LD.q_LstM, LD.q_Call, LD.q_Meth, LD.q_Attr, LD.q_Blt, LD.q_Comp, LD.q_iOf, LD.srcK_s, LD.v_truB, LD.v_truL, LD.v_truN, LD.v_srcL, LD.v_neg, LD.q_iRange, LD.q_Next, LD.q_Seq, LD.q_Expr, LD.q_Ret, LD.q_RetN, LD.q_SIf, LD.q_Bk, LD.q_Ct, LD.q_Asg, LD.q_Nm, LD.q_Sub, LD.q_Del, LD.q_Fld, LD.q_Dic, LD.q_For, LD.wipeD, Bool.not_true, Bool.not_false, LD.ifT, LD.le0, LD.le1, LD.le2, LD.le3, LD.le4, LD.le5, LD.le6, LD.cmpK_l, LD.nn_n, LD.nn_i, LD.nn_t, LD.nn_l, LD.nn_r, LD.nn_b, LD.nn_s, LD.nonK_n, LD.okK_o, LD.bind_k, LD.bind_b, LD.bind_e, LD.bindS_k, LD.bindS_e, LD.ofO_s, LD.getV_s, LD.truK_s, LD.blK_b, LD.refK_r, LD.insK_i, LD.lookK_s, LD.lookK_n, LD.refS_r, LD.insS_i, LD.lookS_s, LD.seq_n, LD.seq_r, LD.seq_b, LD.seq_c, LD.seq_e, LD.storeK_s, LD.memK_s, LD.endF_n, LD.endF_r, LD.endF_e, LD.pick_t, LD.pick_f, LD.finL_f, LD.finL_t, LD.v_add, LD.v_sub, LD.v_mulR, LD.v_fdiv, LD.v_mod, LD.v_int, LD.v_lt, LD.v_le, LD.v_gt, LD.v_ge, LD.v_eq, LD.v_ne, LD.v_len, LD.v_tix, LD.v_lix, LD.v_rix, LD.rixK_l, LD.rixK_d, LD.v_isN, LD.v_isnN, LD.v_isNone, LD.v_isNoneN, LD.startD, List.length_cons, List.length_nil, List.map_cons, List.map_nil, List.cons_append, List.nil_append, List.append_nil, List.getElem?_cons_zero, List.getElem?_cons_succ, List.set_cons_zero, List.set_cons_succ, List.replicate_succ, List.replicate_zero, Nat.reduceAdd, Nat.reduceSub, Nat.reduceBEq, Int.reduceLT, Int.reduceNeg, Int.reduceLE, Nat.reduceLeDiff, Nat.reduceLT, List.lookup_cons, List.lookup_nil, beq_self_eq_true, Option.map_some, Option.map_none, e0, nd1, num1, i0, bn3, hK, hat, prK0, beq_eq_false_iff_ne.mpr hp, first_eq]
theorem settle_body {M : Mem} {C κ κ' : Nat} {a1 : Option D} {kvs kvs' : List (Key × D)} {before f : Kn} {a : Nd} {sh : Bool} {x5 x6 : Option D} (ha : isEl a = true) (hC : M[C]? = some (.ins 0 [some (.ref κ')])) (hK : M[κ]? = some (.dic kvs)) (ok : KOk kvs before) (hK' : M[κ']? = some (.dic kvs')) (ok' : KOk kvs' f) (hl : kvs'.length < 1500)
    (h : htL (kidsOf a) < 30) (hn : (numsL (kidsOf a)).length < 1000) :
    ∃ M' kvs2 x5' x6', β_Controls_settle_3 [some (.ref C), a1, some (.ref κ), some (ndD a), some (.bl sh), x5, x6] M = .nx [some (.ref C), a1, some (.ref κ), some (ndD a), some (.bl sh), x5', x6'] M' ∧ M'[κ']? = some (.dic kvs2) ∧ KOk kvs2 (stepK before f (a, sh)) ∧ kvs2.length ≤ kvs'.length + 1 ∧ ∀ (i : Nat) o, i ≠ κ' → M[i]? = some o → M'[i]? = some o := by
  obtain ⟨n, tag, ats, kids, rfl⟩ := elem_of ha
  have num1 : num (.el n tag ats kids) = n := rfl
  have hkA : kA [some (.ref C), a1, some (.ref κ), some (ndD (.el n tag ats kids)), some (.bl sh), x5, x6] M = .nx [some (.ref C), a1, some (.ref κ), some (ndD (.el n tag ats kids)), some (.bl sh), some (oD (kd (.el n tag ats kids))), x6] M := by
    unfold kA
    simp only [LD.v_lenO, LD.v_eqQi, LD.v_neQi, LD.q_Ins, LD.q_App, LD.okS_t, LD.v_isLst, LD.lstK_s, LD.v_app, LD.q_Rev, LD.lsK_s, LD.q_Get, LD.getKK_s, LD.v_lsL, LD.v_keyI, LD.v_keyS, Option.isSome_some, Option.isSome_none, Option.getD_some, Option.getD_none, LD.v_eqs, LD.v_nes, LD.v_isiBb, LD.q_C, LD.q_Var, LD.q_Bin, LD.q_Un, LD.q_tOf, LD.q_tCmp, LD.q_tAnd, LD.q_tOr, LD.q_tNot, LD.q_And, LD.q_Or, LD.q_Not, LD.q_If, LD.q_Nil, LD.q_Cons, LD.q_Tup, LD.q_Lst, LD.q_LstM, LD.q_Call, LD.q_Meth, LD.q_Attr, LD.q_Blt, LD.q_Comp, LD.q_iOf, LD.srcK_s, LD.v_truB, LD.v_truL, LD.v_truN, LD.v_srcL, LD.v_neg, LD.q_iRange, LD.q_Next, LD.q_Seq, LD.q_Expr, LD.q_Ret, LD.q_RetN, LD.q_SIf, LD.q_Bk, LD.q_Ct, LD.q_Asg, LD.q_Nm, LD.q_Sub, LD.q_Del, LD.q_Fld, LD.q_Dic, LD.q_For, LD.wipeD, Bool.not_true, Bool.not_false, LD.ifT, LD.le0, LD.le1, LD.le2, LD.le3, LD.le4, LD.le5, LD.le6, LD.cmpK_l, LD.nn_n, LD.nn_i, LD.nn_t, LD.nn_l, LD.nn_r, LD.nn_b, LD.nn_s, LD.nonK_n, LD.okK_o, LD.bind_k, LD.bind_b, LD.bind_e, LD.bindS_k, LD.bindS_e, LD.ofO_s, LD.getV_s, LD.truK_s, LD.blK_b, LD.refK_r, LD.insK_i, LD.lookK_s, LD.lookK_n, LD.refS_r, LD.insS_i, LD.lookS_s, LD.seq_n, LD.seq_r, LD.seq_b, LD.seq_c, LD.seq_e, LD.storeK_s, LD.memK_s, LD.endF_n, LD.endF_r, LD.endF_e, LD.pick_t, LD.pick_f, LD.finL_f, LD.finL_t, LD.v_add, LD.v_sub, LD.v_mulR, LD.v_fdiv, LD.v_mod, LD.v_int, LD.v_lt, LD.v_le, LD.v_gt, LD.v_ge, LD.v_eq, LD.v_ne, LD.v_len, LD.v_tix, LD.v_lix, LD.v_rix, LD.rixK_l, LD.rixK_d, LD.v_isN, LD.v_isnN, LD.v_isNone, LD.v_isNoneN, LD.startD, List.length_cons, List.length_nil, List.map_cons, List.map_nil, List.cons_append, List.nil_append, List.append_nil, List.getElem?_cons_zero, List.getElem?_cons_succ, List.set_cons_zero, List.set_cons_succ, List.replicate_succ, List.replicate_zero, Nat.reduceAdd, Nat.reduceSub, Nat.reduceBEq, Int.reduceLT, Int.reduceNeg, Int.reduceLE, Nat.reduceLeDiff, Nat.reduceLT, List.lookup_cons, List.lookup_nil, beq_self_eq_true, Option.map_some, Option.map_none, kind_eq]
  rw [body_def, seqN hkA]
  unfold stepK
  dsimp only
  cases hk : kd (.el n tag ats kids) with
  | none =>
    refine ⟨M, kvs', some (oD none), x6, ?_, hK', ok', by omega, fun i o _ hi => hi⟩
    have e0 : oD none = .non := rfl
    unfold kC
    simp only [LD.v_lenO, LD.v_eqQi, LD.v_neQi, LD.q_Ins, LD.q_App, LD.okS_t, LD.v_isLst, LD.lstK_s, LD.v_app, LD.q_Rev, LD.lsK_s, LD.q_Get, LD.getKK_s, LD.v_lsL, LD.v_keyI, LD.v_keyS, Option.isSome_some, Option.isSome_none, Option.getD_some, Option.getD_none, LD.v_eqs, LD.v_nes, LD.v_isiBb, LD.q_C, LD.q_Var, LD.q_Bin, LD.q_Un, LD.q_tOf, LD.q_tCmp, LD.q_tAnd, LD.q_tOr, LD.q_tNot, LD.q_And, LD.q_Or, LD.q_Not, LD.q_If, LD.q_Nil, LD.q_Cons, LD.q_Tup, LD.q_Lst, LD.q_LstM, LD.q_Call, LD.q_Meth, LD.q_Attr, LD.q_Blt, LD.q_Comp, LD.q_iOf, LD.srcK_s, LD.v_truB, LD.v_truL, LD.v_truN, LD.v_srcL, LD.v_neg, LD.q_iRange, LD.q_Next, LD.q_Seq, LD.q_Expr, LD.q_Ret, LD.q_RetN, LD.q_SIf, LD.q_Bk, LD.q_Ct, LD.q_Asg, LD.q_Nm, LD.q_Sub, LD.q_Del, LD.q_Fld, LD.q_Dic, LD.q_For, LD.wipeD, Bool.not_true, Bool.not_false, LD.ifT, LD.le0, LD.le1, LD.le2, LD.le3, LD.le4, LD.le5, LD.le6, LD.cmpK_l, LD.nn_n, LD.nn_i, LD.nn_t, LD.nn_l, LD.nn_r, LD.nn_b, LD.nn_s, LD.nonK_n, LD.okK_o, LD.bind_k, LD.bind_b, LD.bind_e, LD.bindS_k, LD.bindS_e, LD.ofO_s, LD.getV_s, LD.truK_s, LD.blK_b, LD.refK_r, LD.insK_i, LD.lookK_s, LD.lookK_n, LD.refS_r, LD.insS_i, LD.lookS_s, LD.seq_n, LD.seq_r, LD.seq_b, LD.seq_c, LD.seq_e, LD.storeK_s, LD.memK_s, LD.endF_n, LD.endF_r, LD.endF_e, LD.pick_t, LD.pick_f, LD.finL_f, LD.finL_t, LD.v_add, LD.v_sub, LD.v_mulR, LD.v_fdiv, LD.v_mod, LD.v_int, LD.v_lt, LD.v_le, LD.v_gt, LD.v_ge, LD.v_eq, LD.v_ne, LD.v_len, LD.v_tix, LD.v_lix, LD.v_rix, LD.rixK_l, LD.rixK_d, LD.v_isN, LD.v_isnN, LD.v_isNone, LD.v_isNoneN, LD.startD, List.length_cons, List.length_nil, List.map_cons, List.map_nil, List.cons_append, List.nil_append, List.append_nil, List.getElem?_cons_zero, List.getElem?_cons_succ, List.set_cons_zero, List.set_cons_succ, List.replicate_succ, List.replicate_zero, Nat.reduceAdd, Nat.reduceSub, Nat.reduceBEq, Int.reduceLT, Int.reduceNeg, Int.reduceLE, Nat.reduceLeDiff, Nat.reduceLT, List.lookup_cons, List.lookup_nil, beq_self_eq_true, Option.map_some, Option.map_none, e0]
  | some k =>
    have e0 : oD (some k) = .str k := rfl
    have hL : kvs'.length < LINE := by have := big; omega
    generalize hr : rawV before (.el n tag ats kids, sh) k = v
    have hs := sub_dic (n := n) (d := prK (k, v)) hK' hL
    have hK2 : (M.set κ' (.dic (setD.putK' kvs' (.inl n) (prK (k, v)))))[κ']? = some (.dic (setD.putK' kvs' (.inl n) (prK (k, v)))) := set_is hK'
    have hC2 : (M.set κ' (.dic (setD.putK' kvs' (.inl n) (prK (k, v)))))[C]? = some (.ins 0 [some (.ref κ')]) := set_ne hK' hC (fun z => by cases z)
    have ok2 := ok'.put n (k, v)
    have hf2 : updK f n (k, v) n = some (k, v) := if_pos rfl
    have hpl := put_len (kvs := kvs') (k := .inl n) (d := prK (k, v))
    have fr2 : ∀ (i : Nat) o, i ≠ κ' → M[i]? = some o → (M.set κ' (.dic (setD.putK' kvs' (.inl n) (prK (k, v)))))[i]? = some o := fun i o hi hm => by rw [set_at (fun z => hi z.symm)]; exact hm
    have pre : ∀ r, rS [some (.ref C), a1, some (.ref κ), some (ndD (.el n tag ats kids)), some (.bl sh), some (.str k), some (vlD v)] M = r → sSeq (sIf kC (sSeq vA (sSeq vB rS)) sNext) sNext [some (.ref C), a1, some (.ref κ), some (ndD (.el n tag ats kids)), some (.bl sh), some (oD (some k)), x6] M = r.seq sNext .mk := fun r e => by
      have hv := value_eq (C := C) (a1 := a1) (n := n) (tag := tag) (k := k) (ats := ats) (kids := kids) (sh := sh) (x6 := x6) (rest := rS) hK ok
      rw [hr, e] at hv
      have hi : sIf kC (sSeq vA (sSeq vB rS)) sNext [some (.ref C), a1, some (.ref κ), some (ndD (.el n tag ats kids)), some (.bl sh), some (oD (some k)), x6] M = r := by
        rw [← hv, e0]
        unfold kC
        simp only [LD.v_lenO, LD.v_eqQi, LD.v_neQi, LD.q_Ins, LD.q_App, LD.okS_t, LD.v_isLst, LD.lstK_s, LD.v_app, LD.q_Rev, LD.lsK_s, LD.q_Get, LD.getKK_s, LD.v_lsL, LD.v_keyI, LD.v_keyS, Option.isSome_some, Option.isSome_none, Option.getD_some, Option.getD_none, LD.v_eqs, LD.v_nes, LD.v_isiBb, LD.q_C, LD.q_Var, LD.q_Bin, LD.q_Un, LD.q_tOf, LD.q_tCmp, LD.q_tAnd, LD.q_tOr, LD.q_tNot, LD.q_And, LD.q_Or, LD.q_Not, LD.q_If, LD.q_Nil, LD.q_Cons, LD.q_Tup, LD.q_Lst, LD.q_LstM, LD.q_Call, LD.q_Meth, LD.q_Attr, LD.q_Blt, LD.q_Comp, LD.q_iOf, LD.srcK_s, LD.v_truB, LD.v_truL, LD.v_truN, LD.v_srcL, LD.v_neg, LD.q_iRange, LD.q_Next, LD.q_Seq, LD.q_Expr, LD.q_Ret, LD.q_RetN, LD.q_SIf, LD.q_Bk, LD.q_Ct, LD.q_Asg, LD.q_Nm, LD.q_Sub, LD.q_Del, LD.q_Fld, LD.q_Dic, LD.q_For, LD.wipeD, Bool.not_true, Bool.not_false, LD.ifT, LD.le0, LD.le1, LD.le2, LD.le3, LD.le4, LD.le5, LD.le6, LD.cmpK_l, LD.nn_n, LD.nn_i, LD.nn_t, LD.nn_l, LD.nn_r, LD.nn_b, LD.nn_s, LD.nonK_n, LD.okK_o, LD.bind_k, LD.bind_b, LD.bind_e, LD.bindS_k, LD.bindS_e, LD.ofO_s, LD.getV_s, LD.truK_s, LD.blK_b, LD.refK_r, LD.insK_i, LD.lookK_s, LD.lookK_n, LD.refS_r, LD.insS_i, LD.lookS_s, LD.seq_n, LD.seq_r, LD.seq_b, LD.seq_c, LD.seq_e, LD.storeK_s, LD.memK_s, LD.endF_n, LD.endF_r, LD.endF_e, LD.pick_t, LD.pick_f, LD.finL_f, LD.finL_t, LD.v_add, LD.v_sub, LD.v_mulR, LD.v_fdiv, LD.v_mod, LD.v_int, LD.v_lt, LD.v_le, LD.v_gt, LD.v_ge, LD.v_eq, LD.v_ne, LD.v_len, LD.v_tix, LD.v_lix, LD.v_rix, LD.rixK_l, LD.rixK_d, LD.v_isN, LD.v_isnN, LD.v_isNone, LD.v_isNoneN, LD.startD, List.length_cons, List.length_nil, List.map_cons, List.map_nil, List.cons_append, List.nil_append, List.append_nil, List.getElem?_cons_zero, List.getElem?_cons_succ, List.set_cons_zero, List.set_cons_succ, List.replicate_succ, List.replicate_zero, Nat.reduceAdd, Nat.reduceSub, Nat.reduceBEq, Int.reduceLT, Int.reduceNeg, Int.reduceLE, Nat.reduceLeDiff, Nat.reduceLT, List.lookup_cons, List.lookup_nil, beq_self_eq_true, Option.map_some, Option.map_none]
      rw [q_Seq, hi]
    have prk : prK (k, v) = .tup [.str k, vlD v] := rfl
    by_cases hsel : k = "select" ∧ bndE ats k = none
    · obtain ⟨M3, kvs3, c1, c2, c3, c4, c5⟩ := choose_first_eq (C := C) (n := n) (tag := tag) (ats := ats) (kids := kids) (sh := sh) hC2 hK2 ok2 hf2 hsel.1 (by omega) h hn
      refine ⟨M3, kvs3, some (.str k), some (vlD v), (pre (.nx [some (.ref C), a1, some (.ref κ), some (ndD (.el n tag ats kids)), some (.bl sh), some (.str k), some (vlD v)] M3) ?_).trans ?_, c2, c3.eqv fun m => ?_, by omega, fun i o hi hm => c5 i o hi (fr2 i o hi hm)⟩
      · have e1 : ovD (bndE ats k) = .non := by rw [hsel.2] <;> rfl
        rw [prk] at hs c1 hC2
        unfold rS
        simp only [LD.v_lenO, LD.v_eqQi, LD.v_neQi, LD.q_Ins, LD.q_App, LD.okS_t, LD.v_isLst, LD.lstK_s, LD.v_app, LD.q_Rev, LD.lsK_s, LD.q_Get, LD.getKK_s, LD.v_lsL, LD.v_keyI, LD.v_keyS, Option.isSome_some, Option.isSome_none, Option.getD_some, Option.getD_none, LD.v_eqs, LD.v_nes, LD.v_isiBb, LD.q_C, LD.q_Var, LD.q_Bin, LD.q_Un, LD.q_tOf, LD.q_tCmp, LD.q_tAnd, LD.q_tOr, LD.q_tNot, LD.q_And, LD.q_Or, LD.q_Not, LD.q_If, LD.q_Nil, LD.q_Cons, LD.q_Tup, LD.q_Lst, LD.q_LstM, LD.q_Call, LD.q_Meth, LD.q_Attr, LD.q_Blt, LD.q_Comp, LD.q_iOf, LD.srcK_s, LD.v_truB, LD.v_truL, LD.v_truN, LD.v_srcL, LD.v_neg, LD.q_iRange, LD.q_Next, LD.q_Seq, LD.q_Expr, LD.q_Ret, LD.q_RetN, LD.q_SIf, LD.q_Bk, LD.q_Ct, LD.q_Asg, LD.q_Nm, LD.q_Sub, LD.q_Del, LD.q_Fld, LD.q_Dic, LD.q_For, LD.wipeD, Bool.not_true, Bool.not_false, LD.ifT, LD.le0, LD.le1, LD.le2, LD.le3, LD.le4, LD.le5, LD.le6, LD.cmpK_l, LD.nn_n, LD.nn_i, LD.nn_t, LD.nn_l, LD.nn_r, LD.nn_b, LD.nn_s, LD.nonK_n, LD.okK_o, LD.bind_k, LD.bind_b, LD.bind_e, LD.bindS_k, LD.bindS_e, LD.ofO_s, LD.getV_s, LD.truK_s, LD.blK_b, LD.refK_r, LD.insK_i, LD.lookK_s, LD.lookK_n, LD.refS_r, LD.insS_i, LD.lookS_s, LD.seq_n, LD.seq_r, LD.seq_b, LD.seq_c, LD.seq_e, LD.storeK_s, LD.memK_s, LD.endF_n, LD.endF_r, LD.endF_e, LD.pick_t, LD.pick_f, LD.finL_f, LD.finL_t, LD.v_add, LD.v_sub, LD.v_mulR, LD.v_fdiv, LD.v_mod, LD.v_int, LD.v_lt, LD.v_le, LD.v_gt, LD.v_ge, LD.v_eq, LD.v_ne, LD.v_len, LD.v_tix, LD.v_lix, LD.v_rix, LD.rixK_l, LD.rixK_d, LD.v_isN, LD.v_isnN, LD.v_isNone, LD.v_isNoneN, LD.startD, List.length_cons, List.length_nil, List.map_cons, List.map_nil, List.cons_append, List.nil_append, List.append_nil, List.getElem?_cons_zero, List.getElem?_cons_succ, List.set_cons_zero, List.set_cons_succ, List.replicate_succ, List.replicate_zero, Nat.reduceAdd, Nat.reduceSub, Nat.reduceBEq, Int.reduceLT, Int.reduceNeg, Int.reduceLE, Nat.reduceLeDiff, Nat.reduceLT, List.lookup_cons, List.lookup_nil, beq_self_eq_true, Option.map_some, Option.map_none, nd1, num1, hC, hs, beq_iff_eq.mpr hsel.1, bound_eq, e1, hC2, c1]
      · rfl
      · have hset : setV before (.el n tag ats kids, sh) k = pickV v (freeOf (elL kids sh)) := by
          unfold setV
          show (if k = "select" ∧ bndE ats k = none then pickV (rawV before (.el n tag ats kids, sh) k) (freeOf (elL kids sh)) else _) = _
          rw [if_pos hsel, hr]
        show updK (updK f n (k, v)) n ("select", pickV v (freeOf (elL kids sh))) m = updK f n (k, setV before (.el n tag ats kids, sh) k) m
        rw [hset]
        unfold updK
        by_cases hm : n = m
        · rw [if_pos hm, if_pos hm, hsel.1]
        · rw [if_neg hm, if_neg hm, if_neg hm]
    · refine ⟨_, _, some (.str k), some (vlD v), (pre (.nx [some (.ref C), a1, some (.ref κ), some (ndD (.el n tag ats kids)), some (.bl sh), some (.str k), some (vlD v)] (M.set κ' (.dic (setD.putK' kvs' (.inl n) (prK (k, v)))))) ?_).trans ?_, hK2, ok2.eqv fun m => ?_, hpl, fr2⟩
      · rw [prk] at hs ⊢
        unfold rS
        by_cases hk1 : k = "select"
        · have hb : ∃ w, bndE ats k = some w := by
            cases hb : bndE ats k with
            | none => exact absurd ⟨hk1, hb⟩ hsel
            | some w => exact ⟨w, rfl⟩
          obtain ⟨w, hb⟩ := hb
          have e1 : ovD (bndE ats k) = vlD w := by rw [hb] <;> rfl
          simp only [LD.v_lenO, LD.v_eqQi, LD.v_neQi, LD.q_Ins, LD.q_App, LD.okS_t, LD.v_isLst, LD.lstK_s, LD.v_app, LD.q_Rev, LD.lsK_s, LD.q_Get, LD.getKK_s, LD.v_lsL, LD.v_keyI, LD.v_keyS, Option.isSome_some, Option.isSome_none, Option.getD_some, Option.getD_none, LD.v_eqs, LD.v_nes, LD.v_isiBb, LD.q_C, LD.q_Var, LD.q_Bin, LD.q_Un, LD.q_tOf, LD.q_tCmp, LD.q_tAnd, LD.q_tOr, LD.q_tNot, LD.q_And, LD.q_Or, LD.q_Not, LD.q_If, LD.q_Nil, LD.q_Cons, LD.q_Tup, LD.q_Lst, LD.q_LstM, LD.q_Call, LD.q_Meth, LD.q_Attr, LD.q_Blt, LD.q_Comp, LD.q_iOf, LD.srcK_s, LD.v_truB, LD.v_truL, LD.v_truN, LD.v_srcL, LD.v_neg, LD.q_iRange, LD.q_Next, LD.q_Seq, LD.q_Expr, LD.q_Ret, LD.q_RetN, LD.q_SIf, LD.q_Bk, LD.q_Ct, LD.q_Asg, LD.q_Nm, LD.q_Sub, LD.q_Del, LD.q_Fld, LD.q_Dic, LD.q_For, LD.wipeD, Bool.not_true, Bool.not_false, LD.ifT, LD.le0, LD.le1, LD.le2, LD.le3, LD.le4, LD.le5, LD.le6, LD.cmpK_l, LD.nn_n, LD.nn_i, LD.nn_t, LD.nn_l, LD.nn_r, LD.nn_b, LD.nn_s, LD.nonK_n, LD.okK_o, LD.bind_k, LD.bind_b, LD.bind_e, LD.bindS_k, LD.bindS_e, LD.ofO_s, LD.getV_s, LD.truK_s, LD.blK_b, LD.refK_r, LD.insK_i, LD.lookK_s, LD.lookK_n, LD.refS_r, LD.insS_i, LD.lookS_s, LD.seq_n, LD.seq_r, LD.seq_b, LD.seq_c, LD.seq_e, LD.storeK_s, LD.memK_s, LD.endF_n, LD.endF_r, LD.endF_e, LD.pick_t, LD.pick_f, LD.finL_f, LD.finL_t, LD.v_add, LD.v_sub, LD.v_mulR, LD.v_fdiv, LD.v_mod, LD.v_int, LD.v_lt, LD.v_le, LD.v_gt, LD.v_ge, LD.v_eq, LD.v_ne, LD.v_len, LD.v_tix, LD.v_lix, LD.v_rix, LD.rixK_l, LD.rixK_d, LD.v_isN, LD.v_isnN, LD.v_isNone, LD.v_isNoneN, LD.startD, List.length_cons, List.length_nil, List.map_cons, List.map_nil, List.cons_append, List.nil_append, List.append_nil, List.getElem?_cons_zero, List.getElem?_cons_succ, List.set_cons_zero, List.set_cons_succ, List.replicate_succ, List.replicate_zero, Nat.reduceAdd, Nat.reduceSub, Nat.reduceBEq, Int.reduceLT, Int.reduceNeg, Int.reduceLE, Nat.reduceLeDiff, Nat.reduceLT, List.lookup_cons, List.lookup_nil, beq_self_eq_true, Option.map_some, Option.map_none, nd1, num1, hC, hs, beq_iff_eq.mpr hk1, bound_eq, e1, nn_v]
        · simp only [LD.v_lenO, LD.v_eqQi, LD.v_neQi, LD.q_Ins, LD.q_App, LD.okS_t, LD.v_isLst, LD.lstK_s, LD.v_app, LD.q_Rev, LD.lsK_s, LD.q_Get, LD.getKK_s, LD.v_lsL, LD.v_keyI, LD.v_keyS, Option.isSome_some, Option.isSome_none, Option.getD_some, Option.getD_none, LD.v_eqs, LD.v_nes, LD.v_isiBb, LD.q_C, LD.q_Var, LD.q_Bin, LD.q_Un, LD.q_tOf, LD.q_tCmp, LD.q_tAnd, LD.q_tOr, LD.q_tNot, LD.q_And, LD.q_Or, LD.q_Not, LD.q_If, LD.q_Nil, LD.q_Cons, LD.q_Tup, LD.q_Lst, LD.q_LstM, LD.q_Call, LD.q_Meth, LD.q_Attr, LD.q_Blt, LD.q_Comp, LD.q_iOf, LD.srcK_s, LD.v_truB, LD.v_truL, LD.v_truN, LD.v_srcL, LD.v_neg, LD.q_iRange, LD.q_Next, LD.q_Seq, LD.q_Expr, LD.q_Ret, LD.q_RetN, LD.q_SIf, LD.q_Bk, LD.q_Ct, LD.q_Asg, LD.q_Nm, LD.q_Sub, LD.q_Del, LD.q_Fld, LD.q_Dic, LD.q_For, LD.wipeD, Bool.not_true, Bool.not_false, LD.ifT, LD.le0, LD.le1, LD.le2, LD.le3, LD.le4, LD.le5, LD.le6, LD.cmpK_l, LD.nn_n, LD.nn_i, LD.nn_t, LD.nn_l, LD.nn_r, LD.nn_b, LD.nn_s, LD.nonK_n, LD.okK_o, LD.bind_k, LD.bind_b, LD.bind_e, LD.bindS_k, LD.bindS_e, LD.ofO_s, LD.getV_s, LD.truK_s, LD.blK_b, LD.refK_r, LD.insK_i, LD.lookK_s, LD.lookK_n, LD.refS_r, LD.insS_i, LD.lookS_s, LD.seq_n, LD.seq_r, LD.seq_b, LD.seq_c, LD.seq_e, LD.storeK_s, LD.memK_s, LD.endF_n, LD.endF_r, LD.endF_e, LD.pick_t, LD.pick_f, LD.finL_f, LD.finL_t, LD.v_add, LD.v_sub, LD.v_mulR, LD.v_fdiv, LD.v_mod, LD.v_int, LD.v_lt, LD.v_le, LD.v_gt, LD.v_ge, LD.v_eq, LD.v_ne, LD.v_len, LD.v_tix, LD.v_lix, LD.v_rix, LD.rixK_l, LD.rixK_d, LD.v_isN, LD.v_isnN, LD.v_isNone, LD.v_isNoneN, LD.startD, List.length_cons, List.length_nil, List.map_cons, List.map_nil, List.cons_append, List.nil_append, List.append_nil, List.getElem?_cons_zero, List.getElem?_cons_succ, List.set_cons_zero, List.set_cons_succ, List.replicate_succ, List.replicate_zero, Nat.reduceAdd, Nat.reduceSub, Nat.reduceBEq, Int.reduceLT, Int.reduceNeg, Int.reduceLE, Nat.reduceLeDiff, Nat.reduceLT, List.lookup_cons, List.lookup_nil, beq_self_eq_true, Option.map_some, Option.map_none, nd1, num1, hC, hs, beq_eq_false_iff_ne.mpr hk1]
      · rfl
      · have hset : setV before (.el n tag ats kids, sh) k = v := by
          unfold setV
          show (if k = "select" ∧ bndE ats k = none then pickV (rawV before (.el n tag ats kids, sh) k) (freeOf (elL kids sh)) else _) = _
          rw [if_neg hsel, hr]
        show updK f n (k, v) m = updK f n (k, setV before (.el n tag ats kids, sh) k) m
        rw [hset]
end K65
namespace K65
open PySem PySem.Spec PyProof.Rows L2 LD
mutual
theorem elN_sub : ∀ (a : Nd) (d : Bool), ∀ q ∈ elN a d, htL (kidsOf q.1) < htN a ∧ (numsL (kidsOf q.1)).length < (numsN a).length
  | .txt _ _, d, q, h => by rw [elN] at h; cases h
  | .el n tag ats kids, d, q, h => by
    rw [elN, List.mem_cons] at h
    rw [htN, numsN, List.length_cons]
    rcases h with rfl | h
    · show htL kids < _ ∧ (numsL kids).length < _
      omega
    · have := elL_sub kids _ q h
      omega
theorem elL_sub : ∀ (l : List Nd) (d : Bool), ∀ q ∈ elL l d, htL (kidsOf q.1) < htL l ∧ (numsL (kidsOf q.1)).length < (numsL l).length
  | [], d, q, h => by rw [elL] at h; cases h
  | a :: r, d, q, h => by
    rw [elL, List.mem_append] at h
    rw [htL, numsL, List.length_append]
    rcases h with h | h
    · have := elN_sub a d q h
      omega
    · have := elL_sub r d q h
      omega
end
def resK (before : Kn) (doc : List Nd) : Kn := (elL doc false).foldl (stepK before) (fun _ => none)
theorem settle_loop {C κ κ' i : Nat} {a1 : Option D} {kvs : List (Key × D)} {before : Kn} {rows : List (Nd × Bool)} (ok : KOk kvs before) : ∀ (qs : List (Nd × Bool)) (M : Mem) (kvs' : List (Key × D)) (f : Kn) (x3 x4 x5 x6 : Option D), (∀ q ∈ qs, isEl q.1 = true ∧ htL (kidsOf q.1) < 30 ∧ (numsL (kidsOf q.1)).length < 1000) →
    M[C]? = some (.ins 0 [some (.ref κ')]) → M[κ]? = some (.dic kvs) → κ ≠ κ' → M[κ']? = some (.dic kvs') → KOk kvs' f → kvs'.length + qs.length < 1500 → M[i]? = some (.lst (rows.map prE)) →
    ∃ M' kvs2 x3' x4' x5' x6', forV (mutChk i (rows.map prE)) (gTp [3, 4]) β_Controls_settle_3 (qs.map prE) [some (.ref C), a1, some (.ref κ), x3, x4, x5, x6] M = .nx [some (.ref C), a1, some (.ref κ), x3', x4', x5', x6'] M' ∧ M'[κ']? = some (.dic kvs2) ∧ KOk kvs2 (qs.foldl (stepK before) f) ∧ kvs2.length ≤ kvs'.length + qs.length ∧ ∀ (j : Nat) o, j ≠ κ' → M[j]? = some o → M'[j]? = some o
  | [], M, kvs', f, x3, x4, x5, x6, _, hC, hK, hne, hK', ok', hl, hi => ⟨M, kvs', x3, x4, x5, x6, forV_n (eqb_mut hi), hK', ok', by simp, fun j o _ h => h⟩
  | q :: qs, M, kvs', f, x3, x4, x5, x6, hq, hC, hK, hne, hK', ok', hl, hi => by
    obtain ⟨h1, h2, h3⟩ := hq q List.mem_cons_self
    rw [List.length_cons] at hl
    obtain ⟨M1, kvs1, y5, y6, e1, e2, e3, e4, e5⟩ := settle_body (a1 := a1) (x5 := x5) (x6 := x6) (sh := q.2) h1 hC hK ok hK' ok' (by omega) h2 h3
    have niC : C ≠ κ' := fun z => by rw [z, hK'] at hC; cases hC
    have nii : i ≠ κ' := fun z => by rw [z, hK'] at hi; cases hi
    obtain ⟨M', kvs2, z3, z4, z5, z6, f1, f2, f3, f4, f5⟩ := settle_loop (C := C) (a1 := a1) ok qs M1 kvs1 (stepK before f q) (some (ndD q.1)) (some (.bl q.2)) y5 y6 (fun u hu => hq u (List.mem_cons_of_mem _ hu)) (e5 C _ niC hC) (e5 κ _ hne hK) hne e2 e3 (by omega) (e5 i _ nii hi)
    refine ⟨M', kvs2, z3, z4, z5, z6, ?_, f2, f3, by rw [List.length_cons]; omega, fun j o hj hm => f5 j o hj (e5 j o hj hm)⟩
    rw [List.map_cons]
    exact (forV_c (eqb_mut hi) gTp2 e1).trans f1
/-- a document that is walked -/
structure DocOk (doc : List Nd) : Prop where
  ht : htL doc < 30
  ln : (numsL doc).length < 1000
  nd : (numsL doc).Nodup
theorem csettle_eq {M : Mem} {C κ : Nat} {kvs : List (Key × D)} {before : Kn} {doc : List Nd} (dk : DocOk doc) (hC : M[C]? = some (.ins 0 [some (.ref κ)])) (hK : M[κ]? = some (.dic kvs)) (ok : KOk kvs before) :
    ∃ M' κ' kvs', φ_Controls_settle [.ref C, .tup (doc.map ndD)] M = .ok .non M' ∧ M'[C]? = some (.ins 0 [some (.ref κ')]) ∧ M'[κ']? = some (.dic kvs') ∧ KOk kvs' (resK before doc) ∧ kvs'.length ≤ 1000 ∧ ∀ (i : Nat) o, i ≠ C → M[i]? = some o → M'[i]? = some o := by
  have hCl := lt_of hC
  have g1 : (M ++ [DO.dic []])[C]? = some (.ins 0 [some (.ref κ)]) := by rw [app_old hCl]; exact hC
  let M1 : Mem := (M ++ [DO.dic []]).set C (.ins 0 [some (.ref M.length)])
  have l1 : M1.length = M.length + 1 := by show ((M ++ _).set _ _).length = _; rw [List.length_set, List.length_append] <;> rfl
  have gC : M1[C]? = some (.ins 0 [some (.ref M.length)]) := set_is g1
  have gK' : M1[M.length]? = some (.dic []) := by show ((M ++ _).set _ _)[_]? = _; rw [set_at (by omega)]; exact app_at
  have fr1 : ∀ (i : Nat) o, i ≠ C → M[i]? = some o → M1[i]? = some o := fun i o hi hm => by show ((M ++ _).set _ _)[_]? = _; rw [set_at (fun z => hi z.symm), app_old (lt_of hm)]; exact hm
  have nKC : κ ≠ C := fun z => by rw [z, hC] at hK; cases hK
  have gK := fr1 κ _ nKC hK
  obtain ⟨i, M2, e1, e2, e3, e4⟩ := elements_eq 30 doc M1 false dk.ht dk.ln
  have fr2 : ∀ (j : Nat) o, M1[j]? = some o → M2[j]? = some o := fun j o hj => by rw [e4 j (lt_of hj)]; exact hj
  have hln := elL_len doc false
  have dl := dk.ln
  obtain ⟨M', kvs2, z3, z4, z5, z6, f1, f2, f3, f4, f5⟩ := settle_loop (C := C) (κ := κ) (κ' := M.length) (i := i) (a1 := some (.tup (doc.map ndD))) (rows := elL doc false) ok (elL doc false) M2 [] (fun _ => none) none none none none (fun q hq => by
    have h1 := elL_el doc false q hq
    have h2 := elL_sub doc false q hq
    have := dk.ht
    exact ⟨h1, by omega, by omega⟩) (fr2 _ _ gC) (fr2 _ _ gK) (by have := lt_of hK; omega) (fr2 _ _ gK') KOk.nil (by show 0 + _ < _; omega) e2
  refine ⟨M', M.length, kvs2, ?_, f5 C _ (by omega) (fr2 _ _ gC), f2, f3, by rw [List.length_nil] at f4; omega, fun j o hj hm => f5 j o (by have := lt_of hm; omega) (fr2 _ _ (fr1 j o hj hm))⟩
  have hM1 : (M ++ [DO.dic []]).set C (.ins 0 [some (.ref M.length)]) = M1 := rfl
  unfold φ_Controls_settle
  refine run_def rfl ?_
  unfold ψ_Controls_settle
  simp only [LD.v_lenO, LD.v_eqQi, LD.v_neQi, LD.q_Ins, LD.q_App, LD.okS_t, LD.v_isLst, LD.lstK_s, LD.v_app, LD.q_Rev, LD.lsK_s, LD.q_Get, LD.getKK_s, LD.v_lsL, LD.v_keyI, LD.v_keyS, Option.isSome_some, Option.isSome_none, Option.getD_some, Option.getD_none, LD.v_eqs, LD.v_nes, LD.v_isiBb, LD.q_C, LD.q_Var, LD.q_Bin, LD.q_Un, LD.q_tOf, LD.q_tCmp, LD.q_tAnd, LD.q_tOr, LD.q_tNot, LD.q_And, LD.q_Or, LD.q_Not, LD.q_If, LD.q_Nil, LD.q_Cons, LD.q_Tup, LD.q_Lst, LD.q_LstM, LD.q_Call, LD.q_Meth, LD.q_Attr, LD.q_Blt, LD.q_Comp, LD.q_iOf, LD.srcK_s, LD.v_truB, LD.v_truL, LD.v_truN, LD.v_srcL, LD.v_neg, LD.q_iRange, LD.q_Next, LD.q_Seq, LD.q_Expr, LD.q_Ret, LD.q_RetN, LD.q_SIf, LD.q_Bk, LD.q_Ct, LD.q_Asg, LD.q_Nm, LD.q_Sub, LD.q_Del, LD.q_Fld, LD.q_Dic, LD.q_For, LD.wipeD, Bool.not_true, Bool.not_false, LD.ifT, LD.le0, LD.le1, LD.le2, LD.le3, LD.le4, LD.le5, LD.le6, LD.cmpK_l, LD.nn_n, LD.nn_i, LD.nn_t, LD.nn_l, LD.nn_r, LD.nn_b, LD.nn_s, LD.nonK_n, LD.okK_o, LD.bind_k, LD.bind_b, LD.bind_e, LD.bindS_k, LD.bindS_e, LD.ofO_s, LD.getV_s, LD.truK_s, LD.blK_b, LD.refK_r, LD.insK_i, LD.lookK_s, LD.lookK_n, LD.refS_r, LD.insS_i, LD.lookS_s, LD.seq_n, LD.seq_r, LD.seq_b, LD.seq_c, LD.seq_e, LD.storeK_s, LD.memK_s, LD.endF_n, LD.endF_r, LD.endF_e, LD.pick_t, LD.pick_f, LD.finL_f, LD.finL_t, LD.v_add, LD.v_sub, LD.v_mulR, LD.v_fdiv, LD.v_mod, LD.v_int, LD.v_lt, LD.v_le, LD.v_gt, LD.v_ge, LD.v_eq, LD.v_ne, LD.v_len, LD.v_tix, LD.v_lix, LD.v_rix, LD.rixK_l, LD.rixK_d, LD.v_isN, LD.v_isnN, LD.v_isNone, LD.v_isNoneN, LD.startD, List.length_cons, List.length_nil, List.map_cons, List.map_nil, List.cons_append, List.nil_append, List.append_nil, List.getElem?_cons_zero, List.getElem?_cons_succ, List.set_cons_zero, List.set_cons_succ, List.replicate_succ, List.replicate_zero, Nat.reduceAdd, Nat.reduceSub, Nat.reduceBEq, Int.reduceLT, Int.reduceNeg, Int.reduceLE, Nat.reduceLeDiff, Nat.reduceLT, List.lookup_cons, List.lookup_nil, beq_self_eq_true, Option.map_some, Option.map_none, hC, g1, hM1, e1, v_srcR e2, f1]
/-! ### the root -/
structure St (M : Mem) (R C S : Nat) (doc : List Nd) (prev : List Str) (f : Kn) (sent : List D) : Prop where
  hR : M[R]? = some (.ins 1 [some (.tup (doc.map ndD)), some (.ref C), some (.lst (prev.map .str)), some (.ref S)])
  hC : ∃ κ kvs, M[C]? = some (.ins 0 [some (.ref κ)]) ∧ M[κ]? = some (.dic kvs) ∧ KOk kvs f ∧ kvs.length ≤ 1000
  hS : M[S]? = some (.lst sent)
/-- what lies there and is neither a dict nor an instance stays, but the list at S -/
def Keep (S : Nat) (M M' : Mem) : Prop := ∀ (i : Nat) xs, i ≠ S → M[i]? = some (.lst xs) → M'[i]? = some (.lst xs)
theorem Keep.refl {S : Nat} {M : Mem} : Keep S M M := fun _ _ _ h => h
theorem Keep.trans {S : Nat} {M M' M'' : Mem} (a : Keep S M M') (b : Keep S M' M'') : Keep S M M'' := fun i xs hi h => b i xs hi (a i xs hi h)
theorem Keep.ext {S : Nat} {M M' : Mem} (h : ∀ j, j < M.length → M'[j]? = M[j]?) : Keep S M M' := fun i xs _ hm => by rw [h i (lt_of hm)]; exact hm
theorem St.ext {M M' : Mem} {R C S : Nat} {doc : List Nd} {prev : List Str} {f : Kn} {sent : List D} (s : St M R C S doc prev f sent) (h : ∀ j, j < M.length → M'[j]? = M[j]?) : St M' R C S doc prev f sent := by
  have g : ∀ {i : Nat} {o : DO}, M[i]? = some o → M'[i]? = some o := fun {i o} hm => by rw [h i (lt_of hm)]; exact hm
  obtain ⟨κ, kvs, h1, h2, h3, h4⟩ := s.hC
  exact ⟨g s.hR, ⟨κ, kvs, g h1, g h2, h3, h4⟩, g s.hS⟩
theorem settle_eq {M : Mem} {R C S : Nat} {doc : List Nd} {prev : List Str} {f : Kn} {sent : List D} (dk : DocOk doc) (s : St M R C S doc prev f sent) : ∃ M', φ_settle [.ref R] M = .ok .non M' ∧ St M' R C S doc prev (resK f doc) sent ∧ Keep S M M' := by
  obtain ⟨κ, kvs, h1, h2, h3, h4⟩ := s.hC
  obtain ⟨M', κ', kvs', e1, e2, e3, e4, e5, e6⟩ := csettle_eq dk h1 h2 h3
  have hR := s.hR
  have nR : R ≠ C := fun z => by rw [z, h1] at hR; cases hR
  have nS : S ≠ C := fun z => by have := s.hS; rw [z, h1] at this; cases this
  refine ⟨M', ?_, ⟨e6 R _ nR hR, ⟨κ', kvs', e2, e3, e4, e5⟩, e6 S _ nS s.hS⟩, fun i xs hi hm => e6 i _ (fun z => by rw [z, h1] at hm; cases hm) hm⟩
  unfold φ_settle
  refine run_def rfl ?_
  unfold ψ_settle
  simp only [LD.v_lenO, LD.v_eqQi, LD.v_neQi, LD.q_Ins, LD.q_App, LD.okS_t, LD.v_isLst, LD.lstK_s, LD.v_app, LD.q_Rev, LD.lsK_s, LD.q_Get, LD.getKK_s, LD.v_lsL, LD.v_keyI, LD.v_keyS, Option.isSome_some, Option.isSome_none, Option.getD_some, Option.getD_none, LD.v_eqs, LD.v_nes, LD.v_isiBb, LD.q_C, LD.q_Var, LD.q_Bin, LD.q_Un, LD.q_tOf, LD.q_tCmp, LD.q_tAnd, LD.q_tOr, LD.q_tNot, LD.q_And, LD.q_Or, LD.q_Not, LD.q_If, LD.q_Nil, LD.q_Cons, LD.q_Tup, LD.q_Lst, LD.q_LstM, LD.q_Call, LD.q_Meth, LD.q_Attr, LD.q_Blt, LD.q_Comp, LD.q_iOf, LD.srcK_s, LD.v_truB, LD.v_truL, LD.v_truN, LD.v_srcL, LD.v_neg, LD.q_iRange, LD.q_Next, LD.q_Seq, LD.q_Expr, LD.q_Ret, LD.q_RetN, LD.q_SIf, LD.q_Bk, LD.q_Ct, LD.q_Asg, LD.q_Nm, LD.q_Sub, LD.q_Del, LD.q_Fld, LD.q_Dic, LD.q_For, LD.wipeD, Bool.not_true, Bool.not_false, LD.ifT, LD.le0, LD.le1, LD.le2, LD.le3, LD.le4, LD.le5, LD.le6, LD.cmpK_l, LD.nn_n, LD.nn_i, LD.nn_t, LD.nn_l, LD.nn_r, LD.nn_b, LD.nn_s, LD.nonK_n, LD.okK_o, LD.bind_k, LD.bind_b, LD.bind_e, LD.bindS_k, LD.bindS_e, LD.ofO_s, LD.getV_s, LD.truK_s, LD.blK_b, LD.refK_r, LD.insK_i, LD.lookK_s, LD.lookK_n, LD.refS_r, LD.insS_i, LD.lookS_s, LD.seq_n, LD.seq_r, LD.seq_b, LD.seq_c, LD.seq_e, LD.storeK_s, LD.memK_s, LD.endF_n, LD.endF_r, LD.endF_e, LD.pick_t, LD.pick_f, LD.finL_f, LD.finL_t, LD.v_add, LD.v_sub, LD.v_mulR, LD.v_fdiv, LD.v_mod, LD.v_int, LD.v_lt, LD.v_le, LD.v_gt, LD.v_ge, LD.v_eq, LD.v_ne, LD.v_len, LD.v_tix, LD.v_lix, LD.v_rix, LD.rixK_l, LD.rixK_d, LD.v_isN, LD.v_isnN, LD.v_isNone, LD.v_isNoneN, LD.startD, List.length_cons, List.length_nil, List.map_cons, List.map_nil, List.cons_append, List.nil_append, List.append_nil, List.getElem?_cons_zero, List.getElem?_cons_succ, List.set_cons_zero, List.set_cons_succ, List.replicate_succ, List.replicate_zero, Nat.reduceAdd, Nat.reduceSub, Nat.reduceBEq, Int.reduceLT, Int.reduceNeg, Int.reduceLE, Nat.reduceLeDiff, Nat.reduceLT, List.lookup_cons, List.lookup_nil, beq_self_eq_true, Option.map_some, Option.map_none, hR, h1, e1]
theorem shown_eq {M : Mem} {R C S : Nat} {doc : List Nd} {prev : List Str} {f : Kn} {sent : List D} (s : St M R C S doc prev f sent) (n : Int) : φ_Controls_shown [.ref C, .int n] M = .ok (ovD ((f n).map (·.2))) M := by
  obtain ⟨κ, kvs, h1, h2, h3, h4⟩ := s.hC
  have ei := in_kn (n := n) (b := false) (tb := (0, φ_Controls___contains__) :: []) h2 h3
  unfold φ_Controls_shown
  refine run_def rfl ?_
  unfold ψ_Controls_shown
  cases hf : f n with
  | none =>
    rw [hf] at ei
    simp only [LD.v_lenO, LD.v_eqQi, LD.v_neQi, LD.q_Ins, LD.q_App, LD.okS_t, LD.v_isLst, LD.lstK_s, LD.v_app, LD.q_Rev, LD.lsK_s, LD.q_Get, LD.getKK_s, LD.v_lsL, LD.v_keyI, LD.v_keyS, Option.isSome_some, Option.isSome_none, Option.getD_some, Option.getD_none, LD.v_eqs, LD.v_nes, LD.v_isiBb, LD.q_C, LD.q_Var, LD.q_Bin, LD.q_Un, LD.q_tOf, LD.q_tCmp, LD.q_tAnd, LD.q_tOr, LD.q_tNot, LD.q_And, LD.q_Or, LD.q_Not, LD.q_If, LD.q_Nil, LD.q_Cons, LD.q_Tup, LD.q_Lst, LD.q_LstM, LD.q_Call, LD.q_Meth, LD.q_Attr, LD.q_Blt, LD.q_Comp, LD.q_iOf, LD.srcK_s, LD.v_truB, LD.v_truL, LD.v_truN, LD.v_srcL, LD.v_neg, LD.q_iRange, LD.q_Next, LD.q_Seq, LD.q_Expr, LD.q_Ret, LD.q_RetN, LD.q_SIf, LD.q_Bk, LD.q_Ct, LD.q_Asg, LD.q_Nm, LD.q_Sub, LD.q_Del, LD.q_Fld, LD.q_Dic, LD.q_For, LD.wipeD, Bool.not_true, Bool.not_false, LD.ifT, LD.le0, LD.le1, LD.le2, LD.le3, LD.le4, LD.le5, LD.le6, LD.cmpK_l, LD.nn_n, LD.nn_i, LD.nn_t, LD.nn_l, LD.nn_r, LD.nn_b, LD.nn_s, LD.nonK_n, LD.okK_o, LD.bind_k, LD.bind_b, LD.bind_e, LD.bindS_k, LD.bindS_e, LD.ofO_s, LD.getV_s, LD.truK_s, LD.blK_b, LD.refK_r, LD.insK_i, LD.lookK_s, LD.lookK_n, LD.refS_r, LD.insS_i, LD.lookS_s, LD.seq_n, LD.seq_r, LD.seq_b, LD.seq_c, LD.seq_e, LD.storeK_s, LD.memK_s, LD.endF_n, LD.endF_r, LD.endF_e, LD.pick_t, LD.pick_f, LD.finL_f, LD.finL_t, LD.v_add, LD.v_sub, LD.v_mulR, LD.v_fdiv, LD.v_mod, LD.v_int, LD.v_lt, LD.v_le, LD.v_gt, LD.v_ge, LD.v_eq, LD.v_ne, LD.v_len, LD.v_tix, LD.v_lix, LD.v_rix, LD.rixK_l, LD.rixK_d, LD.v_isN, LD.v_isnN, LD.v_isNone, LD.v_isNoneN, LD.startD, List.length_cons, List.length_nil, List.map_cons, List.map_nil, List.cons_append, List.nil_append, List.append_nil, List.getElem?_cons_zero, List.getElem?_cons_succ, List.set_cons_zero, List.set_cons_succ, List.replicate_succ, List.replicate_zero, Nat.reduceAdd, Nat.reduceSub, Nat.reduceBEq, Int.reduceLT, Int.reduceNeg, Int.reduceLE, Nat.reduceLeDiff, Nat.reduceLT, List.lookup_cons, List.lookup_nil, beq_self_eq_true, Option.map_some, Option.map_none, h1, ei, bn4]
    rfl
  | some p =>
    rw [hf] at ei
    have hat := dic_at (M := M) h3 hf
    simp only [LD.v_lenO, LD.v_eqQi, LD.v_neQi, LD.q_Ins, LD.q_App, LD.okS_t, LD.v_isLst, LD.lstK_s, LD.v_app, LD.q_Rev, LD.lsK_s, LD.q_Get, LD.getKK_s, LD.v_lsL, LD.v_keyI, LD.v_keyS, Option.isSome_some, Option.isSome_none, Option.getD_some, Option.getD_none, LD.v_eqs, LD.v_nes, LD.v_isiBb, LD.q_C, LD.q_Var, LD.q_Bin, LD.q_Un, LD.q_tOf, LD.q_tCmp, LD.q_tAnd, LD.q_tOr, LD.q_tNot, LD.q_And, LD.q_Or, LD.q_Not, LD.q_If, LD.q_Nil, LD.q_Cons, LD.q_Tup, LD.q_Lst, LD.q_LstM, LD.q_Call, LD.q_Meth, LD.q_Attr, LD.q_Blt, LD.q_Comp, LD.q_iOf, LD.srcK_s, LD.v_truB, LD.v_truL, LD.v_truN, LD.v_srcL, LD.v_neg, LD.q_iRange, LD.q_Next, LD.q_Seq, LD.q_Expr, LD.q_Ret, LD.q_RetN, LD.q_SIf, LD.q_Bk, LD.q_Ct, LD.q_Asg, LD.q_Nm, LD.q_Sub, LD.q_Del, LD.q_Fld, LD.q_Dic, LD.q_For, LD.wipeD, Bool.not_true, Bool.not_false, LD.ifT, LD.le0, LD.le1, LD.le2, LD.le3, LD.le4, LD.le5, LD.le6, LD.cmpK_l, LD.nn_n, LD.nn_i, LD.nn_t, LD.nn_l, LD.nn_r, LD.nn_b, LD.nn_s, LD.nonK_n, LD.okK_o, LD.bind_k, LD.bind_b, LD.bind_e, LD.bindS_k, LD.bindS_e, LD.ofO_s, LD.getV_s, LD.truK_s, LD.blK_b, LD.refK_r, LD.insK_i, LD.lookK_s, LD.lookK_n, LD.refS_r, LD.insS_i, LD.lookS_s, LD.seq_n, LD.seq_r, LD.seq_b, LD.seq_c, LD.seq_e, LD.storeK_s, LD.memK_s, LD.endF_n, LD.endF_r, LD.endF_e, LD.pick_t, LD.pick_f, LD.finL_f, LD.finL_t, LD.v_add, LD.v_sub, LD.v_mulR, LD.v_fdiv, LD.v_mod, LD.v_int, LD.v_lt, LD.v_le, LD.v_gt, LD.v_ge, LD.v_eq, LD.v_ne, LD.v_len, LD.v_tix, LD.v_lix, LD.v_rix, LD.rixK_l, LD.rixK_d, LD.v_isN, LD.v_isnN, LD.v_isNone, LD.v_isNoneN, LD.startD, List.length_cons, List.length_nil, List.map_cons, List.map_nil, List.cons_append, List.nil_append, List.append_nil, List.getElem?_cons_zero, List.getElem?_cons_succ, List.set_cons_zero, List.set_cons_succ, List.replicate_succ, List.replicate_zero, Nat.reduceAdd, Nat.reduceSub, Nat.reduceBEq, Int.reduceLT, Int.reduceNeg, Int.reduceLE, Nat.reduceLeDiff, Nat.reduceLT, List.lookup_cons, List.lookup_nil, beq_self_eq_true, Option.map_some, Option.map_none, h1, ei, bn3, h2, hat, prK1]
    rfl
theorem show_eq {M : Mem} {R C S : Nat} {doc : List Nd} {prev : List Str} {f : Kn} {sent : List D} {n : Int} {v : Vl} {p : Str × Vl} (s : St M R C S doc prev f sent) (hf : f n = some p) : ∃ M', φ_Controls_show [.ref C, .int n, vlD v] M = .ok .non M' ∧ St M' R C S doc prev (updK f n (p.1, v)) sent ∧ Keep S M M' := by
  obtain ⟨κ, kvs, h1, h2, h3, h4⟩ := s.hC
  have ei := in_kn (n := n) (b := false) (tb := (0, φ_Controls___contains__) :: []) h2 h3
  rw [hf] at ei
  have hat := dic_at (M := M) h3 hf
  have hL : kvs.length < LINE := by have := big; omega
  have hs := sub_dic (n := n) (d := prK (p.1, v)) h2 hL
  have prk : prK (p.1, v) = .tup [.str p.1, vlD v] := rfl
  have hl := put_same (kvs := kvs) (k := .inl n) (d := prK (p.1, v)) (by rw [h3 n, hf] <;> rfl)
  refine ⟨M.set κ (.dic (setD.putK' kvs (.inl n) (prK (p.1, v)))), ?_, ⟨set_ne h2 s.hR (fun z => by cases z), ⟨κ, _, set_ne h2 h1 (fun z => by cases z), set_is h2, h3.put n _, by omega⟩, set_ne h2 s.hS (fun z => by cases z)⟩, fun i xs _ hm => set_ne h2 hm (fun z => by cases z)⟩
  rw [prk] at hs ⊢
  unfold φ_Controls_show
  refine run_def rfl ?_
  unfold ψ_Controls_show
  simp only [LD.v_lenO, LD.v_eqQi, LD.v_neQi, LD.q_Ins, LD.q_App, LD.okS_t, LD.v_isLst, LD.lstK_s, LD.v_app, LD.q_Rev, LD.lsK_s, LD.q_Get, LD.getKK_s, LD.v_lsL, LD.v_keyI, LD.v_keyS, Option.isSome_some, Option.isSome_none, Option.getD_some, Option.getD_none, LD.v_eqs, LD.v_nes, LD.v_isiBb, LD.q_C, LD.q_Var, LD.q_Bin, LD.q_Un, LD.q_tOf, LD.q_tCmp, LD.q_tAnd, LD.q_tOr, LD.q_tNot, LD.q_And, LD.q_Or, LD.q_Not, LD.q_If, LD.q_Nil, LD.q_Cons, LD.q_Tup, LD.q_Lst, LD.q_LstM, LD.q_Call, LD.q_Meth, LD.q_Attr, LD.q_Blt, LD.q_Comp, LD.q_iOf, LD.srcK_s, LD.v_truB, LD.v_truL, LD.v_truN, LD.v_srcL, LD.v_neg, LD.q_iRange, LD.q_Next, LD.q_Seq, LD.q_Expr, LD.q_Ret, LD.q_RetN, LD.q_SIf, LD.q_Bk, LD.q_Ct, LD.q_Asg, LD.q_Nm, LD.q_Sub, LD.q_Del, LD.q_Fld, LD.q_Dic, LD.q_For, LD.wipeD, Bool.not_true, Bool.not_false, LD.ifT, LD.le0, LD.le1, LD.le2, LD.le3, LD.le4, LD.le5, LD.le6, LD.cmpK_l, LD.nn_n, LD.nn_i, LD.nn_t, LD.nn_l, LD.nn_r, LD.nn_b, LD.nn_s, LD.nonK_n, LD.okK_o, LD.bind_k, LD.bind_b, LD.bind_e, LD.bindS_k, LD.bindS_e, LD.ofO_s, LD.getV_s, LD.truK_s, LD.blK_b, LD.refK_r, LD.insK_i, LD.lookK_s, LD.lookK_n, LD.refS_r, LD.insS_i, LD.lookS_s, LD.seq_n, LD.seq_r, LD.seq_b, LD.seq_c, LD.seq_e, LD.storeK_s, LD.memK_s, LD.endF_n, LD.endF_r, LD.endF_e, LD.pick_t, LD.pick_f, LD.finL_f, LD.finL_t, LD.v_add, LD.v_sub, LD.v_mulR, LD.v_fdiv, LD.v_mod, LD.v_int, LD.v_lt, LD.v_le, LD.v_gt, LD.v_ge, LD.v_eq, LD.v_ne, LD.v_len, LD.v_tix, LD.v_lix, LD.v_rix, LD.rixK_l, LD.rixK_d, LD.v_isN, LD.v_isnN, LD.v_isNone, LD.v_isNoneN, LD.startD, List.length_cons, List.length_nil, List.map_cons, List.map_nil, List.cons_append, List.nil_append, List.append_nil, List.getElem?_cons_zero, List.getElem?_cons_succ, List.set_cons_zero, List.set_cons_succ, List.replicate_succ, List.replicate_zero, Nat.reduceAdd, Nat.reduceSub, Nat.reduceBEq, Int.reduceLT, Int.reduceNeg, Int.reduceLE, Nat.reduceLeDiff, Nat.reduceLT, List.lookup_cons, List.lookup_nil, beq_self_eq_true, Option.map_some, Option.map_none, h1, ei, bn3, h2, hat, prK0, hs]
def canP (e : Str) : Bool := !decide (e ∈ (["input", "change"] : List Str))
theorem can_eq (e : Str) (M : Mem) : φ_can_prevent [.str e] M = .ok (.bl (canP e)) M := by
  have h : inO ((0, φ_Controls___contains__) :: []) true (.str e) (.tup [.str "input", .str "change"]) M = some (.bl (decide (e ∈ (["input", "change"] : List Str)) != true), M) := by
    have : inD M (.str e) (.tup [.str "input", .str "change"]) = some (decide (e ∈ (["input", "change"] : List Str))) := by
      rw [← any_str]
      rfl
    unfold inO
    simp only [this]
    rfl
  unfold φ_can_prevent
  refine run_def rfl ?_
  unfold ψ_can_prevent canP
  simp only [LD.v_lenO, LD.v_eqQi, LD.v_neQi, LD.q_Ins, LD.q_App, LD.okS_t, LD.v_isLst, LD.lstK_s, LD.v_app, LD.q_Rev, LD.lsK_s, LD.q_Get, LD.getKK_s, LD.v_lsL, LD.v_keyI, LD.v_keyS, Option.isSome_some, Option.isSome_none, Option.getD_some, Option.getD_none, LD.v_eqs, LD.v_nes, LD.v_isiBb, LD.q_C, LD.q_Var, LD.q_Bin, LD.q_Un, LD.q_tOf, LD.q_tCmp, LD.q_tAnd, LD.q_tOr, LD.q_tNot, LD.q_And, LD.q_Or, LD.q_Not, LD.q_If, LD.q_Nil, LD.q_Cons, LD.q_Tup, LD.q_Lst, LD.q_LstM, LD.q_Call, LD.q_Meth, LD.q_Attr, LD.q_Blt, LD.q_Comp, LD.q_iOf, LD.srcK_s, LD.v_truB, LD.v_truL, LD.v_truN, LD.v_srcL, LD.v_neg, LD.q_iRange, LD.q_Next, LD.q_Seq, LD.q_Expr, LD.q_Ret, LD.q_RetN, LD.q_SIf, LD.q_Bk, LD.q_Ct, LD.q_Asg, LD.q_Nm, LD.q_Sub, LD.q_Del, LD.q_Fld, LD.q_Dic, LD.q_For, LD.wipeD, Bool.not_true, Bool.not_false, LD.ifT, LD.le0, LD.le1, LD.le2, LD.le3, LD.le4, LD.le5, LD.le6, LD.cmpK_l, LD.nn_n, LD.nn_i, LD.nn_t, LD.nn_l, LD.nn_r, LD.nn_b, LD.nn_s, LD.nonK_n, LD.okK_o, LD.bind_k, LD.bind_b, LD.bind_e, LD.bindS_k, LD.bindS_e, LD.ofO_s, LD.getV_s, LD.truK_s, LD.blK_b, LD.refK_r, LD.insK_i, LD.lookK_s, LD.lookK_n, LD.refS_r, LD.insS_i, LD.lookS_s, LD.seq_n, LD.seq_r, LD.seq_b, LD.seq_c, LD.seq_e, LD.storeK_s, LD.memK_s, LD.endF_n, LD.endF_r, LD.endF_e, LD.pick_t, LD.pick_f, LD.finL_f, LD.finL_t, LD.v_add, LD.v_sub, LD.v_mulR, LD.v_fdiv, LD.v_mod, LD.v_int, LD.v_lt, LD.v_le, LD.v_gt, LD.v_ge, LD.v_eq, LD.v_ne, LD.v_len, LD.v_tix, LD.v_lix, LD.v_rix, LD.rixK_l, LD.rixK_d, LD.v_isN, LD.v_isnN, LD.v_isNone, LD.v_isNoneN, LD.startD, List.length_cons, List.length_nil, List.map_cons, List.map_nil, List.cons_append, List.nil_append, List.append_nil, List.getElem?_cons_zero, List.getElem?_cons_succ, List.set_cons_zero, List.set_cons_succ, List.replicate_succ, List.replicate_zero, Nat.reduceAdd, Nat.reduceSub, Nat.reduceBEq, Int.reduceLT, Int.reduceNeg, Int.reduceLE, Nat.reduceLeDiff, Nat.reduceLT, List.lookup_cons, List.lookup_nil, beq_self_eq_true, Option.map_some, Option.map_none, h, bnt]
theorem send_ev_eq {M : Mem} {R C S : Nat} {doc : List Nd} {prev : List Str} {f : Kn} {sent : List D} {n : Int} {e : Str} {r : Nat} {kvs : List (Key × D)} (s : St M R C S doc prev f sent) (hr : M[r]? = some (.dic kvs)) (hl : sent.length < 100000) :
    ∃ M', φ_Rehearsal_send_event [.ref R, .int n, .str e, .ref r] M = .ok (.bl (decide (e ∈ prev) && canP e)) M' ∧ St M' R C S doc prev f (sent ++ [.tup [.int n, .str e, .dic (kvs.map (·.1)) (kvs.map (·.2))]]) ∧ Keep S M M' := by
  obtain ⟨κ, kv, h1, h2, h3, h4⟩ := s.hC
  have hR := s.hR
  have hS := s.hS
  have hL : sent.length < LINE := by have := big; omega
  have hd : dictC false [.ref r] M = some (.dic (kvs.map (·.1)) (kvs.map (·.2)), M) := by
    show (dcOf M (.ref r)).map _ = _
    rw [v_dcR hr] <;> rfl
  have gR : ∀ xs, (M.set S (.lst xs))[R]? = some (.ins 1 [some (.tup (doc.map ndD)), some (.ref C), some (.lst (prev.map .str)), some (.ref S)]) := fun xs => set_ne hS hR (fun z => by cases z)
  refine ⟨M.set S (.lst (sent ++ [.tup [.int n, .str e, .dic (kvs.map (·.1)) (kvs.map (·.2))]])), ?_, ⟨gR _, ⟨κ, kv, set_ne hS h1 (fun z => by cases z), set_ne hS h2 (fun z => by cases z), h3, h4⟩, set_is hS⟩, fun i xs hi hm => by rw [set_at (fun z => hi z.symm)]; exact hm⟩
  have hi : ∀ M : Mem, inO ((0, φ_Controls___contains__) :: []) false (.str e) (.lst (prev.map .str)) M = some (.bl (decide (e ∈ prev)), M) := fun M => by rw [in_str, bnf]
  unfold φ_Rehearsal_send_event
  refine run_def rfl ?_
  unfold ψ_Rehearsal_send_event
  cases hp : decide (e ∈ prev) with
  | true =>
    simp only [LD.v_lenO, LD.v_eqQi, LD.v_neQi, LD.q_Ins, LD.q_App, LD.okS_t, LD.v_isLst, LD.lstK_s, LD.v_app, LD.q_Rev, LD.lsK_s, LD.q_Get, LD.getKK_s, LD.v_lsL, LD.v_keyI, LD.v_keyS, Option.isSome_some, Option.isSome_none, Option.getD_some, Option.getD_none, LD.v_eqs, LD.v_nes, LD.v_isiBb, LD.q_C, LD.q_Var, LD.q_Bin, LD.q_Un, LD.q_tOf, LD.q_tCmp, LD.q_tAnd, LD.q_tOr, LD.q_tNot, LD.q_And, LD.q_Or, LD.q_Not, LD.q_If, LD.q_Nil, LD.q_Cons, LD.q_Tup, LD.q_Lst, LD.q_LstM, LD.q_Call, LD.q_Meth, LD.q_Attr, LD.q_Blt, LD.q_Comp, LD.q_iOf, LD.srcK_s, LD.v_truB, LD.v_truL, LD.v_truN, LD.v_srcL, LD.v_neg, LD.q_iRange, LD.q_Next, LD.q_Seq, LD.q_Expr, LD.q_Ret, LD.q_RetN, LD.q_SIf, LD.q_Bk, LD.q_Ct, LD.q_Asg, LD.q_Nm, LD.q_Sub, LD.q_Del, LD.q_Fld, LD.q_Dic, LD.q_For, LD.wipeD, Bool.not_true, Bool.not_false, LD.ifT, LD.le0, LD.le1, LD.le2, LD.le3, LD.le4, LD.le5, LD.le6, LD.cmpK_l, LD.nn_n, LD.nn_i, LD.nn_t, LD.nn_l, LD.nn_r, LD.nn_b, LD.nn_s, LD.nonK_n, LD.okK_o, LD.bind_k, LD.bind_b, LD.bind_e, LD.bindS_k, LD.bindS_e, LD.ofO_s, LD.getV_s, LD.truK_s, LD.blK_b, LD.refK_r, LD.insK_i, LD.lookK_s, LD.lookK_n, LD.refS_r, LD.insS_i, LD.lookS_s, LD.seq_n, LD.seq_r, LD.seq_b, LD.seq_c, LD.seq_e, LD.storeK_s, LD.memK_s, LD.endF_n, LD.endF_r, LD.endF_e, LD.pick_t, LD.pick_f, LD.finL_f, LD.finL_t, LD.v_add, LD.v_sub, LD.v_mulR, LD.v_fdiv, LD.v_mod, LD.v_int, LD.v_lt, LD.v_le, LD.v_gt, LD.v_ge, LD.v_eq, LD.v_ne, LD.v_len, LD.v_tix, LD.v_lix, LD.v_rix, LD.rixK_l, LD.rixK_d, LD.v_isN, LD.v_isnN, LD.v_isNone, LD.v_isNoneN, LD.startD, List.length_cons, List.length_nil, List.map_cons, List.map_nil, List.cons_append, List.nil_append, List.append_nil, List.getElem?_cons_zero, List.getElem?_cons_succ, List.set_cons_zero, List.set_cons_succ, List.replicate_succ, List.replicate_zero, Nat.reduceAdd, Nat.reduceSub, Nat.reduceBEq, Int.reduceLT, Int.reduceNeg, Int.reduceLE, Nat.reduceLeDiff, Nat.reduceLT, List.lookup_cons, List.lookup_nil, beq_self_eq_true, Option.map_some, Option.map_none, hR, hS, hd, appK_s hL, gR, hi, hp, can_eq, Bool.true_and]
  | false =>
    simp only [LD.v_lenO, LD.v_eqQi, LD.v_neQi, LD.q_Ins, LD.q_App, LD.okS_t, LD.v_isLst, LD.lstK_s, LD.v_app, LD.q_Rev, LD.lsK_s, LD.q_Get, LD.getKK_s, LD.v_lsL, LD.v_keyI, LD.v_keyS, Option.isSome_some, Option.isSome_none, Option.getD_some, Option.getD_none, LD.v_eqs, LD.v_nes, LD.v_isiBb, LD.q_C, LD.q_Var, LD.q_Bin, LD.q_Un, LD.q_tOf, LD.q_tCmp, LD.q_tAnd, LD.q_tOr, LD.q_tNot, LD.q_And, LD.q_Or, LD.q_Not, LD.q_If, LD.q_Nil, LD.q_Cons, LD.q_Tup, LD.q_Lst, LD.q_LstM, LD.q_Call, LD.q_Meth, LD.q_Attr, LD.q_Blt, LD.q_Comp, LD.q_iOf, LD.srcK_s, LD.v_truB, LD.v_truL, LD.v_truN, LD.v_srcL, LD.v_neg, LD.q_iRange, LD.q_Next, LD.q_Seq, LD.q_Expr, LD.q_Ret, LD.q_RetN, LD.q_SIf, LD.q_Bk, LD.q_Ct, LD.q_Asg, LD.q_Nm, LD.q_Sub, LD.q_Del, LD.q_Fld, LD.q_Dic, LD.q_For, LD.wipeD, Bool.not_true, Bool.not_false, LD.ifT, LD.le0, LD.le1, LD.le2, LD.le3, LD.le4, LD.le5, LD.le6, LD.cmpK_l, LD.nn_n, LD.nn_i, LD.nn_t, LD.nn_l, LD.nn_r, LD.nn_b, LD.nn_s, LD.nonK_n, LD.okK_o, LD.bind_k, LD.bind_b, LD.bind_e, LD.bindS_k, LD.bindS_e, LD.ofO_s, LD.getV_s, LD.truK_s, LD.blK_b, LD.refK_r, LD.insK_i, LD.lookK_s, LD.lookK_n, LD.refS_r, LD.insS_i, LD.lookS_s, LD.seq_n, LD.seq_r, LD.seq_b, LD.seq_c, LD.seq_e, LD.storeK_s, LD.memK_s, LD.endF_n, LD.endF_r, LD.endF_e, LD.pick_t, LD.pick_f, LD.finL_f, LD.finL_t, LD.v_add, LD.v_sub, LD.v_mulR, LD.v_fdiv, LD.v_mod, LD.v_int, LD.v_lt, LD.v_le, LD.v_gt, LD.v_ge, LD.v_eq, LD.v_ne, LD.v_len, LD.v_tix, LD.v_lix, LD.v_rix, LD.rixK_l, LD.rixK_d, LD.v_isN, LD.v_isnN, LD.v_isNone, LD.v_isNoneN, LD.startD, List.length_cons, List.length_nil, List.map_cons, List.map_nil, List.cons_append, List.nil_append, List.append_nil, List.getElem?_cons_zero, List.getElem?_cons_succ, List.set_cons_zero, List.set_cons_succ, List.replicate_succ, List.replicate_zero, Nat.reduceAdd, Nat.reduceSub, Nat.reduceBEq, Int.reduceLT, Int.reduceNeg, Int.reduceLE, Nat.reduceLeDiff, Nat.reduceLT, List.lookup_cons, List.lookup_nil, beq_self_eq_true, Option.map_some, Option.map_none, hR, hS, hd, appK_s hL, gR, hi, hp, can_eq, Bool.false_and]
def disW (doc : List Nd) (n : Int) : Bool := (wayL doc n).isEmpty || (wayL doc n).any dis
theorem send_eq {M : Mem} {R C S : Nat} {doc : List Nd} {prev : List Str} {f : Kn} {sent : List D} {n : Int} {e : Str} {r : Nat} {kvs : List (Key × D)} (dk : DocOk doc) (s : St M R C S doc prev f sent) (hr : M[r]? = some (.dic kvs)) (hl : sent.length < 100000) :
    ∃ M' b, φ_send [.ref R, .int n, .str e, .ref r] M = .ok (.bl b) M' ∧ (b = if disW doc n then false else (decide (e ∈ prev) && canP e)) ∧ St M' R C S doc prev f (if disW doc n then sent else sent ++ [.tup [.int n, .str e, .dic (kvs.map (·.1)) (kvs.map (·.2))]]) ∧ Keep S M M' := by
  have hR := s.hR
  have hd := disabled_eq (k := n) (M := M) dk.ht
  cases hw : disW doc n with
  | true =>
    unfold disW at hw
    rw [hw] at hd
    refine ⟨M, false, ?_, rfl, s, Keep.refl⟩
    unfold φ_send
    refine run_def rfl ?_
    unfold ψ_send
    simp only [LD.v_lenO, LD.v_eqQi, LD.v_neQi, LD.q_Ins, LD.q_App, LD.okS_t, LD.v_isLst, LD.lstK_s, LD.v_app, LD.q_Rev, LD.lsK_s, LD.q_Get, LD.getKK_s, LD.v_lsL, LD.v_keyI, LD.v_keyS, Option.isSome_some, Option.isSome_none, Option.getD_some, Option.getD_none, LD.v_eqs, LD.v_nes, LD.v_isiBb, LD.q_C, LD.q_Var, LD.q_Bin, LD.q_Un, LD.q_tOf, LD.q_tCmp, LD.q_tAnd, LD.q_tOr, LD.q_tNot, LD.q_And, LD.q_Or, LD.q_Not, LD.q_If, LD.q_Nil, LD.q_Cons, LD.q_Tup, LD.q_Lst, LD.q_LstM, LD.q_Call, LD.q_Meth, LD.q_Attr, LD.q_Blt, LD.q_Comp, LD.q_iOf, LD.srcK_s, LD.v_truB, LD.v_truL, LD.v_truN, LD.v_srcL, LD.v_neg, LD.q_iRange, LD.q_Next, LD.q_Seq, LD.q_Expr, LD.q_Ret, LD.q_RetN, LD.q_SIf, LD.q_Bk, LD.q_Ct, LD.q_Asg, LD.q_Nm, LD.q_Sub, LD.q_Del, LD.q_Fld, LD.q_Dic, LD.q_For, LD.wipeD, Bool.not_true, Bool.not_false, LD.ifT, LD.le0, LD.le1, LD.le2, LD.le3, LD.le4, LD.le5, LD.le6, LD.cmpK_l, LD.nn_n, LD.nn_i, LD.nn_t, LD.nn_l, LD.nn_r, LD.nn_b, LD.nn_s, LD.nonK_n, LD.okK_o, LD.bind_k, LD.bind_b, LD.bind_e, LD.bindS_k, LD.bindS_e, LD.ofO_s, LD.getV_s, LD.truK_s, LD.blK_b, LD.refK_r, LD.insK_i, LD.lookK_s, LD.lookK_n, LD.refS_r, LD.insS_i, LD.lookS_s, LD.seq_n, LD.seq_r, LD.seq_b, LD.seq_c, LD.seq_e, LD.storeK_s, LD.memK_s, LD.endF_n, LD.endF_r, LD.endF_e, LD.pick_t, LD.pick_f, LD.finL_f, LD.finL_t, LD.v_add, LD.v_sub, LD.v_mulR, LD.v_fdiv, LD.v_mod, LD.v_int, LD.v_lt, LD.v_le, LD.v_gt, LD.v_ge, LD.v_eq, LD.v_ne, LD.v_len, LD.v_tix, LD.v_lix, LD.v_rix, LD.rixK_l, LD.rixK_d, LD.v_isN, LD.v_isnN, LD.v_isNone, LD.v_isNoneN, LD.startD, List.length_cons, List.length_nil, List.map_cons, List.map_nil, List.cons_append, List.nil_append, List.append_nil, List.getElem?_cons_zero, List.getElem?_cons_succ, List.set_cons_zero, List.set_cons_succ, List.replicate_succ, List.replicate_zero, Nat.reduceAdd, Nat.reduceSub, Nat.reduceBEq, Int.reduceLT, Int.reduceNeg, Int.reduceLE, Nat.reduceLeDiff, Nat.reduceLT, List.lookup_cons, List.lookup_nil, beq_self_eq_true, Option.map_some, Option.map_none, hR, hd]
  | false =>
    unfold disW at hw
    rw [hw] at hd
    obtain ⟨M', e1, e2, e3⟩ := send_ev_eq (n := n) (e := e) s hr hl
    refine ⟨M', _, ?_, rfl, e2, e3⟩
    unfold φ_send
    refine run_def rfl ?_
    unfold ψ_send
    simp only [LD.v_lenO, LD.v_eqQi, LD.v_neQi, LD.q_Ins, LD.q_App, LD.okS_t, LD.v_isLst, LD.lstK_s, LD.v_app, LD.q_Rev, LD.lsK_s, LD.q_Get, LD.getKK_s, LD.v_lsL, LD.v_keyI, LD.v_keyS, Option.isSome_some, Option.isSome_none, Option.getD_some, Option.getD_none, LD.v_eqs, LD.v_nes, LD.v_isiBb, LD.q_C, LD.q_Var, LD.q_Bin, LD.q_Un, LD.q_tOf, LD.q_tCmp, LD.q_tAnd, LD.q_tOr, LD.q_tNot, LD.q_And, LD.q_Or, LD.q_Not, LD.q_If, LD.q_Nil, LD.q_Cons, LD.q_Tup, LD.q_Lst, LD.q_LstM, LD.q_Call, LD.q_Meth, LD.q_Attr, LD.q_Blt, LD.q_Comp, LD.q_iOf, LD.srcK_s, LD.v_truB, LD.v_truL, LD.v_truN, LD.v_srcL, LD.v_neg, LD.q_iRange, LD.q_Next, LD.q_Seq, LD.q_Expr, LD.q_Ret, LD.q_RetN, LD.q_SIf, LD.q_Bk, LD.q_Ct, LD.q_Asg, LD.q_Nm, LD.q_Sub, LD.q_Del, LD.q_Fld, LD.q_Dic, LD.q_For, LD.wipeD, Bool.not_true, Bool.not_false, LD.ifT, LD.le0, LD.le1, LD.le2, LD.le3, LD.le4, LD.le5, LD.le6, LD.cmpK_l, LD.nn_n, LD.nn_i, LD.nn_t, LD.nn_l, LD.nn_r, LD.nn_b, LD.nn_s, LD.nonK_n, LD.okK_o, LD.bind_k, LD.bind_b, LD.bind_e, LD.bindS_k, LD.bindS_e, LD.ofO_s, LD.getV_s, LD.truK_s, LD.blK_b, LD.refK_r, LD.insK_i, LD.lookK_s, LD.lookK_n, LD.refS_r, LD.insS_i, LD.lookS_s, LD.seq_n, LD.seq_r, LD.seq_b, LD.seq_c, LD.seq_e, LD.storeK_s, LD.memK_s, LD.endF_n, LD.endF_r, LD.endF_e, LD.pick_t, LD.pick_f, LD.finL_f, LD.finL_t, LD.v_add, LD.v_sub, LD.v_mulR, LD.v_fdiv, LD.v_mod, LD.v_int, LD.v_lt, LD.v_le, LD.v_gt, LD.v_ge, LD.v_eq, LD.v_ne, LD.v_len, LD.v_tix, LD.v_lix, LD.v_rix, LD.rixK_l, LD.rixK_d, LD.v_isN, LD.v_isnN, LD.v_isNone, LD.v_isNoneN, LD.startD, List.length_cons, List.length_nil, List.map_cons, List.map_nil, List.cons_append, List.nil_append, List.append_nil, List.getElem?_cons_zero, List.getElem?_cons_succ, List.set_cons_zero, List.set_cons_succ, List.replicate_succ, List.replicate_zero, Nat.reduceAdd, Nat.reduceSub, Nat.reduceBEq, Int.reduceLT, Int.reduceNeg, Int.reduceLE, Nat.reduceLeDiff, Nat.reduceLT, List.lookup_cons, List.lookup_nil, beq_self_eq_true, Option.map_some, Option.map_none, hR, hd, e1]
    rfl
/-- the element with an id that is not disabled -/
def elemAt (doc : List Nd) (n : Int) : Option Nd := match (wayL doc n).getLast? with
  | none => none
  | some a => if isEl a && !(wayL doc n).any dis then some a else none
def onD : Option Nd → D
  | none => .non
  | some a => ndD a
theorem element_eq {M : Mem} {R C S : Nat} {doc : List Nd} {prev : List Str} {f : Kn} {sent : List D} {n : Int} (dk : DocOk doc) (s : St M R C S doc prev f sent) : φ_element_at [.ref R, .int n] M = .ok (onD (elemAt doc n)) M := by
  have hR := s.hR
  have ew := way_eq (k := n) (M := M) 30 doc dk.ht (by decide)
  have hd := disabled_eq (k := n) (M := M) dk.ht
  unfold elemAt
  unfold φ_element_at
  refine run_def rfl ?_
  unfold ψ_element_at
  cases hw : (wayL doc n).getLast? with
  | none =>
    have h0 : wayL doc n = [] := List.getLast?_eq_none_iff.mp hw
    rw [h0] at ew
    rw [List.map_nil] at ew
    have z : ((((0 : Nat) : Int) == 0) = true) := rfl
    simp only [LD.v_lenO, LD.v_eqQi, LD.v_neQi, LD.q_Ins, LD.q_App, LD.okS_t, LD.v_isLst, LD.lstK_s, LD.v_app, LD.q_Rev, LD.lsK_s, LD.q_Get, LD.getKK_s, LD.v_lsL, LD.v_keyI, LD.v_keyS, Option.isSome_some, Option.isSome_none, Option.getD_some, Option.getD_none, LD.v_eqs, LD.v_nes, LD.v_isiBb, LD.q_C, LD.q_Var, LD.q_Bin, LD.q_Un, LD.q_tOf, LD.q_tCmp, LD.q_tAnd, LD.q_tOr, LD.q_tNot, LD.q_And, LD.q_Or, LD.q_Not, LD.q_If, LD.q_Nil, LD.q_Cons, LD.q_Tup, LD.q_Lst, LD.q_LstM, LD.q_Call, LD.q_Meth, LD.q_Attr, LD.q_Blt, LD.q_Comp, LD.q_iOf, LD.srcK_s, LD.v_truB, LD.v_truL, LD.v_truN, LD.v_srcL, LD.v_neg, LD.q_iRange, LD.q_Next, LD.q_Seq, LD.q_Expr, LD.q_Ret, LD.q_RetN, LD.q_SIf, LD.q_Bk, LD.q_Ct, LD.q_Asg, LD.q_Nm, LD.q_Sub, LD.q_Del, LD.q_Fld, LD.q_Dic, LD.q_For, LD.wipeD, Bool.not_true, Bool.not_false, LD.ifT, LD.le0, LD.le1, LD.le2, LD.le3, LD.le4, LD.le5, LD.le6, LD.cmpK_l, LD.nn_n, LD.nn_i, LD.nn_t, LD.nn_l, LD.nn_r, LD.nn_b, LD.nn_s, LD.nonK_n, LD.okK_o, LD.bind_k, LD.bind_b, LD.bind_e, LD.bindS_k, LD.bindS_e, LD.ofO_s, LD.getV_s, LD.truK_s, LD.blK_b, LD.refK_r, LD.insK_i, LD.lookK_s, LD.lookK_n, LD.refS_r, LD.insS_i, LD.lookS_s, LD.seq_n, LD.seq_r, LD.seq_b, LD.seq_c, LD.seq_e, LD.storeK_s, LD.memK_s, LD.endF_n, LD.endF_r, LD.endF_e, LD.pick_t, LD.pick_f, LD.finL_f, LD.finL_t, LD.v_add, LD.v_sub, LD.v_mulR, LD.v_fdiv, LD.v_mod, LD.v_int, LD.v_lt, LD.v_le, LD.v_gt, LD.v_ge, LD.v_eq, LD.v_ne, LD.v_len, LD.v_tix, LD.v_lix, LD.v_rix, LD.rixK_l, LD.rixK_d, LD.v_isN, LD.v_isnN, LD.v_isNone, LD.v_isNoneN, LD.startD, List.length_cons, List.length_nil, List.map_cons, List.map_nil, List.cons_append, List.nil_append, List.append_nil, List.getElem?_cons_zero, List.getElem?_cons_succ, List.set_cons_zero, List.set_cons_succ, List.replicate_succ, List.replicate_zero, Nat.reduceAdd, Nat.reduceSub, Nat.reduceBEq, Int.reduceLT, Int.reduceNeg, Int.reduceLE, Nat.reduceLeDiff, Nat.reduceLT, List.lookup_cons, List.lookup_nil, beq_self_eq_true, Option.map_some, Option.map_none, hR, ew, z]
    rfl
  | some a =>
    have hne : wayL doc n ≠ [] := fun z => by rw [z] at hw; cases hw
    have hlen : ((((wayL doc n).map ndD).length : Int) == 0) = false := beq_eq_false_iff_ne.mpr (by rw [List.length_map]; have := List.length_pos_iff.mpr hne; omega)
    have hlast : atI ((wayL doc n).map ndD) (-1) = some (ndD a) := atL (by rw [List.getLast?_map, hw] <;> rfl)
    have hemp : (wayL doc n).isEmpty = false := by
      cases h : wayL doc n with
      | nil => exact absurd h hne
      | cons _ _ => rfl
    rw [hemp, Bool.false_or] at hd
    cases ha : isEl a with
    | false =>
      simp only [LD.v_lenO, LD.v_eqQi, LD.v_neQi, LD.q_Ins, LD.q_App, LD.okS_t, LD.v_isLst, LD.lstK_s, LD.v_app, LD.q_Rev, LD.lsK_s, LD.q_Get, LD.getKK_s, LD.v_lsL, LD.v_keyI, LD.v_keyS, Option.isSome_some, Option.isSome_none, Option.getD_some, Option.getD_none, LD.v_eqs, LD.v_nes, LD.v_isiBb, LD.q_C, LD.q_Var, LD.q_Bin, LD.q_Un, LD.q_tOf, LD.q_tCmp, LD.q_tAnd, LD.q_tOr, LD.q_tNot, LD.q_And, LD.q_Or, LD.q_Not, LD.q_If, LD.q_Nil, LD.q_Cons, LD.q_Tup, LD.q_Lst, LD.q_LstM, LD.q_Call, LD.q_Meth, LD.q_Attr, LD.q_Blt, LD.q_Comp, LD.q_iOf, LD.srcK_s, LD.v_truB, LD.v_truL, LD.v_truN, LD.v_srcL, LD.v_neg, LD.q_iRange, LD.q_Next, LD.q_Seq, LD.q_Expr, LD.q_Ret, LD.q_RetN, LD.q_SIf, LD.q_Bk, LD.q_Ct, LD.q_Asg, LD.q_Nm, LD.q_Sub, LD.q_Del, LD.q_Fld, LD.q_Dic, LD.q_For, LD.wipeD, Bool.not_true, Bool.not_false, LD.ifT, LD.le0, LD.le1, LD.le2, LD.le3, LD.le4, LD.le5, LD.le6, LD.cmpK_l, LD.nn_n, LD.nn_i, LD.nn_t, LD.nn_l, LD.nn_r, LD.nn_b, LD.nn_s, LD.nonK_n, LD.okK_o, LD.bind_k, LD.bind_b, LD.bind_e, LD.bindS_k, LD.bindS_e, LD.ofO_s, LD.getV_s, LD.truK_s, LD.blK_b, LD.refK_r, LD.insK_i, LD.lookK_s, LD.lookK_n, LD.refS_r, LD.insS_i, LD.lookS_s, LD.seq_n, LD.seq_r, LD.seq_b, LD.seq_c, LD.seq_e, LD.storeK_s, LD.memK_s, LD.endF_n, LD.endF_r, LD.endF_e, LD.pick_t, LD.pick_f, LD.finL_f, LD.finL_t, LD.v_add, LD.v_sub, LD.v_mulR, LD.v_fdiv, LD.v_mod, LD.v_int, LD.v_lt, LD.v_le, LD.v_gt, LD.v_ge, LD.v_eq, LD.v_ne, LD.v_len, LD.v_tix, LD.v_lix, LD.v_rix, LD.rixK_l, LD.rixK_d, LD.v_isN, LD.v_isnN, LD.v_isNone, LD.v_isNoneN, LD.startD, List.length_cons, List.length_nil, List.map_cons, List.map_nil, List.cons_append, List.nil_append, List.append_nil, List.getElem?_cons_zero, List.getElem?_cons_succ, List.set_cons_zero, List.set_cons_succ, List.replicate_succ, List.replicate_zero, Nat.reduceAdd, Nat.reduceSub, Nat.reduceBEq, Int.reduceLT, Int.reduceNeg, Int.reduceLE, Nat.reduceLeDiff, Nat.reduceLT, List.lookup_cons, List.lookup_nil, beq_self_eq_true, Option.map_some, Option.map_none, hR, ew, hlen, hlast, nd0, eqK, ha]
      rfl
    | true =>
      cases hx : (wayL doc n).any dis with
      | true =>
        rw [hx] at hd
        simp only [LD.v_lenO, LD.v_eqQi, LD.v_neQi, LD.q_Ins, LD.q_App, LD.okS_t, LD.v_isLst, LD.lstK_s, LD.v_app, LD.q_Rev, LD.lsK_s, LD.q_Get, LD.getKK_s, LD.v_lsL, LD.v_keyI, LD.v_keyS, Option.isSome_some, Option.isSome_none, Option.getD_some, Option.getD_none, LD.v_eqs, LD.v_nes, LD.v_isiBb, LD.q_C, LD.q_Var, LD.q_Bin, LD.q_Un, LD.q_tOf, LD.q_tCmp, LD.q_tAnd, LD.q_tOr, LD.q_tNot, LD.q_And, LD.q_Or, LD.q_Not, LD.q_If, LD.q_Nil, LD.q_Cons, LD.q_Tup, LD.q_Lst, LD.q_LstM, LD.q_Call, LD.q_Meth, LD.q_Attr, LD.q_Blt, LD.q_Comp, LD.q_iOf, LD.srcK_s, LD.v_truB, LD.v_truL, LD.v_truN, LD.v_srcL, LD.v_neg, LD.q_iRange, LD.q_Next, LD.q_Seq, LD.q_Expr, LD.q_Ret, LD.q_RetN, LD.q_SIf, LD.q_Bk, LD.q_Ct, LD.q_Asg, LD.q_Nm, LD.q_Sub, LD.q_Del, LD.q_Fld, LD.q_Dic, LD.q_For, LD.wipeD, Bool.not_true, Bool.not_false, LD.ifT, LD.le0, LD.le1, LD.le2, LD.le3, LD.le4, LD.le5, LD.le6, LD.cmpK_l, LD.nn_n, LD.nn_i, LD.nn_t, LD.nn_l, LD.nn_r, LD.nn_b, LD.nn_s, LD.nonK_n, LD.okK_o, LD.bind_k, LD.bind_b, LD.bind_e, LD.bindS_k, LD.bindS_e, LD.ofO_s, LD.getV_s, LD.truK_s, LD.blK_b, LD.refK_r, LD.insK_i, LD.lookK_s, LD.lookK_n, LD.refS_r, LD.insS_i, LD.lookS_s, LD.seq_n, LD.seq_r, LD.seq_b, LD.seq_c, LD.seq_e, LD.storeK_s, LD.memK_s, LD.endF_n, LD.endF_r, LD.endF_e, LD.pick_t, LD.pick_f, LD.finL_f, LD.finL_t, LD.v_add, LD.v_sub, LD.v_mulR, LD.v_fdiv, LD.v_mod, LD.v_int, LD.v_lt, LD.v_le, LD.v_gt, LD.v_ge, LD.v_eq, LD.v_ne, LD.v_len, LD.v_tix, LD.v_lix, LD.v_rix, LD.rixK_l, LD.rixK_d, LD.v_isN, LD.v_isnN, LD.v_isNone, LD.v_isNoneN, LD.startD, List.length_cons, List.length_nil, List.map_cons, List.map_nil, List.cons_append, List.nil_append, List.append_nil, List.getElem?_cons_zero, List.getElem?_cons_succ, List.set_cons_zero, List.set_cons_succ, List.replicate_succ, List.replicate_zero, Nat.reduceAdd, Nat.reduceSub, Nat.reduceBEq, Int.reduceLT, Int.reduceNeg, Int.reduceLE, Nat.reduceLeDiff, Nat.reduceLT, List.lookup_cons, List.lookup_nil, beq_self_eq_true, Option.map_some, Option.map_none, hR, ew, hlen, hlast, nd0, eqK, ha, hd]
        rfl
      | false =>
        rw [hx] at hd
        simp only [LD.v_lenO, LD.v_eqQi, LD.v_neQi, LD.q_Ins, LD.q_App, LD.okS_t, LD.v_isLst, LD.lstK_s, LD.v_app, LD.q_Rev, LD.lsK_s, LD.q_Get, LD.getKK_s, LD.v_lsL, LD.v_keyI, LD.v_keyS, Option.isSome_some, Option.isSome_none, Option.getD_some, Option.getD_none, LD.v_eqs, LD.v_nes, LD.v_isiBb, LD.q_C, LD.q_Var, LD.q_Bin, LD.q_Un, LD.q_tOf, LD.q_tCmp, LD.q_tAnd, LD.q_tOr, LD.q_tNot, LD.q_And, LD.q_Or, LD.q_Not, LD.q_If, LD.q_Nil, LD.q_Cons, LD.q_Tup, LD.q_Lst, LD.q_LstM, LD.q_Call, LD.q_Meth, LD.q_Attr, LD.q_Blt, LD.q_Comp, LD.q_iOf, LD.srcK_s, LD.v_truB, LD.v_truL, LD.v_truN, LD.v_srcL, LD.v_neg, LD.q_iRange, LD.q_Next, LD.q_Seq, LD.q_Expr, LD.q_Ret, LD.q_RetN, LD.q_SIf, LD.q_Bk, LD.q_Ct, LD.q_Asg, LD.q_Nm, LD.q_Sub, LD.q_Del, LD.q_Fld, LD.q_Dic, LD.q_For, LD.wipeD, Bool.not_true, Bool.not_false, LD.ifT, LD.le0, LD.le1, LD.le2, LD.le3, LD.le4, LD.le5, LD.le6, LD.cmpK_l, LD.nn_n, LD.nn_i, LD.nn_t, LD.nn_l, LD.nn_r, LD.nn_b, LD.nn_s, LD.nonK_n, LD.okK_o, LD.bind_k, LD.bind_b, LD.bind_e, LD.bindS_k, LD.bindS_e, LD.ofO_s, LD.getV_s, LD.truK_s, LD.blK_b, LD.refK_r, LD.insK_i, LD.lookK_s, LD.lookK_n, LD.refS_r, LD.insS_i, LD.lookS_s, LD.seq_n, LD.seq_r, LD.seq_b, LD.seq_c, LD.seq_e, LD.storeK_s, LD.memK_s, LD.endF_n, LD.endF_r, LD.endF_e, LD.pick_t, LD.pick_f, LD.finL_f, LD.finL_t, LD.v_add, LD.v_sub, LD.v_mulR, LD.v_fdiv, LD.v_mod, LD.v_int, LD.v_lt, LD.v_le, LD.v_gt, LD.v_ge, LD.v_eq, LD.v_ne, LD.v_len, LD.v_tix, LD.v_lix, LD.v_rix, LD.rixK_l, LD.rixK_d, LD.v_isN, LD.v_isnN, LD.v_isNone, LD.v_isNoneN, LD.startD, List.length_cons, List.length_nil, List.map_cons, List.map_nil, List.cons_append, List.nil_append, List.append_nil, List.getElem?_cons_zero, List.getElem?_cons_succ, List.set_cons_zero, List.set_cons_succ, List.replicate_succ, List.replicate_zero, Nat.reduceAdd, Nat.reduceSub, Nat.reduceBEq, Int.reduceLT, Int.reduceNeg, Int.reduceLE, Nat.reduceLeDiff, Nat.reduceLT, List.lookup_cons, List.lookup_nil, beq_self_eq_true, Option.map_some, Option.map_none, hR, ew, hlen, hlast, nd0, eqK, ha, hd]
        rfl
theorem isctl_eq {M : Mem} {R C S : Nat} {doc : List Nd} {prev : List Str} {f : Kn} {sent : List D} {n : Int} {k : Str} (dk : DocOk doc) (s : St M R C S doc prev f sent) : φ_is_control [.ref R, .int n, .str k] M = .ok (.bl (match elemAt doc n with | none => false | some a => decide (kd a = some k))) M := by
  have ee := element_eq (n := n) dk s
  unfold φ_is_control
  refine run_def rfl ?_
  unfold ψ_is_control
  cases he : elemAt doc n with
  | none =>
    rw [he] at ee
    have e0 : onD none = .non := rfl
    simp only [LD.v_lenO, LD.v_eqQi, LD.v_neQi, LD.q_Ins, LD.q_App, LD.okS_t, LD.v_isLst, LD.lstK_s, LD.v_app, LD.q_Rev, LD.lsK_s, LD.q_Get, LD.getKK_s, LD.v_lsL, LD.v_keyI, LD.v_keyS, Option.isSome_some, Option.isSome_none, Option.getD_some, Option.getD_none, LD.v_eqs, LD.v_nes, LD.v_isiBb, LD.q_C, LD.q_Var, LD.q_Bin, LD.q_Un, LD.q_tOf, LD.q_tCmp, LD.q_tAnd, LD.q_tOr, LD.q_tNot, LD.q_And, LD.q_Or, LD.q_Not, LD.q_If, LD.q_Nil, LD.q_Cons, LD.q_Tup, LD.q_Lst, LD.q_LstM, LD.q_Call, LD.q_Meth, LD.q_Attr, LD.q_Blt, LD.q_Comp, LD.q_iOf, LD.srcK_s, LD.v_truB, LD.v_truL, LD.v_truN, LD.v_srcL, LD.v_neg, LD.q_iRange, LD.q_Next, LD.q_Seq, LD.q_Expr, LD.q_Ret, LD.q_RetN, LD.q_SIf, LD.q_Bk, LD.q_Ct, LD.q_Asg, LD.q_Nm, LD.q_Sub, LD.q_Del, LD.q_Fld, LD.q_Dic, LD.q_For, LD.wipeD, Bool.not_true, Bool.not_false, LD.ifT, LD.le0, LD.le1, LD.le2, LD.le3, LD.le4, LD.le5, LD.le6, LD.cmpK_l, LD.nn_n, LD.nn_i, LD.nn_t, LD.nn_l, LD.nn_r, LD.nn_b, LD.nn_s, LD.nonK_n, LD.okK_o, LD.bind_k, LD.bind_b, LD.bind_e, LD.bindS_k, LD.bindS_e, LD.ofO_s, LD.getV_s, LD.truK_s, LD.blK_b, LD.refK_r, LD.insK_i, LD.lookK_s, LD.lookK_n, LD.refS_r, LD.insS_i, LD.lookS_s, LD.seq_n, LD.seq_r, LD.seq_b, LD.seq_c, LD.seq_e, LD.storeK_s, LD.memK_s, LD.endF_n, LD.endF_r, LD.endF_e, LD.pick_t, LD.pick_f, LD.finL_f, LD.finL_t, LD.v_add, LD.v_sub, LD.v_mulR, LD.v_fdiv, LD.v_mod, LD.v_int, LD.v_lt, LD.v_le, LD.v_gt, LD.v_ge, LD.v_eq, LD.v_ne, LD.v_len, LD.v_tix, LD.v_lix, LD.v_rix, LD.rixK_l, LD.rixK_d, LD.v_isN, LD.v_isnN, LD.v_isNone, LD.v_isNoneN, LD.startD, List.length_cons, List.length_nil, List.map_cons, List.map_nil, List.cons_append, List.nil_append, List.append_nil, List.getElem?_cons_zero, List.getElem?_cons_succ, List.set_cons_zero, List.set_cons_succ, List.replicate_succ, List.replicate_zero, Nat.reduceAdd, Nat.reduceSub, Nat.reduceBEq, Int.reduceLT, Int.reduceNeg, Int.reduceLE, Nat.reduceLeDiff, Nat.reduceLT, List.lookup_cons, List.lookup_nil, beq_self_eq_true, Option.map_some, Option.map_none, ee, e0]
  | some a =>
    rw [he] at ee
    have e0 : onD (some a) = ndD a := rfl
    have e1 : isNon (ndD a) = false := by cases a <;> rw [ndD] <;> rfl
    simp only [LD.v_lenO, LD.v_eqQi, LD.v_neQi, LD.q_Ins, LD.q_App, LD.okS_t, LD.v_isLst, LD.lstK_s, LD.v_app, LD.q_Rev, LD.lsK_s, LD.q_Get, LD.getKK_s, LD.v_lsL, LD.v_keyI, LD.v_keyS, Option.isSome_some, Option.isSome_none, Option.getD_some, Option.getD_none, LD.v_eqs, LD.v_nes, LD.v_isiBb, LD.q_C, LD.q_Var, LD.q_Bin, LD.q_Un, LD.q_tOf, LD.q_tCmp, LD.q_tAnd, LD.q_tOr, LD.q_tNot, LD.q_And, LD.q_Or, LD.q_Not, LD.q_If, LD.q_Nil, LD.q_Cons, LD.q_Tup, LD.q_Lst, LD.q_LstM, LD.q_Call, LD.q_Meth, LD.q_Attr, LD.q_Blt, LD.q_Comp, LD.q_iOf, LD.srcK_s, LD.v_truB, LD.v_truL, LD.v_truN, LD.v_srcL, LD.v_neg, LD.q_iRange, LD.q_Next, LD.q_Seq, LD.q_Expr, LD.q_Ret, LD.q_RetN, LD.q_SIf, LD.q_Bk, LD.q_Ct, LD.q_Asg, LD.q_Nm, LD.q_Sub, LD.q_Del, LD.q_Fld, LD.q_Dic, LD.q_For, LD.wipeD, Bool.not_true, Bool.not_false, LD.ifT, LD.le0, LD.le1, LD.le2, LD.le3, LD.le4, LD.le5, LD.le6, LD.cmpK_l, LD.nn_n, LD.nn_i, LD.nn_t, LD.nn_l, LD.nn_r, LD.nn_b, LD.nn_s, LD.nonK_n, LD.okK_o, LD.bind_k, LD.bind_b, LD.bind_e, LD.bindS_k, LD.bindS_e, LD.ofO_s, LD.getV_s, LD.truK_s, LD.blK_b, LD.refK_r, LD.insK_i, LD.lookK_s, LD.lookK_n, LD.refS_r, LD.insS_i, LD.lookS_s, LD.seq_n, LD.seq_r, LD.seq_b, LD.seq_c, LD.seq_e, LD.storeK_s, LD.memK_s, LD.endF_n, LD.endF_r, LD.endF_e, LD.pick_t, LD.pick_f, LD.finL_f, LD.finL_t, LD.v_add, LD.v_sub, LD.v_mulR, LD.v_fdiv, LD.v_mod, LD.v_int, LD.v_lt, LD.v_le, LD.v_gt, LD.v_ge, LD.v_eq, LD.v_ne, LD.v_len, LD.v_tix, LD.v_lix, LD.v_rix, LD.rixK_l, LD.rixK_d, LD.v_isN, LD.v_isnN, LD.v_isNone, LD.v_isNoneN, LD.startD, List.length_cons, List.length_nil, List.map_cons, List.map_nil, List.cons_append, List.nil_append, List.append_nil, List.getElem?_cons_zero, List.getElem?_cons_succ, List.set_cons_zero, List.set_cons_succ, List.replicate_succ, List.replicate_zero, Nat.reduceAdd, Nat.reduceSub, Nat.reduceBEq, Int.reduceLT, Int.reduceNeg, Int.reduceLE, Nat.reduceLeDiff, Nat.reduceLT, List.lookup_cons, List.lookup_nil, beq_self_eq_true, Option.map_some, Option.map_none, ee, e0, e1, kind_eq, o_eqS]
def ev0 (n : Int) (e : Str) : D := .tup [.int n, .str e, .dic [] []]
theorem ne_v (v w : Vl) (M : Mem) : boD (notB eqD) (vlD v) (vlD w) M = some (.bl (!decide (v = w)), M) := by
  cases v with
  | b x =>
    cases w with
    | b y => cases x <;> cases y <;> rfl
    | s y => rfl
  | s x =>
    cases w with
    | b y => rfl
    | s y =>
      show some (D.bl (!(x == y)), M) = _
      by_cases h : x = y
      · subst h; rw [beq_self_eq_true, decide_eq_true rfl]
      · rw [beq_eq_false_iff_ne.mpr h, decide_eq_false fun z => h (by injection z)]
theorem disW_elem {doc : List Nd} {n : Int} {a : Nd} (h : elemAt doc n = some a) : disW doc n = false := by
  unfold elemAt at h
  unfold disW
  split at h
  · cases h
  · rename_i b hw
    split at h
    · rename_i hc
      rw [Bool.and_eq_true] at hc
      have hx : (wayL doc n).any dis = false := by simpa using hc.2
      rw [hx, Bool.or_false]
      cases h2 : wayL doc n with
      | nil => rw [h2] at hw; cases hw
      | cons _ _ => rfl
    · cases h
/-- a select (kind "select") or a field is set -/
theorem settext_eq {M : Mem} {R C S : Nat} {doc : List Nd} {prev : List Str} {f : Kn} {sent : List D} {n : Int} {a : Nd} {k : Str} {x : Str} {w : Vl} (dk : DocOk doc) (s : St M R C S doc prev f sent) (he : elemAt doc n = some a) (hk : kd a = some k) (hf : f n = some (k, w)) (hl : sent.length < 90000) :
    ∃ M', φ_set_text [.ref R, .int n, .str k, .str x] M = .ok .non M' ∧ St M' R C S doc prev (if w = .s x then resK f doc else resK (updK f n (k, .s x)) doc) (if w = .s x then sent else sent ++ (ev0 n "input" :: if k = "select" then [ev0 n "change"] else [])) ∧ Keep S M M' := by
  have hR := s.hR
  have ec := isctl_eq (n := n) (k := k) dk s
  rw [he] at ec
  have ec : φ_is_control [.ref R, .int n, .str k] M = .ok (.bl (decide (kd a = some k))) M := ec
  rw [decide_eq_true hk] at ec
  have hsh := shown_eq s n
  rw [hf] at hsh
  have hsh : φ_Controls_shown [.ref C, .int n] M = .ok (vlD w) M := hsh
  obtain ⟨κ, kvs, h1, _⟩ := s.hC
  by_cases hw : w = .s x
  · rw [if_pos hw, if_pos hw]
    obtain ⟨M', e1, e2, e3⟩ := settle_eq dk s
    have hn := ne_v w (.s x) M
    rw [decide_eq_true hw] at hn
    have hn : boD (notB eqD) (vlD w) (.str x) M = some (.bl (!true), M) := hn
    refine ⟨M', ?_, e2, e3⟩
    unfold φ_set_text
    refine run_def rfl ?_
    unfold ψ_set_text
    simp only [LD.v_lenO, LD.v_eqQi, LD.v_neQi, LD.q_Ins, LD.q_App, LD.okS_t, LD.v_isLst, LD.lstK_s, LD.v_app, LD.q_Rev, LD.lsK_s, LD.q_Get, LD.getKK_s, LD.v_lsL, LD.v_keyI, LD.v_keyS, Option.isSome_some, Option.isSome_none, Option.getD_some, Option.getD_none, LD.v_eqs, LD.v_nes, LD.v_isiBb, LD.q_C, LD.q_Var, LD.q_Bin, LD.q_Un, LD.q_tOf, LD.q_tCmp, LD.q_tAnd, LD.q_tOr, LD.q_tNot, LD.q_And, LD.q_Or, LD.q_Not, LD.q_If, LD.q_Nil, LD.q_Cons, LD.q_Tup, LD.q_Lst, LD.q_LstM, LD.q_Call, LD.q_Meth, LD.q_Attr, LD.q_Blt, LD.q_Comp, LD.q_iOf, LD.srcK_s, LD.v_truB, LD.v_truL, LD.v_truN, LD.v_srcL, LD.v_neg, LD.q_iRange, LD.q_Next, LD.q_Seq, LD.q_Expr, LD.q_Ret, LD.q_RetN, LD.q_SIf, LD.q_Bk, LD.q_Ct, LD.q_Asg, LD.q_Nm, LD.q_Sub, LD.q_Del, LD.q_Fld, LD.q_Dic, LD.q_For, LD.wipeD, Bool.not_true, Bool.not_false, LD.ifT, LD.le0, LD.le1, LD.le2, LD.le3, LD.le4, LD.le5, LD.le6, LD.cmpK_l, LD.nn_n, LD.nn_i, LD.nn_t, LD.nn_l, LD.nn_r, LD.nn_b, LD.nn_s, LD.nonK_n, LD.okK_o, LD.bind_k, LD.bind_b, LD.bind_e, LD.bindS_k, LD.bindS_e, LD.ofO_s, LD.getV_s, LD.truK_s, LD.blK_b, LD.refK_r, LD.insK_i, LD.lookK_s, LD.lookK_n, LD.refS_r, LD.insS_i, LD.lookS_s, LD.seq_n, LD.seq_r, LD.seq_b, LD.seq_c, LD.seq_e, LD.storeK_s, LD.memK_s, LD.endF_n, LD.endF_r, LD.endF_e, LD.pick_t, LD.pick_f, LD.finL_f, LD.finL_t, LD.v_add, LD.v_sub, LD.v_mulR, LD.v_fdiv, LD.v_mod, LD.v_int, LD.v_lt, LD.v_le, LD.v_gt, LD.v_ge, LD.v_eq, LD.v_ne, LD.v_len, LD.v_tix, LD.v_lix, LD.v_rix, LD.rixK_l, LD.rixK_d, LD.v_isN, LD.v_isnN, LD.v_isNone, LD.v_isNoneN, LD.startD, List.length_cons, List.length_nil, List.map_cons, List.map_nil, List.cons_append, List.nil_append, List.append_nil, List.getElem?_cons_zero, List.getElem?_cons_succ, List.set_cons_zero, List.set_cons_succ, List.replicate_succ, List.replicate_zero, Nat.reduceAdd, Nat.reduceSub, Nat.reduceBEq, Int.reduceLT, Int.reduceNeg, Int.reduceLE, Nat.reduceLeDiff, Nat.reduceLT, List.lookup_cons, List.lookup_nil, beq_self_eq_true, Option.map_some, Option.map_none, ec, hR, h1, hsh, hn, e1]
  · rw [if_neg hw, if_neg hw]
    have hn := ne_v w (.s x) M
    rw [decide_eq_false hw] at hn
    have hn : boD (notB eqD) (vlD w) (.str x) M = some (.bl (!false), M) := hn
    obtain ⟨M1, a1, a2, a3⟩ := show_eq (v := .s x) s hf
    have a1 : φ_Controls_show [.ref C, .int n, .str x] M = .ok .non M1 := a1
    have s2 := a2.ext (M' := M1 ++ [.dic []]) fun j hj => app_old hj
    obtain ⟨M3, b3, c1, _, c2, c3⟩ := send_eq (n := n) (e := "input") dk s2 app_at (by omega)
    rw [disW_elem he, if_neg Bool.false_ne_true] at c2
    have c2 : St M3 R C S doc prev (updK f n (k, .s x)) (sent ++ [ev0 n "input"]) := c2
    have hR1 := a2.hR
    have hR3 := c2.hR
    by_cases hs : k = "select"
    · rw [if_pos hs]
      have s4 := c2.ext (M' := M3 ++ [.dic []]) fun j hj => app_old hj
      obtain ⟨M5, b5, d1, _, d2, d3⟩ := send_eq (n := n) (e := "change") dk s4 app_at (by rw [List.length_append, List.length_singleton]; omega)
      rw [disW_elem he, if_neg Bool.false_ne_true] at d2
      have d2 : St M5 R C S doc prev (updK f n (k, .s x)) (sent ++ [ev0 n "input"] ++ [ev0 n "change"]) := d2
      obtain ⟨M', e1, e2, e3⟩ := settle_eq dk d2
      refine ⟨M', ?_, ?_, a3.trans ((Keep.ext fun j hj => app_old hj).trans (c3.trans ((Keep.ext fun j hj => app_old hj).trans (d3.trans e3))))⟩
      · unfold φ_set_text
        refine run_def rfl ?_
        unfold ψ_set_text
        simp only [LD.v_lenO, LD.v_eqQi, LD.v_neQi, LD.q_Ins, LD.q_App, LD.okS_t, LD.v_isLst, LD.lstK_s, LD.v_app, LD.q_Rev, LD.lsK_s, LD.q_Get, LD.getKK_s, LD.v_lsL, LD.v_keyI, LD.v_keyS, Option.isSome_some, Option.isSome_none, Option.getD_some, Option.getD_none, LD.v_eqs, LD.v_nes, LD.v_isiBb, LD.q_C, LD.q_Var, LD.q_Bin, LD.q_Un, LD.q_tOf, LD.q_tCmp, LD.q_tAnd, LD.q_tOr, LD.q_tNot, LD.q_And, LD.q_Or, LD.q_Not, LD.q_If, LD.q_Nil, LD.q_Cons, LD.q_Tup, LD.q_Lst, LD.q_LstM, LD.q_Call, LD.q_Meth, LD.q_Attr, LD.q_Blt, LD.q_Comp, LD.q_iOf, LD.srcK_s, LD.v_truB, LD.v_truL, LD.v_truN, LD.v_srcL, LD.v_neg, LD.q_iRange, LD.q_Next, LD.q_Seq, LD.q_Expr, LD.q_Ret, LD.q_RetN, LD.q_SIf, LD.q_Bk, LD.q_Ct, LD.q_Asg, LD.q_Nm, LD.q_Sub, LD.q_Del, LD.q_Fld, LD.q_Dic, LD.q_For, LD.wipeD, Bool.not_true, Bool.not_false, LD.ifT, LD.le0, LD.le1, LD.le2, LD.le3, LD.le4, LD.le5, LD.le6, LD.cmpK_l, LD.nn_n, LD.nn_i, LD.nn_t, LD.nn_l, LD.nn_r, LD.nn_b, LD.nn_s, LD.nonK_n, LD.okK_o, LD.bind_k, LD.bind_b, LD.bind_e, LD.bindS_k, LD.bindS_e, LD.ofO_s, LD.getV_s, LD.truK_s, LD.blK_b, LD.refK_r, LD.insK_i, LD.lookK_s, LD.lookK_n, LD.refS_r, LD.insS_i, LD.lookS_s, LD.seq_n, LD.seq_r, LD.seq_b, LD.seq_c, LD.seq_e, LD.storeK_s, LD.memK_s, LD.endF_n, LD.endF_r, LD.endF_e, LD.pick_t, LD.pick_f, LD.finL_f, LD.finL_t, LD.v_add, LD.v_sub, LD.v_mulR, LD.v_fdiv, LD.v_mod, LD.v_int, LD.v_lt, LD.v_le, LD.v_gt, LD.v_ge, LD.v_eq, LD.v_ne, LD.v_len, LD.v_tix, LD.v_lix, LD.v_rix, LD.rixK_l, LD.rixK_d, LD.v_isN, LD.v_isnN, LD.v_isNone, LD.v_isNoneN, LD.startD, List.length_cons, List.length_nil, List.map_cons, List.map_nil, List.cons_append, List.nil_append, List.append_nil, List.getElem?_cons_zero, List.getElem?_cons_succ, List.set_cons_zero, List.set_cons_succ, List.replicate_succ, List.replicate_zero, Nat.reduceAdd, Nat.reduceSub, Nat.reduceBEq, Int.reduceLT, Int.reduceNeg, Int.reduceLE, Nat.reduceLeDiff, Nat.reduceLT, List.lookup_cons, List.lookup_nil, beq_self_eq_true, Option.map_some, Option.map_none, ec, hR, h1, hsh, hn, a1, c1, beq_iff_eq.mpr hs, d1, e1]
      · rw [List.append_assoc] at e2
        exact e2
    · rw [if_neg hs]
      obtain ⟨M', e1, e2, e3⟩ := settle_eq dk c2
      refine ⟨M', ?_, e2, a3.trans ((Keep.ext fun j hj => app_old hj).trans (c3.trans e3))⟩
      unfold φ_set_text
      refine run_def rfl ?_
      unfold ψ_set_text
      simp only [LD.v_lenO, LD.v_eqQi, LD.v_neQi, LD.q_Ins, LD.q_App, LD.okS_t, LD.v_isLst, LD.lstK_s, LD.v_app, LD.q_Rev, LD.lsK_s, LD.q_Get, LD.getKK_s, LD.v_lsL, LD.v_keyI, LD.v_keyS, Option.isSome_some, Option.isSome_none, Option.getD_some, Option.getD_none, LD.v_eqs, LD.v_nes, LD.v_isiBb, LD.q_C, LD.q_Var, LD.q_Bin, LD.q_Un, LD.q_tOf, LD.q_tCmp, LD.q_tAnd, LD.q_tOr, LD.q_tNot, LD.q_And, LD.q_Or, LD.q_Not, LD.q_If, LD.q_Nil, LD.q_Cons, LD.q_Tup, LD.q_Lst, LD.q_LstM, LD.q_Call, LD.q_Meth, LD.q_Attr, LD.q_Blt, LD.q_Comp, LD.q_iOf, LD.srcK_s, LD.v_truB, LD.v_truL, LD.v_truN, LD.v_srcL, LD.v_neg, LD.q_iRange, LD.q_Next, LD.q_Seq, LD.q_Expr, LD.q_Ret, LD.q_RetN, LD.q_SIf, LD.q_Bk, LD.q_Ct, LD.q_Asg, LD.q_Nm, LD.q_Sub, LD.q_Del, LD.q_Fld, LD.q_Dic, LD.q_For, LD.wipeD, Bool.not_true, Bool.not_false, LD.ifT, LD.le0, LD.le1, LD.le2, LD.le3, LD.le4, LD.le5, LD.le6, LD.cmpK_l, LD.nn_n, LD.nn_i, LD.nn_t, LD.nn_l, LD.nn_r, LD.nn_b, LD.nn_s, LD.nonK_n, LD.okK_o, LD.bind_k, LD.bind_b, LD.bind_e, LD.bindS_k, LD.bindS_e, LD.ofO_s, LD.getV_s, LD.truK_s, LD.blK_b, LD.refK_r, LD.insK_i, LD.lookK_s, LD.lookK_n, LD.refS_r, LD.insS_i, LD.lookS_s, LD.seq_n, LD.seq_r, LD.seq_b, LD.seq_c, LD.seq_e, LD.storeK_s, LD.memK_s, LD.endF_n, LD.endF_r, LD.endF_e, LD.pick_t, LD.pick_f, LD.finL_f, LD.finL_t, LD.v_add, LD.v_sub, LD.v_mulR, LD.v_fdiv, LD.v_mod, LD.v_int, LD.v_lt, LD.v_le, LD.v_gt, LD.v_ge, LD.v_eq, LD.v_ne, LD.v_len, LD.v_tix, LD.v_lix, LD.v_rix, LD.rixK_l, LD.rixK_d, LD.v_isN, LD.v_isnN, LD.v_isNone, LD.v_isNoneN, LD.startD, List.length_cons, List.length_nil, List.map_cons, List.map_nil, List.cons_append, List.nil_append, List.append_nil, List.getElem?_cons_zero, List.getElem?_cons_succ, List.set_cons_zero, List.set_cons_succ, List.replicate_succ, List.replicate_zero, Nat.reduceAdd, Nat.reduceSub, Nat.reduceBEq, Int.reduceLT, Int.reduceNeg, Int.reduceLE, Nat.reduceLeDiff, Nat.reduceLT, List.lookup_cons, List.lookup_nil, beq_self_eq_true, Option.map_some, Option.map_none, ec, hR, h1, hsh, hn, a1, c1, beq_eq_false_iff_ne.mpr hs, e1]
mutual
theorem wayN_sub : ∀ (a : Nd) (k : Int), ∀ q ∈ wayN a k, htL (kidsOf q) < htN a ∧ (numsL (kidsOf q)).length < (numsN a).length
  | .txt n x, k, q, h => by
    rw [wayN] at h
    rw [htN, numsN]
    split at h
    · rw [List.mem_singleton.mp h]
      show htL [] < _ ∧ (numsL []).length < _
      rw [htL, numsL]
      exact ⟨Nat.succ_pos _, Nat.succ_pos _⟩
    · cases h
  | .el n tag ats kids, k, q, h => by
    have ih := wayL_sub kids k q
    have self : htL (kidsOf (.el n tag ats kids)) < htN (.el n tag ats kids) ∧ (numsL (kidsOf (.el n tag ats kids))).length < (numsN (.el n tag ats kids)).length := by
      rw [htN, numsN, List.length_cons]
      show htL kids < _ ∧ (numsL kids).length < _
      omega
    rw [wayN] at h
    split at h
    · rw [List.mem_singleton.mp h]; exact self
    · split at h
      · cases h
      · rcases List.mem_cons.mp h with rfl | h
        · exact self
        · have := ih h
          rw [htN, numsN, List.length_cons]
          omega
theorem wayL_sub : ∀ (l : List Nd) (k : Int), ∀ q ∈ wayL l k, htL (kidsOf q) < htL l ∧ (numsL (kidsOf q)).length < (numsL l).length
  | [], k, q, h => by rw [wayL] at h; cases h
  | a :: r, k, q, h => by
    rw [wayL] at h
    rw [htL, numsL, List.length_append]
    split at h
    · have := wayL_sub r k q h
      omega
    · have := wayN_sub a k q h
      omega
end
theorem way_sub {doc : List Nd} {n n' : Int} {tag : Str} {ats : List (Str × Str)} {kids : List Nd} (dk : DocOk doc) (h : Nd.el n' tag ats kids ∈ wayL doc n) : htL kids < 30 ∧ (numsL kids).length < 1000 := by
  have h1 : htL kids < htL doc ∧ (numsL kids).length < (numsL doc).length := wayL_sub doc n _ h
  have := dk.ht
  have := dk.ln
  omega
/-- what choose does -/
theorem choose_eq {M : Mem} {R C S : Nat} {doc : List Nd} {prev : List Str} {f : Kn} {sent : List D} {n : Int} {x : Str} {w : Vl} (dk : DocOk doc) (s : St M R C S doc prev f sent) (hf : ∀ a, elemAt doc n = some a → kd a = some ("select" : Str) → f n = some (("select" : Str), w)) (hl : sent.length < 90000) :
    ∃ M', φ_choose [.ref R, .int n, .str x] M = .ok .non M' ∧ Keep S M M' ∧ ((∃ a, elemAt doc n = some a ∧ kd a = some ("select" : Str) ∧ x ∈ freeOf (elL (kidsOf a) false) ∧ St M' R C S doc prev (if w = .s x then resK f doc else resK (updK f n (("select" : Str), .s x)) doc) (if w = .s x then sent else sent ++ [ev0 n "input", ev0 n "change"])) ∨
      ((∀ a, elemAt doc n = some a → kd a = some ("select" : Str) → x ∉ freeOf (elL (kidsOf a) false)) ∧ St M' R C S doc prev f sent)) := by
  have hR := s.hR
  have ee := element_eq (n := n) dk s
  cases he : elemAt doc n with
  | none =>
    rw [he] at ee
    have e0 : onD none = .non := rfl
    refine ⟨M, ?_, Keep.refl, .inr ⟨fun a h => (nomatch h), s⟩⟩
    unfold φ_choose
    refine run_def rfl ?_
    unfold ψ_choose
    simp only [LD.v_lenO, LD.v_eqQi, LD.v_neQi, LD.q_Ins, LD.q_App, LD.okS_t, LD.v_isLst, LD.lstK_s, LD.v_app, LD.q_Rev, LD.lsK_s, LD.q_Get, LD.getKK_s, LD.v_lsL, LD.v_keyI, LD.v_keyS, Option.isSome_some, Option.isSome_none, Option.getD_some, Option.getD_none, LD.v_eqs, LD.v_nes, LD.v_isiBb, LD.q_C, LD.q_Var, LD.q_Bin, LD.q_Un, LD.q_tOf, LD.q_tCmp, LD.q_tAnd, LD.q_tOr, LD.q_tNot, LD.q_And, LD.q_Or, LD.q_Not, LD.q_If, LD.q_Nil, LD.q_Cons, LD.q_Tup, LD.q_Lst, LD.q_LstM, LD.q_Call, LD.q_Meth, LD.q_Attr, LD.q_Blt, LD.q_Comp, LD.q_iOf, LD.srcK_s, LD.v_truB, LD.v_truL, LD.v_truN, LD.v_srcL, LD.v_neg, LD.q_iRange, LD.q_Next, LD.q_Seq, LD.q_Expr, LD.q_Ret, LD.q_RetN, LD.q_SIf, LD.q_Bk, LD.q_Ct, LD.q_Asg, LD.q_Nm, LD.q_Sub, LD.q_Del, LD.q_Fld, LD.q_Dic, LD.q_For, LD.wipeD, Bool.not_true, Bool.not_false, LD.ifT, LD.le0, LD.le1, LD.le2, LD.le3, LD.le4, LD.le5, LD.le6, LD.cmpK_l, LD.nn_n, LD.nn_i, LD.nn_t, LD.nn_l, LD.nn_r, LD.nn_b, LD.nn_s, LD.nonK_n, LD.okK_o, LD.bind_k, LD.bind_b, LD.bind_e, LD.bindS_k, LD.bindS_e, LD.ofO_s, LD.getV_s, LD.truK_s, LD.blK_b, LD.refK_r, LD.insK_i, LD.lookK_s, LD.lookK_n, LD.refS_r, LD.insS_i, LD.lookS_s, LD.seq_n, LD.seq_r, LD.seq_b, LD.seq_c, LD.seq_e, LD.storeK_s, LD.memK_s, LD.endF_n, LD.endF_r, LD.endF_e, LD.pick_t, LD.pick_f, LD.finL_f, LD.finL_t, LD.v_add, LD.v_sub, LD.v_mulR, LD.v_fdiv, LD.v_mod, LD.v_int, LD.v_lt, LD.v_le, LD.v_gt, LD.v_ge, LD.v_eq, LD.v_ne, LD.v_len, LD.v_tix, LD.v_lix, LD.v_rix, LD.rixK_l, LD.rixK_d, LD.v_isN, LD.v_isnN, LD.v_isNone, LD.v_isNoneN, LD.startD, List.length_cons, List.length_nil, List.map_cons, List.map_nil, List.cons_append, List.nil_append, List.append_nil, List.getElem?_cons_zero, List.getElem?_cons_succ, List.set_cons_zero, List.set_cons_succ, List.replicate_succ, List.replicate_zero, Nat.reduceAdd, Nat.reduceSub, Nat.reduceBEq, Int.reduceLT, Int.reduceNeg, Int.reduceLE, Nat.reduceLeDiff, Nat.reduceLT, List.lookup_cons, List.lookup_nil, beq_self_eq_true, Option.map_some, Option.map_none, ee, e0]
  | some a =>
    rw [he] at ee
    have e0 : onD (some a) = ndD a := rfl
    have e1 : isNon (ndD a) = false := by cases a <;> rw [ndD] <;> rfl
    have hne : ∀ M : Mem, boD (notB eqD) (oD (kd a)) (.str "select") M = some (.bl (!decide (kd a = some ("select" : Str))), M) := fun M => by
      have := o_eqS (kd a) "select" M
      unfold boD at this ⊢
      unfold notB
      obtain ⟨b, h1, h2⟩ := Option.map_eq_some_iff.mp this
      rw [h1]
      cases h2
      rfl
    by_cases hk : kd a = some ("select" : Str)
    · have hel : isEl a = true := by
        cases a with
        | txt n x => cases hk
        | el n tag ats kids => rfl
      obtain ⟨n', tag, ats, kids, rfl⟩ := elem_of hel
      have hlt : htL kids < 30 ∧ (numsL kids).length < 1000 := by
        have hmem : Nd.el n' tag ats kids ∈ wayL doc n := by
          unfold elemAt at he
          split at he
          · cases he
          · rename_i b hw
            split at he
            · cases he
              exact List.mem_of_getLast? hw
            · cases he
        exact way_sub dk hmem
      obtain ⟨M1, f1, f2, f3⟩ := free_eq (n := n') (tag := tag) (ats := ats) (d := false) (M := M) hlt.1 hlt.2
      have s1 := s.ext f3
      by_cases hx : x ∈ freeOf (elL kids false)
      · obtain ⟨M', g1, g2, g3⟩ := settext_eq (x := x) dk s1 he hk (hf _ he hk) hl
        have hin := in_str (x := x) (xs := freeOf (elL kids false)) (b := false) (tb := (0, φ_Controls___contains__) :: []) (M := M1)
        rw [decide_eq_true hx, bn3] at hin
        rw [show (if ("select" : Str) = "select" then [ev0 n "change"] else []) = [ev0 n "change"] from if_pos rfl] at g2
        refine ⟨M', ?_, (Keep.ext f3).trans g3, .inl ⟨_, rfl, hk, hx, g2⟩⟩
        unfold φ_choose
        refine run_def rfl ?_
        unfold ψ_choose
        simp only [LD.v_lenO, LD.v_eqQi, LD.v_neQi, LD.q_Ins, LD.q_App, LD.okS_t, LD.v_isLst, LD.lstK_s, LD.v_app, LD.q_Rev, LD.lsK_s, LD.q_Get, LD.getKK_s, LD.v_lsL, LD.v_keyI, LD.v_keyS, Option.isSome_some, Option.isSome_none, Option.getD_some, Option.getD_none, LD.v_eqs, LD.v_nes, LD.v_isiBb, LD.q_C, LD.q_Var, LD.q_Bin, LD.q_Un, LD.q_tOf, LD.q_tCmp, LD.q_tAnd, LD.q_tOr, LD.q_tNot, LD.q_And, LD.q_Or, LD.q_Not, LD.q_If, LD.q_Nil, LD.q_Cons, LD.q_Tup, LD.q_Lst, LD.q_LstM, LD.q_Call, LD.q_Meth, LD.q_Attr, LD.q_Blt, LD.q_Comp, LD.q_iOf, LD.srcK_s, LD.v_truB, LD.v_truL, LD.v_truN, LD.v_srcL, LD.v_neg, LD.q_iRange, LD.q_Next, LD.q_Seq, LD.q_Expr, LD.q_Ret, LD.q_RetN, LD.q_SIf, LD.q_Bk, LD.q_Ct, LD.q_Asg, LD.q_Nm, LD.q_Sub, LD.q_Del, LD.q_Fld, LD.q_Dic, LD.q_For, LD.wipeD, Bool.not_true, Bool.not_false, LD.ifT, LD.le0, LD.le1, LD.le2, LD.le3, LD.le4, LD.le5, LD.le6, LD.cmpK_l, LD.nn_n, LD.nn_i, LD.nn_t, LD.nn_l, LD.nn_r, LD.nn_b, LD.nn_s, LD.nonK_n, LD.okK_o, LD.bind_k, LD.bind_b, LD.bind_e, LD.bindS_k, LD.bindS_e, LD.ofO_s, LD.getV_s, LD.truK_s, LD.blK_b, LD.refK_r, LD.insK_i, LD.lookK_s, LD.lookK_n, LD.refS_r, LD.insS_i, LD.lookS_s, LD.seq_n, LD.seq_r, LD.seq_b, LD.seq_c, LD.seq_e, LD.storeK_s, LD.memK_s, LD.endF_n, LD.endF_r, LD.endF_e, LD.pick_t, LD.pick_f, LD.finL_f, LD.finL_t, LD.v_add, LD.v_sub, LD.v_mulR, LD.v_fdiv, LD.v_mod, LD.v_int, LD.v_lt, LD.v_le, LD.v_gt, LD.v_ge, LD.v_eq, LD.v_ne, LD.v_len, LD.v_tix, LD.v_lix, LD.v_rix, LD.rixK_l, LD.rixK_d, LD.v_isN, LD.v_isnN, LD.v_isNone, LD.v_isNoneN, LD.startD, List.length_cons, List.length_nil, List.map_cons, List.map_nil, List.cons_append, List.nil_append, List.append_nil, List.getElem?_cons_zero, List.getElem?_cons_succ, List.set_cons_zero, List.set_cons_succ, List.replicate_succ, List.replicate_zero, Nat.reduceAdd, Nat.reduceSub, Nat.reduceBEq, Int.reduceLT, Int.reduceNeg, Int.reduceLE, Nat.reduceLeDiff, Nat.reduceLT, List.lookup_cons, List.lookup_nil, beq_self_eq_true, Option.map_some, Option.map_none, ee, e0, e1, kind_eq, hne, decide_eq_true hk, f1, hin, g1]
      · have hin := in_str (x := x) (xs := freeOf (elL kids false)) (b := false) (tb := (0, φ_Controls___contains__) :: []) (M := M1)
        rw [decide_eq_false hx, bn4] at hin
        refine ⟨M1, ?_, Keep.ext f3, .inr ⟨fun a h _ => by cases h; exact hx, s1⟩⟩
        unfold φ_choose
        refine run_def rfl ?_
        unfold ψ_choose
        simp only [LD.v_lenO, LD.v_eqQi, LD.v_neQi, LD.q_Ins, LD.q_App, LD.okS_t, LD.v_isLst, LD.lstK_s, LD.v_app, LD.q_Rev, LD.lsK_s, LD.q_Get, LD.getKK_s, LD.v_lsL, LD.v_keyI, LD.v_keyS, Option.isSome_some, Option.isSome_none, Option.getD_some, Option.getD_none, LD.v_eqs, LD.v_nes, LD.v_isiBb, LD.q_C, LD.q_Var, LD.q_Bin, LD.q_Un, LD.q_tOf, LD.q_tCmp, LD.q_tAnd, LD.q_tOr, LD.q_tNot, LD.q_And, LD.q_Or, LD.q_Not, LD.q_If, LD.q_Nil, LD.q_Cons, LD.q_Tup, LD.q_Lst, LD.q_LstM, LD.q_Call, LD.q_Meth, LD.q_Attr, LD.q_Blt, LD.q_Comp, LD.q_iOf, LD.srcK_s, LD.v_truB, LD.v_truL, LD.v_truN, LD.v_srcL, LD.v_neg, LD.q_iRange, LD.q_Next, LD.q_Seq, LD.q_Expr, LD.q_Ret, LD.q_RetN, LD.q_SIf, LD.q_Bk, LD.q_Ct, LD.q_Asg, LD.q_Nm, LD.q_Sub, LD.q_Del, LD.q_Fld, LD.q_Dic, LD.q_For, LD.wipeD, Bool.not_true, Bool.not_false, LD.ifT, LD.le0, LD.le1, LD.le2, LD.le3, LD.le4, LD.le5, LD.le6, LD.cmpK_l, LD.nn_n, LD.nn_i, LD.nn_t, LD.nn_l, LD.nn_r, LD.nn_b, LD.nn_s, LD.nonK_n, LD.okK_o, LD.bind_k, LD.bind_b, LD.bind_e, LD.bindS_k, LD.bindS_e, LD.ofO_s, LD.getV_s, LD.truK_s, LD.blK_b, LD.refK_r, LD.insK_i, LD.lookK_s, LD.lookK_n, LD.refS_r, LD.insS_i, LD.lookS_s, LD.seq_n, LD.seq_r, LD.seq_b, LD.seq_c, LD.seq_e, LD.storeK_s, LD.memK_s, LD.endF_n, LD.endF_r, LD.endF_e, LD.pick_t, LD.pick_f, LD.finL_f, LD.finL_t, LD.v_add, LD.v_sub, LD.v_mulR, LD.v_fdiv, LD.v_mod, LD.v_int, LD.v_lt, LD.v_le, LD.v_gt, LD.v_ge, LD.v_eq, LD.v_ne, LD.v_len, LD.v_tix, LD.v_lix, LD.v_rix, LD.rixK_l, LD.rixK_d, LD.v_isN, LD.v_isnN, LD.v_isNone, LD.v_isNoneN, LD.startD, List.length_cons, List.length_nil, List.map_cons, List.map_nil, List.cons_append, List.nil_append, List.append_nil, List.getElem?_cons_zero, List.getElem?_cons_succ, List.set_cons_zero, List.set_cons_succ, List.replicate_succ, List.replicate_zero, Nat.reduceAdd, Nat.reduceSub, Nat.reduceBEq, Int.reduceLT, Int.reduceNeg, Int.reduceLE, Nat.reduceLeDiff, Nat.reduceLT, List.lookup_cons, List.lookup_nil, beq_self_eq_true, Option.map_some, Option.map_none, ee, e0, e1, kind_eq, hne, decide_eq_true hk, f1, hin]
    · refine ⟨M, ?_, Keep.refl, .inr ⟨fun b h hb => by cases h; exact absurd hb hk, s⟩⟩
      unfold φ_choose
      refine run_def rfl ?_
      unfold ψ_choose
      simp only [LD.v_lenO, LD.v_eqQi, LD.v_neQi, LD.q_Ins, LD.q_App, LD.okS_t, LD.v_isLst, LD.lstK_s, LD.v_app, LD.q_Rev, LD.lsK_s, LD.q_Get, LD.getKK_s, LD.v_lsL, LD.v_keyI, LD.v_keyS, Option.isSome_some, Option.isSome_none, Option.getD_some, Option.getD_none, LD.v_eqs, LD.v_nes, LD.v_isiBb, LD.q_C, LD.q_Var, LD.q_Bin, LD.q_Un, LD.q_tOf, LD.q_tCmp, LD.q_tAnd, LD.q_tOr, LD.q_tNot, LD.q_And, LD.q_Or, LD.q_Not, LD.q_If, LD.q_Nil, LD.q_Cons, LD.q_Tup, LD.q_Lst, LD.q_LstM, LD.q_Call, LD.q_Meth, LD.q_Attr, LD.q_Blt, LD.q_Comp, LD.q_iOf, LD.srcK_s, LD.v_truB, LD.v_truL, LD.v_truN, LD.v_srcL, LD.v_neg, LD.q_iRange, LD.q_Next, LD.q_Seq, LD.q_Expr, LD.q_Ret, LD.q_RetN, LD.q_SIf, LD.q_Bk, LD.q_Ct, LD.q_Asg, LD.q_Nm, LD.q_Sub, LD.q_Del, LD.q_Fld, LD.q_Dic, LD.q_For, LD.wipeD, Bool.not_true, Bool.not_false, LD.ifT, LD.le0, LD.le1, LD.le2, LD.le3, LD.le4, LD.le5, LD.le6, LD.cmpK_l, LD.nn_n, LD.nn_i, LD.nn_t, LD.nn_l, LD.nn_r, LD.nn_b, LD.nn_s, LD.nonK_n, LD.okK_o, LD.bind_k, LD.bind_b, LD.bind_e, LD.bindS_k, LD.bindS_e, LD.ofO_s, LD.getV_s, LD.truK_s, LD.blK_b, LD.refK_r, LD.insK_i, LD.lookK_s, LD.lookK_n, LD.refS_r, LD.insS_i, LD.lookS_s, LD.seq_n, LD.seq_r, LD.seq_b, LD.seq_c, LD.seq_e, LD.storeK_s, LD.memK_s, LD.endF_n, LD.endF_r, LD.endF_e, LD.pick_t, LD.pick_f, LD.finL_f, LD.finL_t, LD.v_add, LD.v_sub, LD.v_mulR, LD.v_fdiv, LD.v_mod, LD.v_int, LD.v_lt, LD.v_le, LD.v_gt, LD.v_ge, LD.v_eq, LD.v_ne, LD.v_len, LD.v_tix, LD.v_lix, LD.v_rix, LD.rixK_l, LD.rixK_d, LD.v_isN, LD.v_isnN, LD.v_isNone, LD.v_isNoneN, LD.startD, List.length_cons, List.length_nil, List.map_cons, List.map_nil, List.cons_append, List.nil_append, List.append_nil, List.getElem?_cons_zero, List.getElem?_cons_succ, List.set_cons_zero, List.set_cons_succ, List.replicate_succ, List.replicate_zero, Nat.reduceAdd, Nat.reduceSub, Nat.reduceBEq, Int.reduceLT, Int.reduceNeg, Int.reduceLE, Nat.reduceLeDiff, Nat.reduceLT, List.lookup_cons, List.lookup_nil, beq_self_eq_true, Option.map_some, Option.map_none, ee, e0, e1, kind_eq, hne, decide_eq_false hk]
end K65
namespace K65
open PySem PySem.Spec PyProof.Rows L2 LD
/-! ### settling: plain -/
mutual
theorem elN_all : ∀ (a : Nd) (d : Bool) (pre : List Nd), pre.any dis = d → elN a d = ((allN a pre).filter fun q => isEl q.1).map fun q => (q.1, (q.2 ++ [q.1]).any dis)
  | .txt n x, d, pre, h => by
    rw [elN, allN, List.filter_cons_of_neg (by show ¬ isEl (.txt n x) = true; rw [elT]; exact Bool.false_ne_true), List.filter_nil, List.map_nil]
  | .el n tag ats kids, d, pre, h => by
    have hp : (pre ++ [Nd.el n tag ats kids]).any dis = (d || (attrOf ats "disabled").isSome) := by
      rw [List.any_append, h, List.any_cons, List.any_nil, Bool.or_false] <;> rfl
    rw [elN, allN, List.filter_cons_of_pos (by show isEl (.el n tag ats kids) = true; rfl), List.map_cons, elL_all kids _ (pre ++ [.el n tag ats kids]) hp, hp]
theorem elL_all : ∀ (l : List Nd) (d : Bool) (pre : List Nd), pre.any dis = d → elL l d = ((allL l pre).filter fun q => isEl q.1).map fun q => (q.1, (q.2 ++ [q.1]).any dis)
  | [], d, pre, h => by rw [elL, allL, List.filter_nil, List.map_nil]
  | a :: r, d, pre, h => by rw [elL, allL, List.filter_append, List.map_append, elN_all a d pre h, elL_all r d pre h]
end
theorem el_nd {doc : List Nd} (h : (numsL doc).Nodup) : ((elL doc false).map fun q => num q.1).Nodup := by
  rw [elL_all doc false [] rfl, List.map_map]
  have h2 : ((allL doc []).map fun p => num p.1).Nodup := by rw [all_numL]; exact h
  exact h2.sublist ((List.filter_sublist (l := allL doc [])).map _)
theorem fold_no {before : Kn} : ∀ (qs : List (Nd × Bool)) (f : Kn) (n : Int), (∀ q ∈ qs, num q.1 = n → kd q.1 = none) → qs.foldl (stepK before) f n = f n
  | [], f, n, _ => rfl
  | q :: qs, f, n, h => by
    rw [List.foldl_cons, fold_no qs _ n fun u hu => h u (List.mem_cons_of_mem _ hu)]
    unfold stepK
    cases hk : kd q.1 with
    | none => rfl
    | some k =>
      show updK f (num q.1) _ n = f n
      unfold updK
      rw [if_neg fun e => by rw [h q List.mem_cons_self e] at hk; cases hk]
theorem fold_at {before : Kn} : ∀ (qs : List (Nd × Bool)) (f : Kn) (q : Nd × Bool) (k : Str), (qs.map fun q => num q.1).Nodup → q ∈ qs → kd q.1 = some k → qs.foldl (stepK before) f (num q.1) = some (k, setV before q k)
  | [], f, q, k, _, h, _ => by cases h
  | u :: qs, f, q, k, nd, h, hk => by
    rw [List.map_cons, List.nodup_cons] at nd
    rw [List.foldl_cons]
    rcases List.mem_cons.mp h with rfl | h
    · rw [fold_no qs _ _ fun v hv e => absurd (List.mem_map.mpr ⟨v, hv, e⟩) nd.1]
      unfold stepK
      rw [hk]
      exact if_pos rfl
    · exact fold_at qs _ q k nd.2 h hk
theorem resK_at {before : Kn} {doc : List Nd} {q : Nd × Bool} {k : Str} (nd : (numsL doc).Nodup) (h : q ∈ elL doc false) (hk : kd q.1 = some k) : resK before doc (num q.1) = some (k, setV before q k) := fold_at _ _ q k (el_nd nd) h hk
theorem resK_no {before : Kn} {doc : List Nd} {n : Int} (h : ∀ q ∈ elL doc false, num q.1 = n → kd q.1 = none) : resK before doc n = none := fold_no _ _ n h
theorem pick_idem (v : Vl) (xs : List Str) : pickV (pickV v xs) xs = pickV v xs := by
  unfold pickV
  by_cases h : vlIn v xs = true
  · rw [if_pos h, if_pos h]
  · rw [if_neg h]
    cases xs with
    | nil => rw [if_neg (by show ¬ vlIn (.s "") [] = true; exact (by decide))] <;> rfl
    | cons x xs => rw [if_pos (by show decide (x ∈ x :: xs) = true; exact decide_eq_true List.mem_cons_self)]
theorem raw_of {f g : Kn} {q : Nd × Bool} {k : Str} (hf : f (num q.1) = some (k, setV g q k)) : rawV f q k = (match bndE (atsOf q.1) k with | some v => v | none => setV g q k) := by
  unfold rawV
  rw [hf]
  cases bndE (atsOf q.1) k with
  | some v => rfl
  | none => exact if_pos rfl
/-- what has been settled stays where only another number is changed -/
theorem stay {f g h : Kn} {doc : List Nd} (nd : (numsL doc).Nodup) (hf : ∀ n, f n = resK g doc n) {n : Int} (hn : h n = f n) : resK h doc n = f n := by
  by_cases hq : ∃ q ∈ elL doc false, num q.1 = n ∧ (kd q.1).isSome = true
  · obtain ⟨q, h1, rfl, h2⟩ := hq
    obtain ⟨k, hk⟩ := Option.isSome_iff_exists.mp h2
    have e1 := resK_at (before := g) nd h1 hk
    rw [← hf] at e1
    rw [resK_at nd h1 hk, e1]
    have e2 : rawV h q k = _ := raw_of (g := g) (hn.trans e1)
    congr 2
    unfold setV at e2 ⊢
    rw [e2]
    cases hb : bndE (atsOf q.1) k with
    | some v =>
      have e3 : rawV g q k = v := by unfold rawV; rw [hb]
      rw [if_neg (fun z => by cases z.2), if_neg (fun z => by cases z.2), e3]
    | none =>
      by_cases hk2 : k = "select"
      · rw [if_pos ⟨hk2, rfl⟩, if_pos ⟨hk2, rfl⟩]
        exact pick_idem _ _
      · rw [if_neg (fun z => hk2 z.1), if_neg (fun z => hk2 z.1)]
  · have no : ∀ b, resK b doc n = none := fun b => resK_no fun q h1 h2 => by
      cases hk : kd q.1 with
      | none => rfl
      | some k => exact absurd ⟨q, h1, h2, by rw [hk] <;> rfl⟩ hq
    rw [no, hf, no]
theorem stay_all {f g : Kn} {doc : List Nd} (nd : (numsL doc).Nodup) (hf : ∀ n, f n = resK g doc n) (n : Int) : resK f doc n = f n := stay nd hf rfl
/-- a select that is set -/
theorem set_at_n {f g : Kn} {doc : List Nd} {q : Nd × Bool} {x : Str} (nd : (numsL doc).Nodup) (h1 : q ∈ elL doc false) (hk : kd q.1 = some ("select" : Str)) (hx : x ∈ freeQ q) :
    resK (updK f (num q.1) (("select" : Str), .s x)) doc (num q.1) = some (("select" : Str), match bndE (atsOf q.1) "select" with | some v => v | none => .s x) := by
  rw [resK_at nd h1 hk]
  have hr : rawV (updK f (num q.1) (("select" : Str), .s x)) q "select" = (match bndE (atsOf q.1) "select" with | some v => v | none => .s x) := by
    unfold rawV
    cases bndE (atsOf q.1) "select" with
    | some v => rfl
    | none =>
      show (match updK f (num q.1) (("select" : Str), .s x) (num q.1) with | some p => _ | none => _) = _
      rw [show updK f (num q.1) (("select" : Str), .s x) (num q.1) = some (("select" : Str), .s x) from if_pos rfl]
      exact if_pos rfl
  congr 2
  unfold setV
  rw [hr]
  cases bndE (atsOf q.1) "select" with
  | some v => rw [if_neg (fun z => by cases z.2)]
  | none =>
    rw [if_pos ⟨rfl, rfl⟩]
    unfold pickV
    exact if_pos (show vlIn (.s x) (freeQ q) = true from decide_eq_true hx)
/-! ### the law's own functions -/
theorem lkind_eq (a : Nd) (M : Mem) : φ__law_kind [ndD a] M = .ok (oD (kd a)) M := by
  unfold φ__law_kind
  refine run_def rfl ?_
  unfold ψ__law_kind
  cases a with
  | txt n x =>
    simp only [LD.v_lenO, LD.v_eqQi, LD.v_neQi, LD.q_Ins, LD.q_App, LD.okS_t, LD.v_isLst, LD.lstK_s, LD.v_app, LD.q_Rev, LD.lsK_s, LD.q_Get, LD.getKK_s, LD.v_lsL, LD.v_keyI, LD.v_keyS, Option.isSome_some, Option.isSome_none, Option.getD_some, Option.getD_none, LD.v_eqs, LD.v_nes, LD.v_isiBb, LD.q_C, LD.q_Var, LD.q_Bin, LD.q_Un, LD.q_tOf, LD.q_tCmp, LD.q_tAnd, LD.q_tOr, LD.q_tNot, LD.q_And, LD.q_Or, LD.q_Not, LD.q_If, LD.q_Nil, LD.q_Cons, LD.q_Tup, LD.q_Lst, LD.q_LstM, LD.q_Call, LD.q_Meth, LD.q_Attr, LD.q_Blt, LD.q_Comp, LD.q_iOf, LD.srcK_s, LD.v_truB, LD.v_truL, LD.v_truN, LD.v_srcL, LD.v_neg, LD.q_iRange, LD.q_Next, LD.q_Seq, LD.q_Expr, LD.q_Ret, LD.q_RetN, LD.q_SIf, LD.q_Bk, LD.q_Ct, LD.q_Asg, LD.q_Nm, LD.q_Sub, LD.q_Del, LD.q_Fld, LD.q_Dic, LD.q_For, LD.wipeD, Bool.not_true, Bool.not_false, LD.ifT, LD.le0, LD.le1, LD.le2, LD.le3, LD.le4, LD.le5, LD.le6, LD.cmpK_l, LD.nn_n, LD.nn_i, LD.nn_t, LD.nn_l, LD.nn_r, LD.nn_b, LD.nn_s, LD.nonK_n, LD.okK_o, LD.bind_k, LD.bind_b, LD.bind_e, LD.bindS_k, LD.bindS_e, LD.ofO_s, LD.getV_s, LD.truK_s, LD.blK_b, LD.refK_r, LD.insK_i, LD.lookK_s, LD.lookK_n, LD.refS_r, LD.insS_i, LD.lookS_s, LD.seq_n, LD.seq_r, LD.seq_b, LD.seq_c, LD.seq_e, LD.storeK_s, LD.memK_s, LD.endF_n, LD.endF_r, LD.endF_e, LD.pick_t, LD.pick_f, LD.finL_f, LD.finL_t, LD.v_add, LD.v_sub, LD.v_mulR, LD.v_fdiv, LD.v_mod, LD.v_int, LD.v_lt, LD.v_le, LD.v_gt, LD.v_ge, LD.v_eq, LD.v_ne, LD.v_len, LD.v_tix, LD.v_lix, LD.v_rix, LD.rixK_l, LD.rixK_d, LD.v_isN, LD.v_isnN, LD.v_isNone, LD.v_isNoneN, LD.startD, List.length_cons, List.length_nil, List.map_cons, List.map_nil, List.cons_append, List.nil_append, List.append_nil, List.getElem?_cons_zero, List.getElem?_cons_succ, List.set_cons_zero, List.set_cons_succ, List.replicate_succ, List.replicate_zero, Nat.reduceAdd, Nat.reduceSub, Nat.reduceBEq, Int.reduceLT, Int.reduceNeg, Int.reduceLE, Nat.reduceLeDiff, Nat.reduceLT, List.lookup_cons, List.lookup_nil, beq_self_eq_true, Option.map_some, Option.map_none, nd0, eqK, elT, v_nes]
    rfl
  | el n tag ats kids =>
    show _ = LD.R.ok (oD (kindE tag ats)) M
    unfold kindE
    by_cases h1 : tag = "select"
    · subst h1
      have hm : decide (("select" : Str) ∈ (["input", "area", "select"] : List Str)) = true := by decide
      simp only [LD.v_lenO, LD.v_eqQi, LD.v_neQi, LD.q_Ins, LD.q_App, LD.okS_t, LD.v_isLst, LD.lstK_s, LD.v_app, LD.q_Rev, LD.lsK_s, LD.q_Get, LD.getKK_s, LD.v_lsL, LD.v_keyI, LD.v_keyS, Option.isSome_some, Option.isSome_none, Option.getD_some, Option.getD_none, LD.v_eqs, LD.v_nes, LD.v_isiBb, LD.q_C, LD.q_Var, LD.q_Bin, LD.q_Un, LD.q_tOf, LD.q_tCmp, LD.q_tAnd, LD.q_tOr, LD.q_tNot, LD.q_And, LD.q_Or, LD.q_Not, LD.q_If, LD.q_Nil, LD.q_Cons, LD.q_Tup, LD.q_Lst, LD.q_LstM, LD.q_Call, LD.q_Meth, LD.q_Attr, LD.q_Blt, LD.q_Comp, LD.q_iOf, LD.srcK_s, LD.v_truB, LD.v_truL, LD.v_truN, LD.v_srcL, LD.v_neg, LD.q_iRange, LD.q_Next, LD.q_Seq, LD.q_Expr, LD.q_Ret, LD.q_RetN, LD.q_SIf, LD.q_Bk, LD.q_Ct, LD.q_Asg, LD.q_Nm, LD.q_Sub, LD.q_Del, LD.q_Fld, LD.q_Dic, LD.q_For, LD.wipeD, Bool.not_true, Bool.not_false, LD.ifT, LD.le0, LD.le1, LD.le2, LD.le3, LD.le4, LD.le5, LD.le6, LD.cmpK_l, LD.nn_n, LD.nn_i, LD.nn_t, LD.nn_l, LD.nn_r, LD.nn_b, LD.nn_s, LD.nonK_n, LD.okK_o, LD.bind_k, LD.bind_b, LD.bind_e, LD.bindS_k, LD.bindS_e, LD.ofO_s, LD.getV_s, LD.truK_s, LD.blK_b, LD.refK_r, LD.insK_i, LD.lookK_s, LD.lookK_n, LD.refS_r, LD.insS_i, LD.lookS_s, LD.seq_n, LD.seq_r, LD.seq_b, LD.seq_c, LD.seq_e, LD.storeK_s, LD.memK_s, LD.endF_n, LD.endF_r, LD.endF_e, LD.pick_t, LD.pick_f, LD.finL_f, LD.finL_t, LD.v_add, LD.v_sub, LD.v_mulR, LD.v_fdiv, LD.v_mod, LD.v_int, LD.v_lt, LD.v_le, LD.v_gt, LD.v_ge, LD.v_eq, LD.v_ne, LD.v_len, LD.v_tix, LD.v_lix, LD.v_rix, LD.rixK_l, LD.rixK_d, LD.v_isN, LD.v_isnN, LD.v_isNone, LD.v_isNoneN, LD.startD, List.length_cons, List.length_nil, List.map_cons, List.map_nil, List.cons_append, List.nil_append, List.append_nil, List.getElem?_cons_zero, List.getElem?_cons_succ, List.set_cons_zero, List.set_cons_succ, List.replicate_succ, List.replicate_zero, Nat.reduceAdd, Nat.reduceSub, Nat.reduceBEq, Int.reduceLT, Int.reduceNeg, Int.reduceLE, Nat.reduceLeDiff, Nat.reduceLT, List.lookup_cons, List.lookup_nil, beq_self_eq_true, Option.map_some, Option.map_none, nd0, eqK, elE, nd2, in3l, hm, bn1, bn2, bn3, bn4, if_true]
      rfl
    · rw [if_neg h1]
      have n1 : (tag == "select") = false := beq_eq_false_iff_ne.mpr h1
      by_cases h2 : tag = "input"
      · subst h2
        have hm : decide (("input" : Str) ∈ (["input", "area", "select"] : List Str)) = true := by decide
        rw [if_pos rfl]
        by_cases hb : attrOf ats "kind" = some ("box" : Str)
        · rw [if_pos hb]
          simp only [LD.v_lenO, LD.v_eqQi, LD.v_neQi, LD.q_Ins, LD.q_App, LD.okS_t, LD.v_isLst, LD.lstK_s, LD.v_app, LD.q_Rev, LD.lsK_s, LD.q_Get, LD.getKK_s, LD.v_lsL, LD.v_keyI, LD.v_keyS, Option.isSome_some, Option.isSome_none, Option.getD_some, Option.getD_none, LD.v_eqs, LD.v_nes, LD.v_isiBb, LD.q_C, LD.q_Var, LD.q_Bin, LD.q_Un, LD.q_tOf, LD.q_tCmp, LD.q_tAnd, LD.q_tOr, LD.q_tNot, LD.q_And, LD.q_Or, LD.q_Not, LD.q_If, LD.q_Nil, LD.q_Cons, LD.q_Tup, LD.q_Lst, LD.q_LstM, LD.q_Call, LD.q_Meth, LD.q_Attr, LD.q_Blt, LD.q_Comp, LD.q_iOf, LD.srcK_s, LD.v_truB, LD.v_truL, LD.v_truN, LD.v_srcL, LD.v_neg, LD.q_iRange, LD.q_Next, LD.q_Seq, LD.q_Expr, LD.q_Ret, LD.q_RetN, LD.q_SIf, LD.q_Bk, LD.q_Ct, LD.q_Asg, LD.q_Nm, LD.q_Sub, LD.q_Del, LD.q_Fld, LD.q_Dic, LD.q_For, LD.wipeD, Bool.not_true, Bool.not_false, LD.ifT, LD.le0, LD.le1, LD.le2, LD.le3, LD.le4, LD.le5, LD.le6, LD.cmpK_l, LD.nn_n, LD.nn_i, LD.nn_t, LD.nn_l, LD.nn_r, LD.nn_b, LD.nn_s, LD.nonK_n, LD.okK_o, LD.bind_k, LD.bind_b, LD.bind_e, LD.bindS_k, LD.bindS_e, LD.ofO_s, LD.getV_s, LD.truK_s, LD.blK_b, LD.refK_r, LD.insK_i, LD.lookK_s, LD.lookK_n, LD.refS_r, LD.insS_i, LD.lookS_s, LD.seq_n, LD.seq_r, LD.seq_b, LD.seq_c, LD.seq_e, LD.storeK_s, LD.memK_s, LD.endF_n, LD.endF_r, LD.endF_e, LD.pick_t, LD.pick_f, LD.finL_f, LD.finL_t, LD.v_add, LD.v_sub, LD.v_mulR, LD.v_fdiv, LD.v_mod, LD.v_int, LD.v_lt, LD.v_le, LD.v_gt, LD.v_ge, LD.v_eq, LD.v_ne, LD.v_len, LD.v_tix, LD.v_lix, LD.v_rix, LD.rixK_l, LD.rixK_d, LD.v_isN, LD.v_isnN, LD.v_isNone, LD.v_isNoneN, LD.startD, List.length_cons, List.length_nil, List.map_cons, List.map_nil, List.cons_append, List.nil_append, List.append_nil, List.getElem?_cons_zero, List.getElem?_cons_succ, List.set_cons_zero, List.set_cons_succ, List.replicate_succ, List.replicate_zero, Nat.reduceAdd, Nat.reduceSub, Nat.reduceBEq, Int.reduceLT, Int.reduceNeg, Int.reduceLE, Nat.reduceLeDiff, Nat.reduceLT, List.lookup_cons, List.lookup_nil, beq_self_eq_true, Option.map_some, Option.map_none, nd0, eqK, elE, nd2, in3l, hm, bn1, bn2, bn3, bn4, n1, lattr_eq, o_eqS, decide_eq_true hb]
          rfl
        · rw [if_neg hb]
          simp only [LD.v_lenO, LD.v_eqQi, LD.v_neQi, LD.q_Ins, LD.q_App, LD.okS_t, LD.v_isLst, LD.lstK_s, LD.v_app, LD.q_Rev, LD.lsK_s, LD.q_Get, LD.getKK_s, LD.v_lsL, LD.v_keyI, LD.v_keyS, Option.isSome_some, Option.isSome_none, Option.getD_some, Option.getD_none, LD.v_eqs, LD.v_nes, LD.v_isiBb, LD.q_C, LD.q_Var, LD.q_Bin, LD.q_Un, LD.q_tOf, LD.q_tCmp, LD.q_tAnd, LD.q_tOr, LD.q_tNot, LD.q_And, LD.q_Or, LD.q_Not, LD.q_If, LD.q_Nil, LD.q_Cons, LD.q_Tup, LD.q_Lst, LD.q_LstM, LD.q_Call, LD.q_Meth, LD.q_Attr, LD.q_Blt, LD.q_Comp, LD.q_iOf, LD.srcK_s, LD.v_truB, LD.v_truL, LD.v_truN, LD.v_srcL, LD.v_neg, LD.q_iRange, LD.q_Next, LD.q_Seq, LD.q_Expr, LD.q_Ret, LD.q_RetN, LD.q_SIf, LD.q_Bk, LD.q_Ct, LD.q_Asg, LD.q_Nm, LD.q_Sub, LD.q_Del, LD.q_Fld, LD.q_Dic, LD.q_For, LD.wipeD, Bool.not_true, Bool.not_false, LD.ifT, LD.le0, LD.le1, LD.le2, LD.le3, LD.le4, LD.le5, LD.le6, LD.cmpK_l, LD.nn_n, LD.nn_i, LD.nn_t, LD.nn_l, LD.nn_r, LD.nn_b, LD.nn_s, LD.nonK_n, LD.okK_o, LD.bind_k, LD.bind_b, LD.bind_e, LD.bindS_k, LD.bindS_e, LD.ofO_s, LD.getV_s, LD.truK_s, LD.blK_b, LD.refK_r, LD.insK_i, LD.lookK_s, LD.lookK_n, LD.refS_r, LD.insS_i, LD.lookS_s, LD.seq_n, LD.seq_r, LD.seq_b, LD.seq_c, LD.seq_e, LD.storeK_s, LD.memK_s, LD.endF_n, LD.endF_r, LD.endF_e, LD.pick_t, LD.pick_f, LD.finL_f, LD.finL_t, LD.v_add, LD.v_sub, LD.v_mulR, LD.v_fdiv, LD.v_mod, LD.v_int, LD.v_lt, LD.v_le, LD.v_gt, LD.v_ge, LD.v_eq, LD.v_ne, LD.v_len, LD.v_tix, LD.v_lix, LD.v_rix, LD.rixK_l, LD.rixK_d, LD.v_isN, LD.v_isnN, LD.v_isNone, LD.v_isNoneN, LD.startD, List.length_cons, List.length_nil, List.map_cons, List.map_nil, List.cons_append, List.nil_append, List.append_nil, List.getElem?_cons_zero, List.getElem?_cons_succ, List.set_cons_zero, List.set_cons_succ, List.replicate_succ, List.replicate_zero, Nat.reduceAdd, Nat.reduceSub, Nat.reduceBEq, Int.reduceLT, Int.reduceNeg, Int.reduceLE, Nat.reduceLeDiff, Nat.reduceLT, List.lookup_cons, List.lookup_nil, beq_self_eq_true, Option.map_some, Option.map_none, nd0, eqK, elE, nd2, in3l, hm, bn1, bn2, bn3, bn4, n1, lattr_eq, o_eqS, decide_eq_false hb]
          rfl
      · rw [if_neg h2]
        have n2 : (tag == "input") = false := beq_eq_false_iff_ne.mpr h2
        by_cases h3 : tag = "area"
        · subst h3
          have hm : decide (("area" : Str) ∈ (["input", "area", "select"] : List Str)) = true := by decide
          rw [if_pos rfl]
          simp only [LD.v_lenO, LD.v_eqQi, LD.v_neQi, LD.q_Ins, LD.q_App, LD.okS_t, LD.v_isLst, LD.lstK_s, LD.v_app, LD.q_Rev, LD.lsK_s, LD.q_Get, LD.getKK_s, LD.v_lsL, LD.v_keyI, LD.v_keyS, Option.isSome_some, Option.isSome_none, Option.getD_some, Option.getD_none, LD.v_eqs, LD.v_nes, LD.v_isiBb, LD.q_C, LD.q_Var, LD.q_Bin, LD.q_Un, LD.q_tOf, LD.q_tCmp, LD.q_tAnd, LD.q_tOr, LD.q_tNot, LD.q_And, LD.q_Or, LD.q_Not, LD.q_If, LD.q_Nil, LD.q_Cons, LD.q_Tup, LD.q_Lst, LD.q_LstM, LD.q_Call, LD.q_Meth, LD.q_Attr, LD.q_Blt, LD.q_Comp, LD.q_iOf, LD.srcK_s, LD.v_truB, LD.v_truL, LD.v_truN, LD.v_srcL, LD.v_neg, LD.q_iRange, LD.q_Next, LD.q_Seq, LD.q_Expr, LD.q_Ret, LD.q_RetN, LD.q_SIf, LD.q_Bk, LD.q_Ct, LD.q_Asg, LD.q_Nm, LD.q_Sub, LD.q_Del, LD.q_Fld, LD.q_Dic, LD.q_For, LD.wipeD, Bool.not_true, Bool.not_false, LD.ifT, LD.le0, LD.le1, LD.le2, LD.le3, LD.le4, LD.le5, LD.le6, LD.cmpK_l, LD.nn_n, LD.nn_i, LD.nn_t, LD.nn_l, LD.nn_r, LD.nn_b, LD.nn_s, LD.nonK_n, LD.okK_o, LD.bind_k, LD.bind_b, LD.bind_e, LD.bindS_k, LD.bindS_e, LD.ofO_s, LD.getV_s, LD.truK_s, LD.blK_b, LD.refK_r, LD.insK_i, LD.lookK_s, LD.lookK_n, LD.refS_r, LD.insS_i, LD.lookS_s, LD.seq_n, LD.seq_r, LD.seq_b, LD.seq_c, LD.seq_e, LD.storeK_s, LD.memK_s, LD.endF_n, LD.endF_r, LD.endF_e, LD.pick_t, LD.pick_f, LD.finL_f, LD.finL_t, LD.v_add, LD.v_sub, LD.v_mulR, LD.v_fdiv, LD.v_mod, LD.v_int, LD.v_lt, LD.v_le, LD.v_gt, LD.v_ge, LD.v_eq, LD.v_ne, LD.v_len, LD.v_tix, LD.v_lix, LD.v_rix, LD.rixK_l, LD.rixK_d, LD.v_isN, LD.v_isnN, LD.v_isNone, LD.v_isNoneN, LD.startD, List.length_cons, List.length_nil, List.map_cons, List.map_nil, List.cons_append, List.nil_append, List.append_nil, List.getElem?_cons_zero, List.getElem?_cons_succ, List.set_cons_zero, List.set_cons_succ, List.replicate_succ, List.replicate_zero, Nat.reduceAdd, Nat.reduceSub, Nat.reduceBEq, Int.reduceLT, Int.reduceNeg, Int.reduceLE, Nat.reduceLeDiff, Nat.reduceLT, List.lookup_cons, List.lookup_nil, beq_self_eq_true, Option.map_some, Option.map_none, nd0, eqK, elE, nd2, in3l, hm, bn1, bn2, bn3, bn4, n1, n2]
          rfl
        · rw [if_neg h3]
          have hm : decide (tag ∈ (["input", "area", "select"] : List Str)) = false := decide_eq_false fun z => by simp at z; rcases z with z | z | z <;> contradiction
          simp only [LD.v_lenO, LD.v_eqQi, LD.v_neQi, LD.q_Ins, LD.q_App, LD.okS_t, LD.v_isLst, LD.lstK_s, LD.v_app, LD.q_Rev, LD.lsK_s, LD.q_Get, LD.getKK_s, LD.v_lsL, LD.v_keyI, LD.v_keyS, Option.isSome_some, Option.isSome_none, Option.getD_some, Option.getD_none, LD.v_eqs, LD.v_nes, LD.v_isiBb, LD.q_C, LD.q_Var, LD.q_Bin, LD.q_Un, LD.q_tOf, LD.q_tCmp, LD.q_tAnd, LD.q_tOr, LD.q_tNot, LD.q_And, LD.q_Or, LD.q_Not, LD.q_If, LD.q_Nil, LD.q_Cons, LD.q_Tup, LD.q_Lst, LD.q_LstM, LD.q_Call, LD.q_Meth, LD.q_Attr, LD.q_Blt, LD.q_Comp, LD.q_iOf, LD.srcK_s, LD.v_truB, LD.v_truL, LD.v_truN, LD.v_srcL, LD.v_neg, LD.q_iRange, LD.q_Next, LD.q_Seq, LD.q_Expr, LD.q_Ret, LD.q_RetN, LD.q_SIf, LD.q_Bk, LD.q_Ct, LD.q_Asg, LD.q_Nm, LD.q_Sub, LD.q_Del, LD.q_Fld, LD.q_Dic, LD.q_For, LD.wipeD, Bool.not_true, Bool.not_false, LD.ifT, LD.le0, LD.le1, LD.le2, LD.le3, LD.le4, LD.le5, LD.le6, LD.cmpK_l, LD.nn_n, LD.nn_i, LD.nn_t, LD.nn_l, LD.nn_r, LD.nn_b, LD.nn_s, LD.nonK_n, LD.okK_o, LD.bind_k, LD.bind_b, LD.bind_e, LD.bindS_k, LD.bindS_e, LD.ofO_s, LD.getV_s, LD.truK_s, LD.blK_b, LD.refK_r, LD.insK_i, LD.lookK_s, LD.lookK_n, LD.refS_r, LD.insS_i, LD.lookS_s, LD.seq_n, LD.seq_r, LD.seq_b, LD.seq_c, LD.seq_e, LD.storeK_s, LD.memK_s, LD.endF_n, LD.endF_r, LD.endF_e, LD.pick_t, LD.pick_f, LD.finL_f, LD.finL_t, LD.v_add, LD.v_sub, LD.v_mulR, LD.v_fdiv, LD.v_mod, LD.v_int, LD.v_lt, LD.v_le, LD.v_gt, LD.v_ge, LD.v_eq, LD.v_ne, LD.v_len, LD.v_tix, LD.v_lix, LD.v_rix, LD.rixK_l, LD.rixK_d, LD.v_isN, LD.v_isnN, LD.v_isNone, LD.v_isNoneN, LD.startD, List.length_cons, List.length_nil, List.map_cons, List.map_nil, List.cons_append, List.nil_append, List.append_nil, List.getElem?_cons_zero, List.getElem?_cons_succ, List.set_cons_zero, List.set_cons_succ, List.replicate_succ, List.replicate_zero, Nat.reduceAdd, Nat.reduceSub, Nat.reduceBEq, Int.reduceLT, Int.reduceNeg, Int.reduceLE, Nat.reduceLeDiff, Nat.reduceLT, List.lookup_cons, List.lookup_nil, beq_self_eq_true, Option.map_some, Option.map_none, nd0, eqK, elE, nd2, in3l, hm, bn1, bn2, bn3, bn4]
          rfl
theorem shut_loop {M : Mem} {a0 a1 : Option D} : ∀ (l : List Nd) (x2 : Option D), (l.any dis = false ∧ ∃ y2, forV (fun _ => true) (gNm 2) β__law_shut_1 (l.map ndD) [a0, a1, x2] M = .nx [a0, a1, y2] M) ∨ (l.any dis = true ∧ forV (fun _ => true) (gNm 2) β__law_shut_1 (l.map ndD) [a0, a1, x2] M = .rt (.bl true) M)
  | [], x2 => .inl ⟨rfl, x2, forV_n rfl⟩
  | a :: r, x2 => by
    rw [List.map_cons, List.any_cons]
    cases hd : dis a with
    | true =>
      refine .inr ⟨rfl, forV_r rfl rfl ?_⟩
      cases a with
      | txt n x => cases hd
      | el n tag ats kids =>
        have hs : (attrOf ats "disabled").isSome = true := hd
        unfold β__law_shut_1
        simp only [LD.v_lenO, LD.v_eqQi, LD.v_neQi, LD.q_Ins, LD.q_App, LD.okS_t, LD.v_isLst, LD.lstK_s, LD.v_app, LD.q_Rev, LD.lsK_s, LD.q_Get, LD.getKK_s, LD.v_lsL, LD.v_keyI, LD.v_keyS, Option.isSome_some, Option.isSome_none, Option.getD_some, Option.getD_none, LD.v_eqs, LD.v_nes, LD.v_isiBb, LD.q_C, LD.q_Var, LD.q_Bin, LD.q_Un, LD.q_tOf, LD.q_tCmp, LD.q_tAnd, LD.q_tOr, LD.q_tNot, LD.q_And, LD.q_Or, LD.q_Not, LD.q_If, LD.q_Nil, LD.q_Cons, LD.q_Tup, LD.q_Lst, LD.q_LstM, LD.q_Call, LD.q_Meth, LD.q_Attr, LD.q_Blt, LD.q_Comp, LD.q_iOf, LD.srcK_s, LD.v_truB, LD.v_truL, LD.v_truN, LD.v_srcL, LD.v_neg, LD.q_iRange, LD.q_Next, LD.q_Seq, LD.q_Expr, LD.q_Ret, LD.q_RetN, LD.q_SIf, LD.q_Bk, LD.q_Ct, LD.q_Asg, LD.q_Nm, LD.q_Sub, LD.q_Del, LD.q_Fld, LD.q_Dic, LD.q_For, LD.wipeD, Bool.not_true, Bool.not_false, LD.ifT, LD.le0, LD.le1, LD.le2, LD.le3, LD.le4, LD.le5, LD.le6, LD.cmpK_l, LD.nn_n, LD.nn_i, LD.nn_t, LD.nn_l, LD.nn_r, LD.nn_b, LD.nn_s, LD.nonK_n, LD.okK_o, LD.bind_k, LD.bind_b, LD.bind_e, LD.bindS_k, LD.bindS_e, LD.ofO_s, LD.getV_s, LD.truK_s, LD.blK_b, LD.refK_r, LD.insK_i, LD.lookK_s, LD.lookK_n, LD.refS_r, LD.insS_i, LD.lookS_s, LD.seq_n, LD.seq_r, LD.seq_b, LD.seq_c, LD.seq_e, LD.storeK_s, LD.memK_s, LD.endF_n, LD.endF_r, LD.endF_e, LD.pick_t, LD.pick_f, LD.finL_f, LD.finL_t, LD.v_add, LD.v_sub, LD.v_mulR, LD.v_fdiv, LD.v_mod, LD.v_int, LD.v_lt, LD.v_le, LD.v_gt, LD.v_ge, LD.v_eq, LD.v_ne, LD.v_len, LD.v_tix, LD.v_lix, LD.v_rix, LD.rixK_l, LD.rixK_d, LD.v_isN, LD.v_isnN, LD.v_isNone, LD.v_isNoneN, LD.startD, List.length_cons, List.length_nil, List.map_cons, List.map_nil, List.cons_append, List.nil_append, List.append_nil, List.getElem?_cons_zero, List.getElem?_cons_succ, List.set_cons_zero, List.set_cons_succ, List.replicate_succ, List.replicate_zero, Nat.reduceAdd, Nat.reduceSub, Nat.reduceBEq, Int.reduceLT, Int.reduceNeg, Int.reduceLE, Nat.reduceLeDiff, Nat.reduceLT, List.lookup_cons, List.lookup_nil, beq_self_eq_true, Option.map_some, Option.map_none, nd0, eqK, elE, lattr_eq, nn_o, hs]
    | false =>
      have st : β__law_shut_1 [a0, a1, some (ndD a)] M = .nx [a0, a1, some (ndD a)] M := by
        cases a with
        | txt n x =>
          unfold β__law_shut_1
          simp only [LD.v_lenO, LD.v_eqQi, LD.v_neQi, LD.q_Ins, LD.q_App, LD.okS_t, LD.v_isLst, LD.lstK_s, LD.v_app, LD.q_Rev, LD.lsK_s, LD.q_Get, LD.getKK_s, LD.v_lsL, LD.v_keyI, LD.v_keyS, Option.isSome_some, Option.isSome_none, Option.getD_some, Option.getD_none, LD.v_eqs, LD.v_nes, LD.v_isiBb, LD.q_C, LD.q_Var, LD.q_Bin, LD.q_Un, LD.q_tOf, LD.q_tCmp, LD.q_tAnd, LD.q_tOr, LD.q_tNot, LD.q_And, LD.q_Or, LD.q_Not, LD.q_If, LD.q_Nil, LD.q_Cons, LD.q_Tup, LD.q_Lst, LD.q_LstM, LD.q_Call, LD.q_Meth, LD.q_Attr, LD.q_Blt, LD.q_Comp, LD.q_iOf, LD.srcK_s, LD.v_truB, LD.v_truL, LD.v_truN, LD.v_srcL, LD.v_neg, LD.q_iRange, LD.q_Next, LD.q_Seq, LD.q_Expr, LD.q_Ret, LD.q_RetN, LD.q_SIf, LD.q_Bk, LD.q_Ct, LD.q_Asg, LD.q_Nm, LD.q_Sub, LD.q_Del, LD.q_Fld, LD.q_Dic, LD.q_For, LD.wipeD, Bool.not_true, Bool.not_false, LD.ifT, LD.le0, LD.le1, LD.le2, LD.le3, LD.le4, LD.le5, LD.le6, LD.cmpK_l, LD.nn_n, LD.nn_i, LD.nn_t, LD.nn_l, LD.nn_r, LD.nn_b, LD.nn_s, LD.nonK_n, LD.okK_o, LD.bind_k, LD.bind_b, LD.bind_e, LD.bindS_k, LD.bindS_e, LD.ofO_s, LD.getV_s, LD.truK_s, LD.blK_b, LD.refK_r, LD.insK_i, LD.lookK_s, LD.lookK_n, LD.refS_r, LD.insS_i, LD.lookS_s, LD.seq_n, LD.seq_r, LD.seq_b, LD.seq_c, LD.seq_e, LD.storeK_s, LD.memK_s, LD.endF_n, LD.endF_r, LD.endF_e, LD.pick_t, LD.pick_f, LD.finL_f, LD.finL_t, LD.v_add, LD.v_sub, LD.v_mulR, LD.v_fdiv, LD.v_mod, LD.v_int, LD.v_lt, LD.v_le, LD.v_gt, LD.v_ge, LD.v_eq, LD.v_ne, LD.v_len, LD.v_tix, LD.v_lix, LD.v_rix, LD.rixK_l, LD.rixK_d, LD.v_isN, LD.v_isnN, LD.v_isNone, LD.v_isNoneN, LD.startD, List.length_cons, List.length_nil, List.map_cons, List.map_nil, List.cons_append, List.nil_append, List.append_nil, List.getElem?_cons_zero, List.getElem?_cons_succ, List.set_cons_zero, List.set_cons_succ, List.replicate_succ, List.replicate_zero, Nat.reduceAdd, Nat.reduceSub, Nat.reduceBEq, Int.reduceLT, Int.reduceNeg, Int.reduceLE, Nat.reduceLeDiff, Nat.reduceLT, List.lookup_cons, List.lookup_nil, beq_self_eq_true, Option.map_some, Option.map_none, nd0, eqK, elT]
        | el n tag ats kids =>
          have hs : (attrOf ats "disabled").isSome = false := hd
          unfold β__law_shut_1
          simp only [LD.v_lenO, LD.v_eqQi, LD.v_neQi, LD.q_Ins, LD.q_App, LD.okS_t, LD.v_isLst, LD.lstK_s, LD.v_app, LD.q_Rev, LD.lsK_s, LD.q_Get, LD.getKK_s, LD.v_lsL, LD.v_keyI, LD.v_keyS, Option.isSome_some, Option.isSome_none, Option.getD_some, Option.getD_none, LD.v_eqs, LD.v_nes, LD.v_isiBb, LD.q_C, LD.q_Var, LD.q_Bin, LD.q_Un, LD.q_tOf, LD.q_tCmp, LD.q_tAnd, LD.q_tOr, LD.q_tNot, LD.q_And, LD.q_Or, LD.q_Not, LD.q_If, LD.q_Nil, LD.q_Cons, LD.q_Tup, LD.q_Lst, LD.q_LstM, LD.q_Call, LD.q_Meth, LD.q_Attr, LD.q_Blt, LD.q_Comp, LD.q_iOf, LD.srcK_s, LD.v_truB, LD.v_truL, LD.v_truN, LD.v_srcL, LD.v_neg, LD.q_iRange, LD.q_Next, LD.q_Seq, LD.q_Expr, LD.q_Ret, LD.q_RetN, LD.q_SIf, LD.q_Bk, LD.q_Ct, LD.q_Asg, LD.q_Nm, LD.q_Sub, LD.q_Del, LD.q_Fld, LD.q_Dic, LD.q_For, LD.wipeD, Bool.not_true, Bool.not_false, LD.ifT, LD.le0, LD.le1, LD.le2, LD.le3, LD.le4, LD.le5, LD.le6, LD.cmpK_l, LD.nn_n, LD.nn_i, LD.nn_t, LD.nn_l, LD.nn_r, LD.nn_b, LD.nn_s, LD.nonK_n, LD.okK_o, LD.bind_k, LD.bind_b, LD.bind_e, LD.bindS_k, LD.bindS_e, LD.ofO_s, LD.getV_s, LD.truK_s, LD.blK_b, LD.refK_r, LD.insK_i, LD.lookK_s, LD.lookK_n, LD.refS_r, LD.insS_i, LD.lookS_s, LD.seq_n, LD.seq_r, LD.seq_b, LD.seq_c, LD.seq_e, LD.storeK_s, LD.memK_s, LD.endF_n, LD.endF_r, LD.endF_e, LD.pick_t, LD.pick_f, LD.finL_f, LD.finL_t, LD.v_add, LD.v_sub, LD.v_mulR, LD.v_fdiv, LD.v_mod, LD.v_int, LD.v_lt, LD.v_le, LD.v_gt, LD.v_ge, LD.v_eq, LD.v_ne, LD.v_len, LD.v_tix, LD.v_lix, LD.v_rix, LD.rixK_l, LD.rixK_d, LD.v_isN, LD.v_isnN, LD.v_isNone, LD.v_isNoneN, LD.startD, List.length_cons, List.length_nil, List.map_cons, List.map_nil, List.cons_append, List.nil_append, List.append_nil, List.getElem?_cons_zero, List.getElem?_cons_succ, List.set_cons_zero, List.set_cons_succ, List.replicate_succ, List.replicate_zero, Nat.reduceAdd, Nat.reduceSub, Nat.reduceBEq, Int.reduceLT, Int.reduceNeg, Int.reduceLE, Nat.reduceLeDiff, Nat.reduceLT, List.lookup_cons, List.lookup_nil, beq_self_eq_true, Option.map_some, Option.map_none, nd0, eqK, elE, lattr_eq, nn_o, hs]
      rcases shut_loop r (some (ndD a)) with ⟨h1, y2, h2⟩ | ⟨h1, h2⟩
      · exact .inl ⟨h1, y2, (forV_c rfl rfl st).trans h2⟩
      · exact .inr ⟨h1, (forV_c rfl rfl st).trans h2⟩
theorem shut_eq {p : List Nd} {a : Nd} {M : Mem} (hp : p.length < 1000) : φ__law_shut [ndD a, .lst (p.map ndD)] M = .ok (.bl ((p ++ [a]).any dis)) M := by
  have hL : (p.map ndD).length + ([ndD a] : List D).length ≤ LINE := by rw [List.length_map, List.length_singleton]; have := big; omega
  have hm : p.map ndD ++ [ndD a] = (p ++ [a]).map ndD := by rw [List.map_append] <;> rfl
  have ha : ∀ M : Mem, addD (.lst (p.map ndD)) (.lst [ndD a]) M = some (.lst ((p ++ [a]).map ndD), M) := fun M => by rw [v_addL hL, hm]
  unfold φ__law_shut
  refine run_def rfl ?_
  unfold ψ__law_shut
  rcases shut_loop (M := M) (a0 := some (ndD a)) (a1 := some (.lst (p.map ndD))) (p ++ [a]) none with ⟨h1, y2, h2⟩ | ⟨h1, h2⟩
  · rw [h1]
    simp only [LD.v_lenO, LD.v_eqQi, LD.v_neQi, LD.q_Ins, LD.q_App, LD.okS_t, LD.v_isLst, LD.lstK_s, LD.v_app, LD.q_Rev, LD.lsK_s, LD.q_Get, LD.getKK_s, LD.v_lsL, LD.v_keyI, LD.v_keyS, Option.isSome_some, Option.isSome_none, Option.getD_some, Option.getD_none, LD.v_eqs, LD.v_nes, LD.v_isiBb, LD.q_C, LD.q_Var, LD.q_Bin, LD.q_Un, LD.q_tOf, LD.q_tCmp, LD.q_tAnd, LD.q_tOr, LD.q_tNot, LD.q_And, LD.q_Or, LD.q_Not, LD.q_If, LD.q_Nil, LD.q_Cons, LD.q_Tup, LD.q_Lst, LD.q_LstM, LD.q_Call, LD.q_Meth, LD.q_Attr, LD.q_Blt, LD.q_Comp, LD.q_iOf, LD.srcK_s, LD.v_truB, LD.v_truL, LD.v_truN, LD.v_srcL, LD.v_neg, LD.q_iRange, LD.q_Next, LD.q_Seq, LD.q_Expr, LD.q_Ret, LD.q_RetN, LD.q_SIf, LD.q_Bk, LD.q_Ct, LD.q_Asg, LD.q_Nm, LD.q_Sub, LD.q_Del, LD.q_Fld, LD.q_Dic, LD.q_For, LD.wipeD, Bool.not_true, Bool.not_false, LD.ifT, LD.le0, LD.le1, LD.le2, LD.le3, LD.le4, LD.le5, LD.le6, LD.cmpK_l, LD.nn_n, LD.nn_i, LD.nn_t, LD.nn_l, LD.nn_r, LD.nn_b, LD.nn_s, LD.nonK_n, LD.okK_o, LD.bind_k, LD.bind_b, LD.bind_e, LD.bindS_k, LD.bindS_e, LD.ofO_s, LD.getV_s, LD.truK_s, LD.blK_b, LD.refK_r, LD.insK_i, LD.lookK_s, LD.lookK_n, LD.refS_r, LD.insS_i, LD.lookS_s, LD.seq_n, LD.seq_r, LD.seq_b, LD.seq_c, LD.seq_e, LD.storeK_s, LD.memK_s, LD.endF_n, LD.endF_r, LD.endF_e, LD.pick_t, LD.pick_f, LD.finL_f, LD.finL_t, LD.v_add, LD.v_sub, LD.v_mulR, LD.v_fdiv, LD.v_mod, LD.v_int, LD.v_lt, LD.v_le, LD.v_gt, LD.v_ge, LD.v_eq, LD.v_ne, LD.v_len, LD.v_tix, LD.v_lix, LD.v_rix, LD.rixK_l, LD.rixK_d, LD.v_isN, LD.v_isnN, LD.v_isNone, LD.v_isNoneN, LD.startD, List.length_cons, List.length_nil, List.map_cons, List.map_nil, List.cons_append, List.nil_append, List.append_nil, List.getElem?_cons_zero, List.getElem?_cons_succ, List.set_cons_zero, List.set_cons_succ, List.replicate_succ, List.replicate_zero, Nat.reduceAdd, Nat.reduceSub, Nat.reduceBEq, Int.reduceLT, Int.reduceNeg, Int.reduceLE, Nat.reduceLeDiff, Nat.reduceLT, List.lookup_cons, List.lookup_nil, beq_self_eq_true, Option.map_some, Option.map_none, ha, h2]
  · rw [h1]
    simp only [LD.v_lenO, LD.v_eqQi, LD.v_neQi, LD.q_Ins, LD.q_App, LD.okS_t, LD.v_isLst, LD.lstK_s, LD.v_app, LD.q_Rev, LD.lsK_s, LD.q_Get, LD.getKK_s, LD.v_lsL, LD.v_keyI, LD.v_keyS, Option.isSome_some, Option.isSome_none, Option.getD_some, Option.getD_none, LD.v_eqs, LD.v_nes, LD.v_isiBb, LD.q_C, LD.q_Var, LD.q_Bin, LD.q_Un, LD.q_tOf, LD.q_tCmp, LD.q_tAnd, LD.q_tOr, LD.q_tNot, LD.q_And, LD.q_Or, LD.q_Not, LD.q_If, LD.q_Nil, LD.q_Cons, LD.q_Tup, LD.q_Lst, LD.q_LstM, LD.q_Call, LD.q_Meth, LD.q_Attr, LD.q_Blt, LD.q_Comp, LD.q_iOf, LD.srcK_s, LD.v_truB, LD.v_truL, LD.v_truN, LD.v_srcL, LD.v_neg, LD.q_iRange, LD.q_Next, LD.q_Seq, LD.q_Expr, LD.q_Ret, LD.q_RetN, LD.q_SIf, LD.q_Bk, LD.q_Ct, LD.q_Asg, LD.q_Nm, LD.q_Sub, LD.q_Del, LD.q_Fld, LD.q_Dic, LD.q_For, LD.wipeD, Bool.not_true, Bool.not_false, LD.ifT, LD.le0, LD.le1, LD.le2, LD.le3, LD.le4, LD.le5, LD.le6, LD.cmpK_l, LD.nn_n, LD.nn_i, LD.nn_t, LD.nn_l, LD.nn_r, LD.nn_b, LD.nn_s, LD.nonK_n, LD.okK_o, LD.bind_k, LD.bind_b, LD.bind_e, LD.bindS_k, LD.bindS_e, LD.ofO_s, LD.getV_s, LD.truK_s, LD.blK_b, LD.refK_r, LD.insK_i, LD.lookK_s, LD.lookK_n, LD.refS_r, LD.insS_i, LD.lookS_s, LD.seq_n, LD.seq_r, LD.seq_b, LD.seq_c, LD.seq_e, LD.storeK_s, LD.memK_s, LD.endF_n, LD.endF_r, LD.endF_e, LD.pick_t, LD.pick_f, LD.finL_f, LD.finL_t, LD.v_add, LD.v_sub, LD.v_mulR, LD.v_fdiv, LD.v_mod, LD.v_int, LD.v_lt, LD.v_le, LD.v_gt, LD.v_ge, LD.v_eq, LD.v_ne, LD.v_len, LD.v_tix, LD.v_lix, LD.v_rix, LD.rixK_l, LD.rixK_d, LD.v_isN, LD.v_isnN, LD.v_isNone, LD.v_isNoneN, LD.startD, List.length_cons, List.length_nil, List.map_cons, List.map_nil, List.cons_append, List.nil_append, List.append_nil, List.getElem?_cons_zero, List.getElem?_cons_succ, List.set_cons_zero, List.set_cons_succ, List.replicate_succ, List.replicate_zero, Nat.reduceAdd, Nat.reduceSub, Nat.reduceBEq, Int.reduceLT, Int.reduceNeg, Int.reduceLE, Nat.reduceLeDiff, Nat.reduceLT, List.lookup_cons, List.lookup_nil, beq_self_eq_true, Option.map_some, Option.map_none, ha, h2]
theorem lbound_eq {n : Int} {tag : Str} {ats : List (Str × Str)} {kids : List Nd} {M : Mem} (hk : kd (.el n tag ats kids) = some ("select" : Str)) : φ__law_bound [ndD (.el n tag ats kids)] M = .ok (ovD (bndE ats "select")) M := by
  have e0 : (decide ((some ("select" : Str)) = some ("box" : Str))) = false := by decide
  have e1 : ovD (bndE ats "select") = oD (attrOf ats "value") := by
    unfold bndE
    rw [if_neg (by decide)]
    cases attrOf ats "value" <;> rfl
  rw [e1]
  unfold φ__law_bound
  refine run_def rfl ?_
  unfold ψ__law_bound
  simp only [LD.v_lenO, LD.v_eqQi, LD.v_neQi, LD.q_Ins, LD.q_App, LD.okS_t, LD.v_isLst, LD.lstK_s, LD.v_app, LD.q_Rev, LD.lsK_s, LD.q_Get, LD.getKK_s, LD.v_lsL, LD.v_keyI, LD.v_keyS, Option.isSome_some, Option.isSome_none, Option.getD_some, Option.getD_none, LD.v_eqs, LD.v_nes, LD.v_isiBb, LD.q_C, LD.q_Var, LD.q_Bin, LD.q_Un, LD.q_tOf, LD.q_tCmp, LD.q_tAnd, LD.q_tOr, LD.q_tNot, LD.q_And, LD.q_Or, LD.q_Not, LD.q_If, LD.q_Nil, LD.q_Cons, LD.q_Tup, LD.q_Lst, LD.q_LstM, LD.q_Call, LD.q_Meth, LD.q_Attr, LD.q_Blt, LD.q_Comp, LD.q_iOf, LD.srcK_s, LD.v_truB, LD.v_truL, LD.v_truN, LD.v_srcL, LD.v_neg, LD.q_iRange, LD.q_Next, LD.q_Seq, LD.q_Expr, LD.q_Ret, LD.q_RetN, LD.q_SIf, LD.q_Bk, LD.q_Ct, LD.q_Asg, LD.q_Nm, LD.q_Sub, LD.q_Del, LD.q_Fld, LD.q_Dic, LD.q_For, LD.wipeD, Bool.not_true, Bool.not_false, LD.ifT, LD.le0, LD.le1, LD.le2, LD.le3, LD.le4, LD.le5, LD.le6, LD.cmpK_l, LD.nn_n, LD.nn_i, LD.nn_t, LD.nn_l, LD.nn_r, LD.nn_b, LD.nn_s, LD.nonK_n, LD.okK_o, LD.bind_k, LD.bind_b, LD.bind_e, LD.bindS_k, LD.bindS_e, LD.ofO_s, LD.getV_s, LD.truK_s, LD.blK_b, LD.refK_r, LD.insK_i, LD.lookK_s, LD.lookK_n, LD.refS_r, LD.insS_i, LD.lookS_s, LD.seq_n, LD.seq_r, LD.seq_b, LD.seq_c, LD.seq_e, LD.storeK_s, LD.memK_s, LD.endF_n, LD.endF_r, LD.endF_e, LD.pick_t, LD.pick_f, LD.finL_f, LD.finL_t, LD.v_add, LD.v_sub, LD.v_mulR, LD.v_fdiv, LD.v_mod, LD.v_int, LD.v_lt, LD.v_le, LD.v_gt, LD.v_ge, LD.v_eq, LD.v_ne, LD.v_len, LD.v_tix, LD.v_lix, LD.v_rix, LD.rixK_l, LD.rixK_d, LD.v_isN, LD.v_isnN, LD.v_isNone, LD.v_isNoneN, LD.startD, List.length_cons, List.length_nil, List.map_cons, List.map_nil, List.cons_append, List.nil_append, List.append_nil, List.getElem?_cons_zero, List.getElem?_cons_succ, List.set_cons_zero, List.set_cons_succ, List.replicate_succ, List.replicate_zero, Nat.reduceAdd, Nat.reduceSub, Nat.reduceBEq, Int.reduceLT, Int.reduceNeg, Int.reduceLE, Nat.reduceLeDiff, Nat.reduceLT, List.lookup_cons, List.lookup_nil, beq_self_eq_true, Option.map_some, Option.map_none, lkind_eq, hk, o_eqS, e0, lattr_eq]
def lfree (a : Nd) : List Str := ((allL (kidsOf a) [a]).filter fun q => isEl q.1 && (decide (tagOf q.1 = "option") && !(q.2 ++ [q.1]).any dis)).map fun q => optV q.1
theorem free_same {a : Nd} (h : dis a = false) : freeOf (elL (kidsOf a) false) = lfree a := by
  unfold freeOf lfree
  rw [elL_all (kidsOf a) false [a] (by rw [List.any_cons, h, List.any_nil] <;> rfl), List.filter_map, List.map_map, List.filter_filter]
  congr 1
  congr 1
  funext q
  show (_ && isEl q.1) = _
  rw [Bool.and_comm]
  rfl
theorem inD_r {M : Mem} {i : Nat} {x : Str} {ns : List Str} {b : Bool} {tb : List (Nat × FnD)} (h : M[i]? = some (.lst (ns.map .str))) : inO tb b (.str x) (.ref i) M = some (.bl (decide (x ∈ ns) != b), M) := by
  have e : inD M (.str x) (.ref i) = some (decide (x ∈ ns)) := by
    have e0 : dcOf M (.ref i) = none := by simp only [dcOf, h]
    unfold inD
    rw [e0]
    show (match lsOf M (.ref i) with | some xs => _ | none => none) = _
    rw [v_lsR h]
    show (if (isF (.str x) && (ns.map D.str).all isF) = true then some ((ns.map D.str).any fun z => eqF z (.str x)) else _) = _
    rw [all_str, any_str] <;> rfl
  unfold inO
  simp only [h, e]
  rfl
theorem lfree_loop {a : Nd} {i r : Nat} {K : List (Nd × List Nd)} {a0 : Option D} : ∀ (qs : List (Nd × List Nd)) (acc : List Str) (M : Mem) (x2 x3 x4 : Option D), (∀ q ∈ qs, q.2.length < 1000) → acc.length + qs.length < 90000 → M[i]? = some (.lst (K.map prA)) → M[r]? = some (.lst (acc.map .str)) → (qs ≠ [] → i ≠ r) →
    ∃ M' x2' x3' x4', forV (mutChk i (K.map prA)) (gTp [2, 3]) β__law_free_2 (qs.map prA) [a0, some (.ref r), x2, x3, x4] M = .nx [a0, some (.ref r), x2', x3', x4'] M' ∧
      M'[r]? = some (.lst ((acc ++ (qs.filter fun q => isEl q.1 && (decide (tagOf q.1 = "option") && !(q.2 ++ [q.1]).any dis)).map fun q => optV q.1).map .str)) ∧ M.length ≤ M'.length ∧ ∀ j, j ≠ r → M'[j]? = M[j]?
  | [], acc, M, x2, x3, x4, _, _, hi, hr, _ => ⟨M, x2, x3, x4, forV_n (eqb_mut hi), by rw [List.filter_nil, List.map_nil, List.append_nil]; exact hr, Nat.le_refl _, fun _ _ => rfl⟩
  | q :: qs, acc, M, x2, x3, x4, hq, hl, hi, hr, hne0 => by
    have hne : i ≠ r := hne0 (by simp)
    obtain ⟨b, o⟩ := q
    have ho := hq _ List.mem_cons_self
    rw [List.length_cons] at hl
    have hL : (acc.map D.str).length < LINE := by rw [List.length_map]; have := big; omega
    have es := shut_eq (a := b) (M := M) ho
    by_cases hc : (isEl b && (decide (tagOf b = "option") && !(o ++ [b]).any dis)) = true
    · obtain ⟨h1, h2⟩ := (Bool.and_eq_true _ _).mp hc
      obtain ⟨h3, h4⟩ := (Bool.and_eq_true _ _).mp h2
      obtain ⟨n', tag', ats', kids', rfl⟩ := elem_of h1
      have h3' : (tag' == "option") = true := beq_iff_eq.mpr (of_decide_eq_true h3)
      have h4' : (o ++ [Nd.el n' tag' ats' kids']).any dis = false := by simpa using h4
      rw [h4'] at es
      have hi2 : (M.set r (.lst ((acc ++ [optV (.el n' tag' ats' kids')]).map .str)))[i]? = some (.lst (K.map prA)) := by rw [set_at (fun z => hne z.symm)]; exact hi
      have ev : ∃ y4, β__law_free_2 [a0, some (.ref r), some (ndD (.el n' tag' ats' kids')), some (.lst (o.map ndD)), x4] M = .nx [a0, some (.ref r), some (ndD (.el n' tag' ats' kids')), some (.lst (o.map ndD)), y4] (M.set r (.lst ((acc ++ [optV (.el n' tag' ats' kids')]).map .str))) := by
        have em : (acc ++ [optV (.el n' tag' ats' kids')]).map D.str = acc.map D.str ++ [.str ((attrOf ats' "value").getD "")] := by rw [List.map_append] <;> rfl
        rw [em]
        generalize hv : attrOf ats' "value" = vo
        unfold β__law_free_2
        cases vo with
        | none =>
          refine ⟨some .non, ?_⟩
          have e0 : oD none = .non := rfl
          simp only [LD.v_lenO, LD.v_eqQi, LD.v_neQi, LD.q_Ins, LD.q_App, LD.okS_t, LD.v_isLst, LD.lstK_s, LD.v_app, LD.q_Rev, LD.lsK_s, LD.q_Get, LD.getKK_s, LD.v_lsL, LD.v_keyI, LD.v_keyS, Option.isSome_some, Option.isSome_none, Option.getD_some, Option.getD_none, LD.v_eqs, LD.v_nes, LD.v_isiBb, LD.q_C, LD.q_Var, LD.q_Bin, LD.q_Un, LD.q_tOf, LD.q_tCmp, LD.q_tAnd, LD.q_tOr, LD.q_tNot, LD.q_And, LD.q_Or, LD.q_Not, LD.q_If, LD.q_Nil, LD.q_Cons, LD.q_Tup, LD.q_Lst, LD.q_LstM, LD.q_Call, LD.q_Meth, LD.q_Attr, LD.q_Blt, LD.q_Comp, LD.q_iOf, LD.srcK_s, LD.v_truB, LD.v_truL, LD.v_truN, LD.v_srcL, LD.v_neg, LD.q_iRange, LD.q_Next, LD.q_Seq, LD.q_Expr, LD.q_Ret, LD.q_RetN, LD.q_SIf, LD.q_Bk, LD.q_Ct, LD.q_Asg, LD.q_Nm, LD.q_Sub, LD.q_Del, LD.q_Fld, LD.q_Dic, LD.q_For, LD.wipeD, Bool.not_true, Bool.not_false, LD.ifT, LD.le0, LD.le1, LD.le2, LD.le3, LD.le4, LD.le5, LD.le6, LD.cmpK_l, LD.nn_n, LD.nn_i, LD.nn_t, LD.nn_l, LD.nn_r, LD.nn_b, LD.nn_s, LD.nonK_n, LD.okK_o, LD.bind_k, LD.bind_b, LD.bind_e, LD.bindS_k, LD.bindS_e, LD.ofO_s, LD.getV_s, LD.truK_s, LD.blK_b, LD.refK_r, LD.insK_i, LD.lookK_s, LD.lookK_n, LD.refS_r, LD.insS_i, LD.lookS_s, LD.seq_n, LD.seq_r, LD.seq_b, LD.seq_c, LD.seq_e, LD.storeK_s, LD.memK_s, LD.endF_n, LD.endF_r, LD.endF_e, LD.pick_t, LD.pick_f, LD.finL_f, LD.finL_t, LD.v_add, LD.v_sub, LD.v_mulR, LD.v_fdiv, LD.v_mod, LD.v_int, LD.v_lt, LD.v_le, LD.v_gt, LD.v_ge, LD.v_eq, LD.v_ne, LD.v_len, LD.v_tix, LD.v_lix, LD.v_rix, LD.rixK_l, LD.rixK_d, LD.v_isN, LD.v_isnN, LD.v_isNone, LD.v_isNoneN, LD.startD, List.length_cons, List.length_nil, List.map_cons, List.map_nil, List.cons_append, List.nil_append, List.append_nil, List.getElem?_cons_zero, List.getElem?_cons_succ, List.set_cons_zero, List.set_cons_succ, List.replicate_succ, List.replicate_zero, Nat.reduceAdd, Nat.reduceSub, Nat.reduceBEq, Int.reduceLT, Int.reduceNeg, Int.reduceLE, Nat.reduceLeDiff, Nat.reduceLT, List.lookup_cons, List.lookup_nil, beq_self_eq_true, Option.map_some, Option.map_none, nd0, eqK, elE, nd2, h3', es, lattr_eq, hv, e0, hr, appK_s hL]
        | some v =>
          refine ⟨some (.str v), ?_⟩
          have e0 : oD (some v) = .str v := rfl
          simp only [LD.v_lenO, LD.v_eqQi, LD.v_neQi, LD.q_Ins, LD.q_App, LD.okS_t, LD.v_isLst, LD.lstK_s, LD.v_app, LD.q_Rev, LD.lsK_s, LD.q_Get, LD.getKK_s, LD.v_lsL, LD.v_keyI, LD.v_keyS, Option.isSome_some, Option.isSome_none, Option.getD_some, Option.getD_none, LD.v_eqs, LD.v_nes, LD.v_isiBb, LD.q_C, LD.q_Var, LD.q_Bin, LD.q_Un, LD.q_tOf, LD.q_tCmp, LD.q_tAnd, LD.q_tOr, LD.q_tNot, LD.q_And, LD.q_Or, LD.q_Not, LD.q_If, LD.q_Nil, LD.q_Cons, LD.q_Tup, LD.q_Lst, LD.q_LstM, LD.q_Call, LD.q_Meth, LD.q_Attr, LD.q_Blt, LD.q_Comp, LD.q_iOf, LD.srcK_s, LD.v_truB, LD.v_truL, LD.v_truN, LD.v_srcL, LD.v_neg, LD.q_iRange, LD.q_Next, LD.q_Seq, LD.q_Expr, LD.q_Ret, LD.q_RetN, LD.q_SIf, LD.q_Bk, LD.q_Ct, LD.q_Asg, LD.q_Nm, LD.q_Sub, LD.q_Del, LD.q_Fld, LD.q_Dic, LD.q_For, LD.wipeD, Bool.not_true, Bool.not_false, LD.ifT, LD.le0, LD.le1, LD.le2, LD.le3, LD.le4, LD.le5, LD.le6, LD.cmpK_l, LD.nn_n, LD.nn_i, LD.nn_t, LD.nn_l, LD.nn_r, LD.nn_b, LD.nn_s, LD.nonK_n, LD.okK_o, LD.bind_k, LD.bind_b, LD.bind_e, LD.bindS_k, LD.bindS_e, LD.ofO_s, LD.getV_s, LD.truK_s, LD.blK_b, LD.refK_r, LD.insK_i, LD.lookK_s, LD.lookK_n, LD.refS_r, LD.insS_i, LD.lookS_s, LD.seq_n, LD.seq_r, LD.seq_b, LD.seq_c, LD.seq_e, LD.storeK_s, LD.memK_s, LD.endF_n, LD.endF_r, LD.endF_e, LD.pick_t, LD.pick_f, LD.finL_f, LD.finL_t, LD.v_add, LD.v_sub, LD.v_mulR, LD.v_fdiv, LD.v_mod, LD.v_int, LD.v_lt, LD.v_le, LD.v_gt, LD.v_ge, LD.v_eq, LD.v_ne, LD.v_len, LD.v_tix, LD.v_lix, LD.v_rix, LD.rixK_l, LD.rixK_d, LD.v_isN, LD.v_isnN, LD.v_isNone, LD.v_isNoneN, LD.startD, List.length_cons, List.length_nil, List.map_cons, List.map_nil, List.cons_append, List.nil_append, List.append_nil, List.getElem?_cons_zero, List.getElem?_cons_succ, List.set_cons_zero, List.set_cons_succ, List.replicate_succ, List.replicate_zero, Nat.reduceAdd, Nat.reduceSub, Nat.reduceBEq, Int.reduceLT, Int.reduceNeg, Int.reduceLE, Nat.reduceLeDiff, Nat.reduceLT, List.lookup_cons, List.lookup_nil, beq_self_eq_true, Option.map_some, Option.map_none, nd0, eqK, elE, nd2, h3', es, lattr_eq, hv, e0, hr, appK_s hL]
      obtain ⟨y4, e1⟩ := ev
      obtain ⟨M', z2, z3, z4, e2, e3, e4, e5⟩ := lfree_loop (a := a) (a0 := a0) (K := K) qs (acc ++ [optV (.el n' tag' ats' kids')]) _ (some (ndD (.el n' tag' ats' kids'))) (some (.lst (o.map ndD))) y4 (fun u hu => hq u (List.mem_cons_of_mem _ hu)) (by rw [List.length_append, List.length_singleton]; omega) hi2 (set_is hr) (fun _ => hne)
      rw [List.length_set] at e4
      refine ⟨M', z2, z3, z4, ?_, ?_, e4, fun j hj => by rw [e5 j hj, set_at (fun z => hj z.symm)]⟩
      · rw [List.map_cons]
        exact (forV_c (eqb_mut hi) gTp2 e1).trans e2
      · rw [List.filter_cons_of_pos (p := fun q : Nd × List Nd => isEl q.1 && (decide (tagOf q.1 = "option") && !(q.2 ++ [q.1]).any dis)) hc, List.map_cons, e3, List.append_assoc] <;> rfl
    · have hc' : (isEl b && (decide (tagOf b = "option") && !(o ++ [b]).any dis)) = false := Bool.eq_false_iff.mpr hc
      have e1 : β__law_free_2 [a0, some (.ref r), some (ndD b), some (.lst (o.map ndD)), x4] M = .nx [a0, some (.ref r), some (ndD b), some (.lst (o.map ndD)), x4] M := by
        unfold β__law_free_2
        cases h1 : isEl b with
        | false => simp only [LD.v_lenO, LD.v_eqQi, LD.v_neQi, LD.q_Ins, LD.q_App, LD.okS_t, LD.v_isLst, LD.lstK_s, LD.v_app, LD.q_Rev, LD.lsK_s, LD.q_Get, LD.getKK_s, LD.v_lsL, LD.v_keyI, LD.v_keyS, Option.isSome_some, Option.isSome_none, Option.getD_some, Option.getD_none, LD.v_eqs, LD.v_nes, LD.v_isiBb, LD.q_C, LD.q_Var, LD.q_Bin, LD.q_Un, LD.q_tOf, LD.q_tCmp, LD.q_tAnd, LD.q_tOr, LD.q_tNot, LD.q_And, LD.q_Or, LD.q_Not, LD.q_If, LD.q_Nil, LD.q_Cons, LD.q_Tup, LD.q_Lst, LD.q_LstM, LD.q_Call, LD.q_Meth, LD.q_Attr, LD.q_Blt, LD.q_Comp, LD.q_iOf, LD.srcK_s, LD.v_truB, LD.v_truL, LD.v_truN, LD.v_srcL, LD.v_neg, LD.q_iRange, LD.q_Next, LD.q_Seq, LD.q_Expr, LD.q_Ret, LD.q_RetN, LD.q_SIf, LD.q_Bk, LD.q_Ct, LD.q_Asg, LD.q_Nm, LD.q_Sub, LD.q_Del, LD.q_Fld, LD.q_Dic, LD.q_For, LD.wipeD, Bool.not_true, Bool.not_false, LD.ifT, LD.le0, LD.le1, LD.le2, LD.le3, LD.le4, LD.le5, LD.le6, LD.cmpK_l, LD.nn_n, LD.nn_i, LD.nn_t, LD.nn_l, LD.nn_r, LD.nn_b, LD.nn_s, LD.nonK_n, LD.okK_o, LD.bind_k, LD.bind_b, LD.bind_e, LD.bindS_k, LD.bindS_e, LD.ofO_s, LD.getV_s, LD.truK_s, LD.blK_b, LD.refK_r, LD.insK_i, LD.lookK_s, LD.lookK_n, LD.refS_r, LD.insS_i, LD.lookS_s, LD.seq_n, LD.seq_r, LD.seq_b, LD.seq_c, LD.seq_e, LD.storeK_s, LD.memK_s, LD.endF_n, LD.endF_r, LD.endF_e, LD.pick_t, LD.pick_f, LD.finL_f, LD.finL_t, LD.v_add, LD.v_sub, LD.v_mulR, LD.v_fdiv, LD.v_mod, LD.v_int, LD.v_lt, LD.v_le, LD.v_gt, LD.v_ge, LD.v_eq, LD.v_ne, LD.v_len, LD.v_tix, LD.v_lix, LD.v_rix, LD.rixK_l, LD.rixK_d, LD.v_isN, LD.v_isnN, LD.v_isNone, LD.v_isNoneN, LD.startD, List.length_cons, List.length_nil, List.map_cons, List.map_nil, List.cons_append, List.nil_append, List.append_nil, List.getElem?_cons_zero, List.getElem?_cons_succ, List.set_cons_zero, List.set_cons_succ, List.replicate_succ, List.replicate_zero, Nat.reduceAdd, Nat.reduceSub, Nat.reduceBEq, Int.reduceLT, Int.reduceNeg, Int.reduceLE, Nat.reduceLeDiff, Nat.reduceLT, List.lookup_cons, List.lookup_nil, beq_self_eq_true, Option.map_some, Option.map_none, nd0, eqK, h1]
        | true =>
          obtain ⟨n', tag', ats', kids', rfl⟩ := elem_of h1
          cases h3 : decide (tag' = "option") with
          | false =>
            have h3' : (tag' == "option") = false := beq_eq_false_iff_ne.mpr (of_decide_eq_false h3)
            simp only [LD.v_lenO, LD.v_eqQi, LD.v_neQi, LD.q_Ins, LD.q_App, LD.okS_t, LD.v_isLst, LD.lstK_s, LD.v_app, LD.q_Rev, LD.lsK_s, LD.q_Get, LD.getKK_s, LD.v_lsL, LD.v_keyI, LD.v_keyS, Option.isSome_some, Option.isSome_none, Option.getD_some, Option.getD_none, LD.v_eqs, LD.v_nes, LD.v_isiBb, LD.q_C, LD.q_Var, LD.q_Bin, LD.q_Un, LD.q_tOf, LD.q_tCmp, LD.q_tAnd, LD.q_tOr, LD.q_tNot, LD.q_And, LD.q_Or, LD.q_Not, LD.q_If, LD.q_Nil, LD.q_Cons, LD.q_Tup, LD.q_Lst, LD.q_LstM, LD.q_Call, LD.q_Meth, LD.q_Attr, LD.q_Blt, LD.q_Comp, LD.q_iOf, LD.srcK_s, LD.v_truB, LD.v_truL, LD.v_truN, LD.v_srcL, LD.v_neg, LD.q_iRange, LD.q_Next, LD.q_Seq, LD.q_Expr, LD.q_Ret, LD.q_RetN, LD.q_SIf, LD.q_Bk, LD.q_Ct, LD.q_Asg, LD.q_Nm, LD.q_Sub, LD.q_Del, LD.q_Fld, LD.q_Dic, LD.q_For, LD.wipeD, Bool.not_true, Bool.not_false, LD.ifT, LD.le0, LD.le1, LD.le2, LD.le3, LD.le4, LD.le5, LD.le6, LD.cmpK_l, LD.nn_n, LD.nn_i, LD.nn_t, LD.nn_l, LD.nn_r, LD.nn_b, LD.nn_s, LD.nonK_n, LD.okK_o, LD.bind_k, LD.bind_b, LD.bind_e, LD.bindS_k, LD.bindS_e, LD.ofO_s, LD.getV_s, LD.truK_s, LD.blK_b, LD.refK_r, LD.insK_i, LD.lookK_s, LD.lookK_n, LD.refS_r, LD.insS_i, LD.lookS_s, LD.seq_n, LD.seq_r, LD.seq_b, LD.seq_c, LD.seq_e, LD.storeK_s, LD.memK_s, LD.endF_n, LD.endF_r, LD.endF_e, LD.pick_t, LD.pick_f, LD.finL_f, LD.finL_t, LD.v_add, LD.v_sub, LD.v_mulR, LD.v_fdiv, LD.v_mod, LD.v_int, LD.v_lt, LD.v_le, LD.v_gt, LD.v_ge, LD.v_eq, LD.v_ne, LD.v_len, LD.v_tix, LD.v_lix, LD.v_rix, LD.rixK_l, LD.rixK_d, LD.v_isN, LD.v_isnN, LD.v_isNone, LD.v_isNoneN, LD.startD, List.length_cons, List.length_nil, List.map_cons, List.map_nil, List.cons_append, List.nil_append, List.append_nil, List.getElem?_cons_zero, List.getElem?_cons_succ, List.set_cons_zero, List.set_cons_succ, List.replicate_succ, List.replicate_zero, Nat.reduceAdd, Nat.reduceSub, Nat.reduceBEq, Int.reduceLT, Int.reduceNeg, Int.reduceLE, Nat.reduceLeDiff, Nat.reduceLT, List.lookup_cons, List.lookup_nil, beq_self_eq_true, Option.map_some, Option.map_none, nd0, eqK, elE, nd2, h3']
          | true =>
            have h3' : (tag' == "option") = true := beq_iff_eq.mpr (of_decide_eq_true h3)
            have h4 : (o ++ [Nd.el n' tag' ats' kids']).any dis = true := by
              have h5 : (true && (decide (tag' = "option") && !(o ++ [Nd.el n' tag' ats' kids']).any dis)) = false := hc'
              rw [h3] at h5
              cases hh : (o ++ [Nd.el n' tag' ats' kids']).any dis with
              | true => rfl
              | false =>
                rw [hh] at h5
                cases h5
            rw [h4] at es
            simp only [LD.v_lenO, LD.v_eqQi, LD.v_neQi, LD.q_Ins, LD.q_App, LD.okS_t, LD.v_isLst, LD.lstK_s, LD.v_app, LD.q_Rev, LD.lsK_s, LD.q_Get, LD.getKK_s, LD.v_lsL, LD.v_keyI, LD.v_keyS, Option.isSome_some, Option.isSome_none, Option.getD_some, Option.getD_none, LD.v_eqs, LD.v_nes, LD.v_isiBb, LD.q_C, LD.q_Var, LD.q_Bin, LD.q_Un, LD.q_tOf, LD.q_tCmp, LD.q_tAnd, LD.q_tOr, LD.q_tNot, LD.q_And, LD.q_Or, LD.q_Not, LD.q_If, LD.q_Nil, LD.q_Cons, LD.q_Tup, LD.q_Lst, LD.q_LstM, LD.q_Call, LD.q_Meth, LD.q_Attr, LD.q_Blt, LD.q_Comp, LD.q_iOf, LD.srcK_s, LD.v_truB, LD.v_truL, LD.v_truN, LD.v_srcL, LD.v_neg, LD.q_iRange, LD.q_Next, LD.q_Seq, LD.q_Expr, LD.q_Ret, LD.q_RetN, LD.q_SIf, LD.q_Bk, LD.q_Ct, LD.q_Asg, LD.q_Nm, LD.q_Sub, LD.q_Del, LD.q_Fld, LD.q_Dic, LD.q_For, LD.wipeD, Bool.not_true, Bool.not_false, LD.ifT, LD.le0, LD.le1, LD.le2, LD.le3, LD.le4, LD.le5, LD.le6, LD.cmpK_l, LD.nn_n, LD.nn_i, LD.nn_t, LD.nn_l, LD.nn_r, LD.nn_b, LD.nn_s, LD.nonK_n, LD.okK_o, LD.bind_k, LD.bind_b, LD.bind_e, LD.bindS_k, LD.bindS_e, LD.ofO_s, LD.getV_s, LD.truK_s, LD.blK_b, LD.refK_r, LD.insK_i, LD.lookK_s, LD.lookK_n, LD.refS_r, LD.insS_i, LD.lookS_s, LD.seq_n, LD.seq_r, LD.seq_b, LD.seq_c, LD.seq_e, LD.storeK_s, LD.memK_s, LD.endF_n, LD.endF_r, LD.endF_e, LD.pick_t, LD.pick_f, LD.finL_f, LD.finL_t, LD.v_add, LD.v_sub, LD.v_mulR, LD.v_fdiv, LD.v_mod, LD.v_int, LD.v_lt, LD.v_le, LD.v_gt, LD.v_ge, LD.v_eq, LD.v_ne, LD.v_len, LD.v_tix, LD.v_lix, LD.v_rix, LD.rixK_l, LD.rixK_d, LD.v_isN, LD.v_isnN, LD.v_isNone, LD.v_isNoneN, LD.startD, List.length_cons, List.length_nil, List.map_cons, List.map_nil, List.cons_append, List.nil_append, List.append_nil, List.getElem?_cons_zero, List.getElem?_cons_succ, List.set_cons_zero, List.set_cons_succ, List.replicate_succ, List.replicate_zero, Nat.reduceAdd, Nat.reduceSub, Nat.reduceBEq, Int.reduceLT, Int.reduceNeg, Int.reduceLE, Nat.reduceLeDiff, Nat.reduceLT, List.lookup_cons, List.lookup_nil, beq_self_eq_true, Option.map_some, Option.map_none, nd0, eqK, elE, nd2, h3', es]
      obtain ⟨M', z2, z3, z4, e2, e3, e4, e5⟩ := lfree_loop (a := a) (a0 := a0) (K := K) qs acc M (some (ndD b)) (some (.lst (o.map ndD))) x4 (fun u hu => hq u (List.mem_cons_of_mem _ hu)) (by omega) hi hr (fun _ => hne)
      refine ⟨M', z2, z3, z4, ?_, ?_, e4, e5⟩
      · rw [List.map_cons]
        exact (forV_c (eqb_mut hi) gTp2 e1).trans e2
      · rw [List.filter_cons_of_neg (p := fun q : Nd × List Nd => isEl q.1 && (decide (tagOf q.1 = "option") && !(q.2 ++ [q.1]).any dis)) hc]
        exact e3
mutual
theorem allN_pre : ∀ (a : Nd) (pre : List Nd), ∀ q ∈ allN a pre, q.2.length < pre.length + htN a
  | .txt n x, pre, q, h => by
    rw [allN, List.mem_singleton] at h
    subst h
    rw [htN]
    show pre.length < _
    omega
  | .el n tag ats kids, pre, q, h => by
    rw [allN, List.mem_cons] at h
    rw [htN]
    rcases h with rfl | h
    · show pre.length < _; omega
    · have := allL_pre kids _ q h
      rw [List.length_append, List.length_singleton] at this
      omega
theorem allL_pre : ∀ (l : List Nd) (pre : List Nd), ∀ q ∈ allL l pre, q.2.length < pre.length + htL l
  | [], pre, q, h => by rw [allL] at h; cases h
  | a :: r, pre, q, h => by
    rw [allL, List.mem_append] at h
    rw [htL]
    rcases h with h | h
    · have := allN_pre a pre q h
      omega
    · have := allL_pre r pre q h
      omega
end
theorem lfree_eq {n : Int} {tag : Str} {ats : List (Str × Str)} {kids : List Nd} {M : Mem} (h : htL kids < 30) (hn : (numsL kids).length < 900) : ∃ i M', φ__law_free [ndD (.el n tag ats kids)] M = .ok (.ref i) M' ∧ M'[i]? = some (.lst ((lfree (.el n tag ats kids)).map .str)) ∧ M.length ≤ M'.length ∧ ∀ j, j < M.length → M'[j]? = M[j]? := by
  obtain ⟨i, M1, e1, e2, e3, e4⟩ := all_eq 30 kids (M ++ [.lst []]) [.el n tag ats kids] h (by omega) (by show 1 + 30 < 1000; decide)
  rw [List.length_append, List.length_singleton] at e3 e4
  have hr : M1[M.length]? = some (.lst (([] : List Str).map .str)) := by rw [e4 _ (by omega)]; exact app_at
  have hne : allL kids [Nd.el n tag ats kids] ≠ [] → i ≠ M.length := fun hz z => by
    rw [z] at e2
    have hm := e2.symm.trans hr
    have hm : (allL kids [Nd.el n tag ats kids]).map prA = [] := by injection hm with hm; injection hm
    exact hz (List.map_eq_nil_iff.mp hm)
  have hq : ∀ q ∈ allL kids [Nd.el n tag ats kids], q.2.length < 1000 := fun q hq => by
    have := allL_pre kids _ q hq
    rw [List.length_singleton] at this
    omega
  obtain ⟨M', z2, z3, z4, f1, f2, f3, f4⟩ := lfree_loop (a := .el n tag ats kids) (a0 := some (ndD (.el n tag ats kids))) (K := allL kids [.el n tag ats kids]) (allL kids [.el n tag ats kids]) [] M1 none none none hq (by rw [allL_len]; show 0 + _ < _; omega) e2 hr hne
  refine ⟨M.length, M', ?_, ?_, by omega, fun j hj => by rw [f4 j (by omega), e4 j (by omega), app_old hj]⟩
  · have e1' : φ__law_all 30 [.tup (kids.map ndD), .lst [ndD (.el n tag ats kids)]] (M ++ [.lst []]) = .ok (.ref i) M1 := e1
    unfold φ__law_free
    refine run_def rfl ?_
    unfold ψ__law_free
    simp only [LD.v_lenO, LD.v_eqQi, LD.v_neQi, LD.q_Ins, LD.q_App, LD.okS_t, LD.v_isLst, LD.lstK_s, LD.v_app, LD.q_Rev, LD.lsK_s, LD.q_Get, LD.getKK_s, LD.v_lsL, LD.v_keyI, LD.v_keyS, Option.isSome_some, Option.isSome_none, Option.getD_some, Option.getD_none, LD.v_eqs, LD.v_nes, LD.v_isiBb, LD.q_C, LD.q_Var, LD.q_Bin, LD.q_Un, LD.q_tOf, LD.q_tCmp, LD.q_tAnd, LD.q_tOr, LD.q_tNot, LD.q_And, LD.q_Or, LD.q_Not, LD.q_If, LD.q_Nil, LD.q_Cons, LD.q_Tup, LD.q_Lst, LD.q_LstM, LD.q_Call, LD.q_Meth, LD.q_Attr, LD.q_Blt, LD.q_Comp, LD.q_iOf, LD.srcK_s, LD.v_truB, LD.v_truL, LD.v_truN, LD.v_srcL, LD.v_neg, LD.q_iRange, LD.q_Next, LD.q_Seq, LD.q_Expr, LD.q_Ret, LD.q_RetN, LD.q_SIf, LD.q_Bk, LD.q_Ct, LD.q_Asg, LD.q_Nm, LD.q_Sub, LD.q_Del, LD.q_Fld, LD.q_Dic, LD.q_For, LD.wipeD, Bool.not_true, Bool.not_false, LD.ifT, LD.le0, LD.le1, LD.le2, LD.le3, LD.le4, LD.le5, LD.le6, LD.cmpK_l, LD.nn_n, LD.nn_i, LD.nn_t, LD.nn_l, LD.nn_r, LD.nn_b, LD.nn_s, LD.nonK_n, LD.okK_o, LD.bind_k, LD.bind_b, LD.bind_e, LD.bindS_k, LD.bindS_e, LD.ofO_s, LD.getV_s, LD.truK_s, LD.blK_b, LD.refK_r, LD.insK_i, LD.lookK_s, LD.lookK_n, LD.refS_r, LD.insS_i, LD.lookS_s, LD.seq_n, LD.seq_r, LD.seq_b, LD.seq_c, LD.seq_e, LD.storeK_s, LD.memK_s, LD.endF_n, LD.endF_r, LD.endF_e, LD.pick_t, LD.pick_f, LD.finL_f, LD.finL_t, LD.v_add, LD.v_sub, LD.v_mulR, LD.v_fdiv, LD.v_mod, LD.v_int, LD.v_lt, LD.v_le, LD.v_gt, LD.v_ge, LD.v_eq, LD.v_ne, LD.v_len, LD.v_tix, LD.v_lix, LD.v_rix, LD.rixK_l, LD.rixK_d, LD.v_isN, LD.v_isnN, LD.v_isNone, LD.v_isNoneN, LD.startD, List.length_cons, List.length_nil, List.map_cons, List.map_nil, List.cons_append, List.nil_append, List.append_nil, List.getElem?_cons_zero, List.getElem?_cons_succ, List.set_cons_zero, List.set_cons_succ, List.replicate_succ, List.replicate_zero, Nat.reduceAdd, Nat.reduceSub, Nat.reduceBEq, Int.reduceLT, Int.reduceNeg, Int.reduceLE, Nat.reduceLeDiff, Nat.reduceLT, List.lookup_cons, List.lookup_nil, beq_self_eq_true, Option.map_some, Option.map_none, nd4, e1', v_srcR e2, f1]
  · rw [f2, List.nil_append] <;> rfl
end K65
namespace K65
open PySem PySem.Spec PyProof.Rows L2 LD
theorem q_Slice {mu : Bool} {a : Sem1 D} {lo hi : SemO} {s : DS} {M : Mem} : eSlice mu a lo hi s M = bnd (a s M) (fun x M1 => bnd (lo s M1) (fun l M2 => bnd (hi s M2) (fun h M3 => ofO (sliceD mu x l h M3)) .mk) .mk) .mk := rfl
def soK (x : D) (M : Mem) : R (Option Int) := match x with
  | .int i => .ok (some i) M
  | _ => .bad
theorem soK_i {i : Int} {M : Mem} : soK (.int i) M = .ok (some i) M := rfl
theorem q_oSome {a : Sem1 D} {s : DS} {M : Mem} : oSome a s M = bnd (a s M) (fun x M1 => soK x M1) .mk := rfl
theorem q_oNone {s : DS} {M : Mem} : oNone s M = .ok none M := rfl
theorem slice_end {i : Nat} {xs ys : List D} {M : Mem} (h : M[i]? = some (.lst (xs ++ ys))) : sliceD false (.ref i) (some (xs.length : Int)) none M = some (.lst ys, M) := by
  have e : cutL (xs ++ ys) (some (xs.length : Int)) none = ys := by
    unfold cutL
    rw [HT.sIx_none, HT.sIx_nat, List.length_append, Nat.min_eq_left (Nat.le_add_right _ _), List.drop_left, Nat.add_sub_cancel_left, List.take_length]
  show (lsOf M (.ref i)).map _ = _
  rw [v_lsR h]
  show some (newL false (cutL (xs ++ ys) (some (xs.length : Int)) none) M) = _
  rw [e] <;> rfl
theorem ctl_mk {N : Mem} : mkF 0 1 φ_Controls___init__ [] N = .ok (.ref N.length) (N ++ [.ins 0 [some (.ref (N.length + 1))], .dic []]) := by
  have h0 : ∀ (o o' : DO), (N ++ [o] ++ [o'])[N.length]? = some o := fun o o' => by
    rw [List.append_assoc, List.getElem?_append_right (Nat.le_refl _), Nat.sub_self] <;> rfl
  have h1 : ∀ (o o' o'' : DO), (N ++ [o] ++ [o']).set N.length o'' = N ++ [o'', o'] := fun o o' o'' => by
    rw [List.append_assoc, List.set_append_right _ _ (Nat.le_refl _), Nat.sub_self] <;> rfl
  have h2 : ∀ o : DO, (N ++ [o]).length = N.length + 1 := fun o => by rw [List.length_append] <;> rfl
  have hr : List.replicate 1 (none : Option D) = [none] := rfl
  have e : φ_Controls___init__ [.ref N.length] (N ++ [.ins 0 [none]]) = .ok .non (N ++ [.ins 0 [some (.ref (N.length + 1))], .dic []]) := by
    unfold φ_Controls___init__
    refine run_def rfl ?_
    unfold ψ_Controls___init__
    simp only [LD.v_lenO, LD.v_eqQi, LD.v_neQi, LD.q_Ins, LD.q_App, LD.okS_t, LD.v_isLst, LD.lstK_s, LD.v_app, LD.q_Rev, LD.lsK_s, LD.q_Get, LD.getKK_s, LD.v_lsL, LD.v_keyI, LD.v_keyS, Option.isSome_some, Option.isSome_none, Option.getD_some, Option.getD_none, LD.v_eqs, LD.v_nes, LD.v_isiBb, LD.q_C, LD.q_Var, LD.q_Bin, LD.q_Un, LD.q_tOf, LD.q_tCmp, LD.q_tAnd, LD.q_tOr, LD.q_tNot, LD.q_And, LD.q_Or, LD.q_Not, LD.q_If, LD.q_Nil, LD.q_Cons, LD.q_Tup, LD.q_Lst, LD.q_LstM, LD.q_Call, LD.q_Meth, LD.q_Attr, LD.q_Blt, LD.q_Comp, LD.q_iOf, LD.srcK_s, LD.v_truB, LD.v_truL, LD.v_truN, LD.v_srcL, LD.v_neg, LD.q_iRange, LD.q_Next, LD.q_Seq, LD.q_Expr, LD.q_Ret, LD.q_RetN, LD.q_SIf, LD.q_Bk, LD.q_Ct, LD.q_Asg, LD.q_Nm, LD.q_Sub, LD.q_Del, LD.q_Fld, LD.q_Dic, LD.q_For, LD.wipeD, Bool.not_true, Bool.not_false, LD.ifT, LD.le0, LD.le1, LD.le2, LD.le3, LD.le4, LD.le5, LD.le6, LD.cmpK_l, LD.nn_n, LD.nn_i, LD.nn_t, LD.nn_l, LD.nn_r, LD.nn_b, LD.nn_s, LD.nonK_n, LD.okK_o, LD.bind_k, LD.bind_b, LD.bind_e, LD.bindS_k, LD.bindS_e, LD.ofO_s, LD.getV_s, LD.truK_s, LD.blK_b, LD.refK_r, LD.insK_i, LD.lookK_s, LD.lookK_n, LD.refS_r, LD.insS_i, LD.lookS_s, LD.seq_n, LD.seq_r, LD.seq_b, LD.seq_c, LD.seq_e, LD.storeK_s, LD.memK_s, LD.endF_n, LD.endF_r, LD.endF_e, LD.pick_t, LD.pick_f, LD.finL_f, LD.finL_t, LD.v_add, LD.v_sub, LD.v_mulR, LD.v_fdiv, LD.v_mod, LD.v_int, LD.v_lt, LD.v_le, LD.v_gt, LD.v_ge, LD.v_eq, LD.v_ne, LD.v_len, LD.v_tix, LD.v_lix, LD.v_rix, LD.rixK_l, LD.rixK_d, LD.v_isN, LD.v_isnN, LD.v_isNone, LD.v_isNoneN, LD.startD, List.length_cons, List.length_nil, List.map_cons, List.map_nil, List.cons_append, List.nil_append, List.append_nil, List.getElem?_cons_zero, List.getElem?_cons_succ, List.set_cons_zero, List.set_cons_succ, List.replicate_succ, List.replicate_zero, Nat.reduceAdd, Nat.reduceSub, Nat.reduceBEq, Int.reduceLT, Int.reduceNeg, Int.reduceLE, Nat.reduceLeDiff, Nat.reduceLT, List.lookup_cons, List.lookup_nil, beq_self_eq_true, Option.map_some, Option.map_none, h2, h0, h1]
  rw [q_mkF, hr, e, bind_k, nonK_n]
theorem root_mk {M : Mem} {doc : List Nd} {prev : List Str} (dk : DocOk doc) : ∃ M' C S, mkF 1 4 φ_Rehearsal___init__ [.tup (doc.map ndD), .lst (prev.map .str)] M = .ok (.ref M.length) M' ∧ St M' M.length C S doc prev (resK (fun _ => none) doc) [] ∧ M.length ≤ S ∧ ∀ (i : Nat) o, M[i]? = some o → M'[i]? = some o := by
  have hr : List.replicate 4 (none : Option D) = [none, none, none, none] := rfl
  let o1 : DO := .ins 1 [some (.tup (doc.map ndD)), none, none, none]
  let o2 : DO := .ins 1 [some (.tup (doc.map ndD)), some (.ref (M.length + 1)), none, none]
  let c0 : DO := .ins 0 [some (.ref (M.length + 1 + 1))]
  have g0 : ∀ o : DO, (M ++ [o])[M.length]? = some o := fun o => app_at
  have s0 : ∀ o o' : DO, (M ++ [o]).set M.length o' = M ++ [o'] := fun o o' => by rw [List.set_append_right _ _ (Nat.le_refl _), Nat.sub_self] <;> rfl
  have l1 : ∀ o : DO, (M ++ [o]).length = M.length + 1 := fun o => by rw [List.length_append] <;> rfl
  have em := ctl_mk (N := M ++ [o1])
  rw [l1] at em
  have a3 : ∀ (o x y : DO), (M ++ [o] ++ [x, y])[M.length]? = some o := fun o x y => by rw [List.append_assoc, List.getElem?_append_right (Nat.le_refl _), Nat.sub_self] <;> rfl
  have b3 : ∀ (o x y : DO), (M ++ [o] ++ [x, y])[M.length + 1]? = some x := fun o x y => by rw [List.append_assoc, List.getElem?_append_right (by omega), show M.length + 1 - M.length = 1 by omega] <;> rfl
  have c3 : ∀ (o x y : DO), (M ++ [o] ++ [x, y])[M.length + 1 + 1]? = some y := fun o x y => by rw [List.append_assoc, List.getElem?_append_right (by omega), show M.length + 1 + 1 - M.length = 2 by omega] <;> rfl
  have s3 : ∀ (o o' x y : DO), (M ++ [o] ++ [x, y]).set M.length o' = M ++ [o'] ++ [x, y] := fun o o' x y => by
    rw [List.append_assoc, List.set_append_right _ _ (Nat.le_refl _), Nat.sub_self, List.append_assoc] <;> rfl
  obtain ⟨M2, κ', kvs', e1, e2, e3, e4, e5, e6⟩ := csettle_eq (M := M ++ [o2] ++ [c0, .dic []]) (C := M.length + 1) (κ := M.length + 1 + 1) dk (b3 _ _ _) (c3 _ _ _) KOk.nil
  have hR2 := e6 M.length _ (by omega) (a3 o2 c0 (.dic []))
  have hl2 : M.length < M2.length := lt_of hR2
  let o3 : DO := .ins 1 [some (.tup (doc.map ndD)), some (.ref (M.length + 1)), some (.lst (prev.map .str)), none]
  let o4 : DO := .ins 1 [some (.tup (doc.map ndD)), some (.ref (M.length + 1)), some (.lst (prev.map .str)), some (.ref M2.length)]
  have g3 : (M2.set M.length o3 ++ [DO.lst []])[M.length]? = some o3 := by rw [app_old (by rw [List.length_set]; exact hl2)]; exact set_is hR2
  have ll : (M2.set M.length o3).length = M2.length := List.length_set
  have g4 : ∀ {i : Nat} {o : DO}, i ≠ M.length → M2[i]? = some o → ((M2.set M.length o3 ++ [DO.lst []]).set M.length o4)[i]? = some o := fun {i o} hi hm => by
    rw [set_at (fun z => hi z.symm), app_old (by rw [List.length_set]; exact lt_of hm), set_at (fun z => hi z.symm)]
    exact hm
  have nK : κ' ≠ M.length := fun z => by
    rw [z] at e3
    have hh : some (DO.dic kvs') = some (DO.ins 1 [some (.tup (doc.map ndD)), some (.ref (M.length + 1)), none, none]) := e3.symm.trans hR2
    cases hh
  refine ⟨(M2.set M.length o3 ++ [DO.lst []]).set M.length o4, M.length + 1, M2.length, ?_, ⟨set_is g3, ⟨κ', kvs', g4 (by omega) e2, g4 nK e3, e4, e5⟩, ?_⟩, by omega, fun i o hm => ?_⟩
  · have le : ∀ M : Mem, listC false [.lst (prev.map .str)] M = some (.lst (prev.map .str), M) := fun _ => rfl
    rw [q_mkF, hr]
    have e : φ_Rehearsal___init__ [.ref M.length, .tup (doc.map ndD), .lst (prev.map .str)] (M ++ [.ins 1 [none, none, none, none]]) = .ok .non ((M2.set M.length o3 ++ [DO.lst []]).set M.length o4) := by
      have o1e : DO.ins 1 [some (.tup (doc.map ndD)), none, none, none] = o1 := rfl
      have o2e : DO.ins 1 [some (.tup (doc.map ndD)), some (.ref (M.length + 1)), none, none] = o2 := rfl
      have c0e : DO.ins 0 [some (.ref (M.length + 1 + 1))] = c0 := rfl
      simp only [← o1e] at em
      simp only [← o2e] at e1 hR2
      simp only [← c0e] at e1
      have g3' : (M2.set M.length (DO.ins 1 [some (.tup (doc.map ndD)), some (.ref (M.length + 1)), some (.lst (prev.map .str)), none]) ++ [DO.lst []])[M.length]? = some (DO.ins 1 [some (.tup (doc.map ndD)), some (.ref (M.length + 1)), some (.lst (prev.map .str)), none]) := g3
      have ll' : (M2.set M.length (DO.ins 1 [some (.tup (doc.map ndD)), some (.ref (M.length + 1)), some (.lst (prev.map .str)), none])).length = M2.length := ll
      unfold φ_Rehearsal___init__
      refine run_def rfl ?_
      unfold ψ_Rehearsal___init__
      simp only [LD.v_lenO, LD.v_eqQi, LD.v_neQi, LD.q_Ins, LD.q_App, LD.okS_t, LD.v_isLst, LD.lstK_s, LD.v_app, LD.q_Rev, LD.lsK_s, LD.q_Get, LD.getKK_s, LD.v_lsL, LD.v_keyI, LD.v_keyS, Option.isSome_some, Option.isSome_none, Option.getD_some, Option.getD_none, LD.v_eqs, LD.v_nes, LD.v_isiBb, LD.q_C, LD.q_Var, LD.q_Bin, LD.q_Un, LD.q_tOf, LD.q_tCmp, LD.q_tAnd, LD.q_tOr, LD.q_tNot, LD.q_And, LD.q_Or, LD.q_Not, LD.q_If, LD.q_Nil, LD.q_Cons, LD.q_Tup, LD.q_Lst, LD.q_LstM, LD.q_Call, LD.q_Meth, LD.q_Attr, LD.q_Blt, LD.q_Comp, LD.q_iOf, LD.srcK_s, LD.v_truB, LD.v_truL, LD.v_truN, LD.v_srcL, LD.v_neg, LD.q_iRange, LD.q_Next, LD.q_Seq, LD.q_Expr, LD.q_Ret, LD.q_RetN, LD.q_SIf, LD.q_Bk, LD.q_Ct, LD.q_Asg, LD.q_Nm, LD.q_Sub, LD.q_Del, LD.q_Fld, LD.q_Dic, LD.q_For, LD.wipeD, Bool.not_true, Bool.not_false, LD.ifT, LD.le0, LD.le1, LD.le2, LD.le3, LD.le4, LD.le5, LD.le6, LD.cmpK_l, LD.nn_n, LD.nn_i, LD.nn_t, LD.nn_l, LD.nn_r, LD.nn_b, LD.nn_s, LD.nonK_n, LD.okK_o, LD.bind_k, LD.bind_b, LD.bind_e, LD.bindS_k, LD.bindS_e, LD.ofO_s, LD.getV_s, LD.truK_s, LD.blK_b, LD.refK_r, LD.insK_i, LD.lookK_s, LD.lookK_n, LD.refS_r, LD.insS_i, LD.lookS_s, LD.seq_n, LD.seq_r, LD.seq_b, LD.seq_c, LD.seq_e, LD.storeK_s, LD.memK_s, LD.endF_n, LD.endF_r, LD.endF_e, LD.pick_t, LD.pick_f, LD.finL_f, LD.finL_t, LD.v_add, LD.v_sub, LD.v_mulR, LD.v_fdiv, LD.v_mod, LD.v_int, LD.v_lt, LD.v_le, LD.v_gt, LD.v_ge, LD.v_eq, LD.v_ne, LD.v_len, LD.v_tix, LD.v_lix, LD.v_rix, LD.rixK_l, LD.rixK_d, LD.v_isN, LD.v_isnN, LD.v_isNone, LD.v_isNoneN, LD.startD, List.length_cons, List.length_nil, List.map_cons, List.map_nil, List.cons_append, List.nil_append, List.append_nil, List.getElem?_cons_zero, List.getElem?_cons_succ, List.set_cons_zero, List.set_cons_succ, List.replicate_succ, List.replicate_zero, Nat.reduceAdd, Nat.reduceSub, Nat.reduceBEq, Int.reduceLT, Int.reduceNeg, Int.reduceLE, Nat.reduceLeDiff, Nat.reduceLT, List.lookup_cons, List.lookup_nil, beq_self_eq_true, Option.map_some, Option.map_none, g0, s0, l1, em, a3, s3, b3, e1, hR2, le, ll', g3']
      rfl
    have e' : φ_Rehearsal___init__ (.ref M.length :: [.tup (doc.map ndD), .lst (prev.map .str)]) (M ++ [.ins 1 [none, none, none, none]]) = _ := e
    rw [e', bind_k, nonK_n]
  · show ((M2.set M.length o3 ++ [DO.lst []]).set M.length o4)[M2.length]? = _
    rw [set_at (by omega), ← ll]
    exact app_at
  · have h1 := lt_of hm
    refine g4 (by omega) (e6 i o (by omega) ?_)
    rw [List.append_assoc, app_old h1]
    exact hm
def toldD (f : Kn) (q : Nd × List Nd) : D := .tup [.int (num q.1), ovD ((f (num q.1)).map (·.2))]
theorem filt {α : Type} (l : List α) : l.filter (fun _ => true) = l := List.filter_eq_self.mpr fun _ _ => rfl
theorem told_eq {M : Mem} {R C S P : Nat} {doc : List Nd} {prev : List Str} {f : Kn} {sent : List D} {Q : List (Nd × List Nd)} (s : St M R C S doc prev f sent) (hP : M[P]? = some (.lst (Q.map prA))) (hQ : Q.length < 1000) : φ__law_told [.ref R, .ref P] M = .ok (.lst (Q.map (toldD f))) M := by
  have hR := s.hR
  obtain ⟨κ, kvs, h1, _⟩ := s.hC
  have hL : (Q.map prA).length ≤ LINE := by rw [List.length_map]; have := big; omega
  have hc := compV_map (M := M) (s := [some (.ref R), some (.ref P), none]) (γ := gNm 2) (τ := tTrue) (φ := eTup (aCons (eBin ixD (eBin ixD (eVar 2) (eC (.int 0))) (eC (.int 1))) (aCons (eMeth ((0, φ_Controls_shown) :: []) (eAttr [] ((1, 1) :: []) (eVar 0)) (aCons (eBin ixD (eBin ixD (eVar 2) (eC (.int 0))) (eC (.int 1))) aNil) aNil) aNil))) (chk := mutChk P (Q.map prA)) (e := prA) (g := toldD f) (p := fun _ => true) (eqb_mut hP) (as := Q) fun q _ => ⟨[some (.ref R), some (.ref P), some (prA q)], rfl, rfl, fun _ => by
    have hq0 : ixD (prA q) (.int 0) M = some (ndD q.1, M) := rfl
    have hsh := shown_eq s (num q.1)
    unfold toldD
    simp only [LD.v_lenO, LD.v_eqQi, LD.v_neQi, LD.q_Ins, LD.q_App, LD.okS_t, LD.v_isLst, LD.lstK_s, LD.v_app, LD.q_Rev, LD.lsK_s, LD.q_Get, LD.getKK_s, LD.v_lsL, LD.v_keyI, LD.v_keyS, Option.isSome_some, Option.isSome_none, Option.getD_some, Option.getD_none, LD.v_eqs, LD.v_nes, LD.v_isiBb, LD.q_C, LD.q_Var, LD.q_Bin, LD.q_Un, LD.q_tOf, LD.q_tCmp, LD.q_tAnd, LD.q_tOr, LD.q_tNot, LD.q_And, LD.q_Or, LD.q_Not, LD.q_If, LD.q_Nil, LD.q_Cons, LD.q_Tup, LD.q_Lst, LD.q_LstM, LD.q_Call, LD.q_Meth, LD.q_Attr, LD.q_Blt, LD.q_Comp, LD.q_iOf, LD.srcK_s, LD.v_truB, LD.v_truL, LD.v_truN, LD.v_srcL, LD.v_neg, LD.q_iRange, LD.q_Next, LD.q_Seq, LD.q_Expr, LD.q_Ret, LD.q_RetN, LD.q_SIf, LD.q_Bk, LD.q_Ct, LD.q_Asg, LD.q_Nm, LD.q_Sub, LD.q_Del, LD.q_Fld, LD.q_Dic, LD.q_For, LD.wipeD, Bool.not_true, Bool.not_false, LD.ifT, LD.le0, LD.le1, LD.le2, LD.le3, LD.le4, LD.le5, LD.le6, LD.cmpK_l, LD.nn_n, LD.nn_i, LD.nn_t, LD.nn_l, LD.nn_r, LD.nn_b, LD.nn_s, LD.nonK_n, LD.okK_o, LD.bind_k, LD.bind_b, LD.bind_e, LD.bindS_k, LD.bindS_e, LD.ofO_s, LD.getV_s, LD.truK_s, LD.blK_b, LD.refK_r, LD.insK_i, LD.lookK_s, LD.lookK_n, LD.refS_r, LD.insS_i, LD.lookS_s, LD.seq_n, LD.seq_r, LD.seq_b, LD.seq_c, LD.seq_e, LD.storeK_s, LD.memK_s, LD.endF_n, LD.endF_r, LD.endF_e, LD.pick_t, LD.pick_f, LD.finL_f, LD.finL_t, LD.v_add, LD.v_sub, LD.v_mulR, LD.v_fdiv, LD.v_mod, LD.v_int, LD.v_lt, LD.v_le, LD.v_gt, LD.v_ge, LD.v_eq, LD.v_ne, LD.v_len, LD.v_tix, LD.v_lix, LD.v_rix, LD.rixK_l, LD.rixK_d, LD.v_isN, LD.v_isnN, LD.v_isNone, LD.v_isNoneN, LD.startD, List.length_cons, List.length_nil, List.map_cons, List.map_nil, List.cons_append, List.nil_append, List.append_nil, List.getElem?_cons_zero, List.getElem?_cons_succ, List.set_cons_zero, List.set_cons_succ, List.replicate_succ, List.replicate_zero, Nat.reduceAdd, Nat.reduceSub, Nat.reduceBEq, Int.reduceLT, Int.reduceNeg, Int.reduceLE, Nat.reduceLeDiff, Nat.reduceLT, List.lookup_cons, List.lookup_nil, beq_self_eq_true, Option.map_some, Option.map_none, hq0, nd1, hR, h1, hsh]⟩
  rw [filt] at hc
  unfold φ__law_told
  refine run_def rfl ?_
  unfold ψ__law_told
  simp only [LD.v_lenO, LD.v_eqQi, LD.v_neQi, LD.q_Ins, LD.q_App, LD.okS_t, LD.v_isLst, LD.lstK_s, LD.v_app, LD.q_Rev, LD.lsK_s, LD.q_Get, LD.getKK_s, LD.v_lsL, LD.v_keyI, LD.v_keyS, Option.isSome_some, Option.isSome_none, Option.getD_some, Option.getD_none, LD.v_eqs, LD.v_nes, LD.v_isiBb, LD.q_C, LD.q_Var, LD.q_Bin, LD.q_Un, LD.q_tOf, LD.q_tCmp, LD.q_tAnd, LD.q_tOr, LD.q_tNot, LD.q_And, LD.q_Or, LD.q_Not, LD.q_If, LD.q_Nil, LD.q_Cons, LD.q_Tup, LD.q_Lst, LD.q_LstM, LD.q_Call, LD.q_Meth, LD.q_Attr, LD.q_Blt, LD.q_Comp, LD.q_iOf, LD.srcK_s, LD.v_truB, LD.v_truL, LD.v_truN, LD.v_srcL, LD.v_neg, LD.q_iRange, LD.q_Next, LD.q_Seq, LD.q_Expr, LD.q_Ret, LD.q_RetN, LD.q_SIf, LD.q_Bk, LD.q_Ct, LD.q_Asg, LD.q_Nm, LD.q_Sub, LD.q_Del, LD.q_Fld, LD.q_Dic, LD.q_For, LD.wipeD, Bool.not_true, Bool.not_false, LD.ifT, LD.le0, LD.le1, LD.le2, LD.le3, LD.le4, LD.le5, LD.le6, LD.cmpK_l, LD.nn_n, LD.nn_i, LD.nn_t, LD.nn_l, LD.nn_r, LD.nn_b, LD.nn_s, LD.nonK_n, LD.okK_o, LD.bind_k, LD.bind_b, LD.bind_e, LD.bindS_k, LD.bindS_e, LD.ofO_s, LD.getV_s, LD.truK_s, LD.blK_b, LD.refK_r, LD.insK_i, LD.lookK_s, LD.lookK_n, LD.refS_r, LD.insS_i, LD.lookS_s, LD.seq_n, LD.seq_r, LD.seq_b, LD.seq_c, LD.seq_e, LD.storeK_s, LD.memK_s, LD.endF_n, LD.endF_r, LD.endF_e, LD.pick_t, LD.pick_f, LD.finL_f, LD.finL_t, LD.v_add, LD.v_sub, LD.v_mulR, LD.v_fdiv, LD.v_mod, LD.v_int, LD.v_lt, LD.v_le, LD.v_gt, LD.v_ge, LD.v_eq, LD.v_ne, LD.v_len, LD.v_tix, LD.v_lix, LD.v_rix, LD.rixK_l, LD.rixK_d, LD.v_isN, LD.v_isnN, LD.v_isNone, LD.v_isNoneN, LD.startD, List.length_cons, List.length_nil, List.map_cons, List.map_nil, List.cons_append, List.nil_append, List.append_nil, List.getElem?_cons_zero, List.getElem?_cons_succ, List.set_cons_zero, List.set_cons_succ, List.replicate_succ, List.replicate_zero, Nat.reduceAdd, Nat.reduceSub, Nat.reduceBEq, Int.reduceLT, Int.reduceNeg, Int.reduceLE, Nat.reduceLeDiff, Nat.reduceLT, List.lookup_cons, List.lookup_nil, beq_self_eq_true, Option.map_some, Option.map_none, v_srcR hP, cmpK_l hL, hc]
theorem ne_ov (o : Option Vl) (M : Mem) : boD (notB eqD) (ovD o) (ovD o) M = some (.bl false, M) := by
  cases o with
  | none => rfl
  | some v =>
    have := ne_v v v M
    rw [decide_eq_true rfl] at this
    exact this
theorem neQ_ov (o : Option Vl) (M : Mem) : boD (notB eqQ) (ovD o) (ovD o) M = some (.bl false, M) := by
  rw [← ne_ov o M]
  cases o with
  | none => rfl
  | some v => cases v <;> rfl
theorem loop20 {M : Mem} {R C S : Nat} {doc : List Nd} {prev : List Str} {f f' : Kn} {sent : List D} {a : Nd} {due : D} {b : Bool} {a0 a1 a2 a4 a5 a7 a8 a9 a10 a12 a13 a14 : Option D} (s : St M R C S doc prev f' sent) (hdue : boD eqQ due (.lst []) M = some (.bl b, M)) (h1 : ∀ m, m ≠ num a → f' m = f m) (h2 : b = true → f' (num a) = f (num a)) : ∀ (Q : List (Nd × List Nd)) (x15 x16 : Option D), ∃ y15 y16, forV (fun _ => true) (gTp [15, 16]) β_law_20 (Q.map (toldD f)) [a0, a1, a2, some (.ref R), a4, a5, some (ndD a), a7, a8, a9, a10, some due, a12, a13, a14, x15, x16] M =
    .nx [a0, a1, a2, some (.ref R), a4, a5, some (ndD a), a7, a8, a9, a10, some due, a12, a13, a14, y15, y16] M
  | [], x15, x16 => ⟨x15, x16, forV_n rfl⟩
  | q :: Q, x15, x16 => by
    obtain ⟨y15, y16, e⟩ := loop20 (a0 := a0) (a1 := a1) (a2 := a2) (a4 := a4) (a5 := a5) (a7 := a7) (a8 := a8) (a9 := a9) (a10 := a10) (a12 := a12) (a13 := a13) (a14 := a14) s hdue h1 h2 Q (some (.int (num q.1))) (some (ovD ((f (num q.1)).map (·.2))))
    refine ⟨y15, y16, ?_⟩
    rw [List.map_cons]
    refine (forV_c (s2 := [a0, a1, a2, some (.ref R), a4, a5, some (ndD a), a7, a8, a9, a10, some due, a12, a13, a14, some (.int (num q.1)), some (ovD ((f (num q.1)).map (·.2)))]) (M2 := M) rfl gTp2 ?_).trans e
    have hR := s.hR
    obtain ⟨κ, kvs, hC, _⟩ := s.hC
    have hsh := shown_eq s (num q.1)
    unfold β_law_20
    by_cases hn : num q.1 = num a
    · rw [← hn] at h2
      cases b with
      | true =>
        rw [h2 rfl] at hsh
        simp only [LD.v_lenO, LD.v_eqQi, LD.v_neQi, LD.q_Ins, LD.q_App, LD.okS_t, LD.v_isLst, LD.lstK_s, LD.v_app, LD.q_Rev, LD.lsK_s, LD.q_Get, LD.getKK_s, LD.v_lsL, LD.v_keyI, LD.v_keyS, Option.isSome_some, Option.isSome_none, Option.getD_some, Option.getD_none, LD.v_eqs, LD.v_nes, LD.v_isiBb, LD.q_C, LD.q_Var, LD.q_Bin, LD.q_Un, LD.q_tOf, LD.q_tCmp, LD.q_tAnd, LD.q_tOr, LD.q_tNot, LD.q_And, LD.q_Or, LD.q_Not, LD.q_If, LD.q_Nil, LD.q_Cons, LD.q_Tup, LD.q_Lst, LD.q_LstM, LD.q_Call, LD.q_Meth, LD.q_Attr, LD.q_Blt, LD.q_Comp, LD.q_iOf, LD.srcK_s, LD.v_truB, LD.v_truL, LD.v_truN, LD.v_srcL, LD.v_neg, LD.q_iRange, LD.q_Next, LD.q_Seq, LD.q_Expr, LD.q_Ret, LD.q_RetN, LD.q_SIf, LD.q_Bk, LD.q_Ct, LD.q_Asg, LD.q_Nm, LD.q_Sub, LD.q_Del, LD.q_Fld, LD.q_Dic, LD.q_For, LD.wipeD, Bool.not_true, Bool.not_false, LD.ifT, LD.le0, LD.le1, LD.le2, LD.le3, LD.le4, LD.le5, LD.le6, LD.cmpK_l, LD.nn_n, LD.nn_i, LD.nn_t, LD.nn_l, LD.nn_r, LD.nn_b, LD.nn_s, LD.nonK_n, LD.okK_o, LD.bind_k, LD.bind_b, LD.bind_e, LD.bindS_k, LD.bindS_e, LD.ofO_s, LD.getV_s, LD.truK_s, LD.blK_b, LD.refK_r, LD.insK_i, LD.lookK_s, LD.lookK_n, LD.refS_r, LD.insS_i, LD.lookS_s, LD.seq_n, LD.seq_r, LD.seq_b, LD.seq_c, LD.seq_e, LD.storeK_s, LD.memK_s, LD.endF_n, LD.endF_r, LD.endF_e, LD.pick_t, LD.pick_f, LD.finL_f, LD.finL_t, LD.v_add, LD.v_sub, LD.v_mulR, LD.v_fdiv, LD.v_mod, LD.v_int, LD.v_lt, LD.v_le, LD.v_gt, LD.v_ge, LD.v_eq, LD.v_ne, LD.v_len, LD.v_tix, LD.v_lix, LD.v_rix, LD.rixK_l, LD.rixK_d, LD.v_isN, LD.v_isnN, LD.v_isNone, LD.v_isNoneN, LD.startD, List.length_cons, List.length_nil, List.map_cons, List.map_nil, List.cons_append, List.nil_append, List.append_nil, List.getElem?_cons_zero, List.getElem?_cons_succ, List.set_cons_zero, List.set_cons_succ, List.replicate_succ, List.replicate_zero, Nat.reduceAdd, Nat.reduceSub, Nat.reduceBEq, Int.reduceLT, Int.reduceNeg, Int.reduceLE, Nat.reduceLeDiff, Nat.reduceLT, List.lookup_cons, List.lookup_nil, beq_self_eq_true, Option.map_some, Option.map_none, nd1, beq_iff_eq.mpr hn, hdue, hR, hC, hsh, neQ_ov]
      | false => simp only [LD.v_lenO, LD.v_eqQi, LD.v_neQi, LD.q_Ins, LD.q_App, LD.okS_t, LD.v_isLst, LD.lstK_s, LD.v_app, LD.q_Rev, LD.lsK_s, LD.q_Get, LD.getKK_s, LD.v_lsL, LD.v_keyI, LD.v_keyS, Option.isSome_some, Option.isSome_none, Option.getD_some, Option.getD_none, LD.v_eqs, LD.v_nes, LD.v_isiBb, LD.q_C, LD.q_Var, LD.q_Bin, LD.q_Un, LD.q_tOf, LD.q_tCmp, LD.q_tAnd, LD.q_tOr, LD.q_tNot, LD.q_And, LD.q_Or, LD.q_Not, LD.q_If, LD.q_Nil, LD.q_Cons, LD.q_Tup, LD.q_Lst, LD.q_LstM, LD.q_Call, LD.q_Meth, LD.q_Attr, LD.q_Blt, LD.q_Comp, LD.q_iOf, LD.srcK_s, LD.v_truB, LD.v_truL, LD.v_truN, LD.v_srcL, LD.v_neg, LD.q_iRange, LD.q_Next, LD.q_Seq, LD.q_Expr, LD.q_Ret, LD.q_RetN, LD.q_SIf, LD.q_Bk, LD.q_Ct, LD.q_Asg, LD.q_Nm, LD.q_Sub, LD.q_Del, LD.q_Fld, LD.q_Dic, LD.q_For, LD.wipeD, Bool.not_true, Bool.not_false, LD.ifT, LD.le0, LD.le1, LD.le2, LD.le3, LD.le4, LD.le5, LD.le6, LD.cmpK_l, LD.nn_n, LD.nn_i, LD.nn_t, LD.nn_l, LD.nn_r, LD.nn_b, LD.nn_s, LD.nonK_n, LD.okK_o, LD.bind_k, LD.bind_b, LD.bind_e, LD.bindS_k, LD.bindS_e, LD.ofO_s, LD.getV_s, LD.truK_s, LD.blK_b, LD.refK_r, LD.insK_i, LD.lookK_s, LD.lookK_n, LD.refS_r, LD.insS_i, LD.lookS_s, LD.seq_n, LD.seq_r, LD.seq_b, LD.seq_c, LD.seq_e, LD.storeK_s, LD.memK_s, LD.endF_n, LD.endF_r, LD.endF_e, LD.pick_t, LD.pick_f, LD.finL_f, LD.finL_t, LD.v_add, LD.v_sub, LD.v_mulR, LD.v_fdiv, LD.v_mod, LD.v_int, LD.v_lt, LD.v_le, LD.v_gt, LD.v_ge, LD.v_eq, LD.v_ne, LD.v_len, LD.v_tix, LD.v_lix, LD.v_rix, LD.rixK_l, LD.rixK_d, LD.v_isN, LD.v_isnN, LD.v_isNone, LD.v_isNoneN, LD.startD, List.length_cons, List.length_nil, List.map_cons, List.map_nil, List.cons_append, List.nil_append, List.append_nil, List.getElem?_cons_zero, List.getElem?_cons_succ, List.set_cons_zero, List.set_cons_succ, List.replicate_succ, List.replicate_zero, Nat.reduceAdd, Nat.reduceSub, Nat.reduceBEq, Int.reduceLT, Int.reduceNeg, Int.reduceLE, Nat.reduceLeDiff, Nat.reduceLT, List.lookup_cons, List.lookup_nil, beq_self_eq_true, Option.map_some, Option.map_none, nd1, beq_iff_eq.mpr hn, hdue]
    · rw [h1 _ hn] at hsh
      simp only [LD.v_lenO, LD.v_eqQi, LD.v_neQi, LD.q_Ins, LD.q_App, LD.okS_t, LD.v_isLst, LD.lstK_s, LD.v_app, LD.q_Rev, LD.lsK_s, LD.q_Get, LD.getKK_s, LD.v_lsL, LD.v_keyI, LD.v_keyS, Option.isSome_some, Option.isSome_none, Option.getD_some, Option.getD_none, LD.v_eqs, LD.v_nes, LD.v_isiBb, LD.q_C, LD.q_Var, LD.q_Bin, LD.q_Un, LD.q_tOf, LD.q_tCmp, LD.q_tAnd, LD.q_tOr, LD.q_tNot, LD.q_And, LD.q_Or, LD.q_Not, LD.q_If, LD.q_Nil, LD.q_Cons, LD.q_Tup, LD.q_Lst, LD.q_LstM, LD.q_Call, LD.q_Meth, LD.q_Attr, LD.q_Blt, LD.q_Comp, LD.q_iOf, LD.srcK_s, LD.v_truB, LD.v_truL, LD.v_truN, LD.v_srcL, LD.v_neg, LD.q_iRange, LD.q_Next, LD.q_Seq, LD.q_Expr, LD.q_Ret, LD.q_RetN, LD.q_SIf, LD.q_Bk, LD.q_Ct, LD.q_Asg, LD.q_Nm, LD.q_Sub, LD.q_Del, LD.q_Fld, LD.q_Dic, LD.q_For, LD.wipeD, Bool.not_true, Bool.not_false, LD.ifT, LD.le0, LD.le1, LD.le2, LD.le3, LD.le4, LD.le5, LD.le6, LD.cmpK_l, LD.nn_n, LD.nn_i, LD.nn_t, LD.nn_l, LD.nn_r, LD.nn_b, LD.nn_s, LD.nonK_n, LD.okK_o, LD.bind_k, LD.bind_b, LD.bind_e, LD.bindS_k, LD.bindS_e, LD.ofO_s, LD.getV_s, LD.truK_s, LD.blK_b, LD.refK_r, LD.insK_i, LD.lookK_s, LD.lookK_n, LD.refS_r, LD.insS_i, LD.lookS_s, LD.seq_n, LD.seq_r, LD.seq_b, LD.seq_c, LD.seq_e, LD.storeK_s, LD.memK_s, LD.endF_n, LD.endF_r, LD.endF_e, LD.pick_t, LD.pick_f, LD.finL_f, LD.finL_t, LD.v_add, LD.v_sub, LD.v_mulR, LD.v_fdiv, LD.v_mod, LD.v_int, LD.v_lt, LD.v_le, LD.v_gt, LD.v_ge, LD.v_eq, LD.v_ne, LD.v_len, LD.v_tix, LD.v_lix, LD.v_rix, LD.rixK_l, LD.rixK_d, LD.v_isN, LD.v_isnN, LD.v_isNone, LD.v_isNoneN, LD.startD, List.length_cons, List.length_nil, List.map_cons, List.map_nil, List.cons_append, List.nil_append, List.append_nil, List.getElem?_cons_zero, List.getElem?_cons_succ, List.set_cons_zero, List.set_cons_succ, List.replicate_succ, List.replicate_zero, Nat.reduceAdd, Nat.reduceSub, Nat.reduceBEq, Int.reduceLT, Int.reduceNeg, Int.reduceLE, Nat.reduceLeDiff, Nat.reduceLT, List.lookup_cons, List.lookup_nil, beq_self_eq_true, Option.map_some, Option.map_none, nd1, beq_eq_false_iff_ne.mpr hn, hR, hC, hsh, ne_ov]
/-- what holds behind each turn -/
structure Ls (M : Mem) (R C S P : Nat) (doc : List Nd) (prev : List Str) (Q : List (Nd × List Nd)) (rows : List Int) (f : Kn) (sent : List D) : Prop where
  st : St M R C S doc prev f sent
  hP : M[P]? = some (.lst (Q.map prA))
  hr : M[0]? = some (.lst (rows.map .int))
  nP : P ≠ S
  n0 : 0 ≠ S
  set : ∃ g, ∀ n, f n = resK g doc n
theorem Ls.step {M M' : Mem} {R C S P : Nat} {doc : List Nd} {prev : List Str} {Q : List (Nd × List Nd)} {rows : List Int} {f f' : Kn} {sent sent' : List D} (l : Ls M R C S P doc prev Q rows f sent) (k : Keep S M M') (s : St M' R C S doc prev f' sent') (h : ∃ g, ∀ n, f' n = resK g doc n) : Ls M' R C S P doc prev Q rows f' sent' := ⟨s, k _ _ l.nP l.hP, k _ _ l.n0 l.hr, l.nP, l.n0, h⟩
theorem pick6 (c : Int) (h0 : 0 ≤ c) (h : c < 6) : ∃ x : Str, atI [D.str "", .str "a", .str "b", .str "true", .str "yes", .str "none"] c = some (.str x) := by
  have h : c = 0 ∨ c = 1 ∨ c = 2 ∨ c = 3 ∨ c = 4 ∨ c = 5 := by omega
  rcases h with rfl | rfl | rfl | rfl | rfl | rfl <;> exact ⟨_, rfl⟩
/-- where a pair's node stands -/
theorem elem_pair {doc : List Nd} {q : Nd × List Nd} (dk : DocOk doc) (hq : q ∈ allL doc []) : wayL doc (num q.1) = q.2 ++ [q.1] := by
  obtain ⟨p, h1, h2, _⟩ := way_allL doc [] dk.nd q hq
  rw [List.nil_append] at h1
  rw [h2, h1]
theorem elemAt_pair {doc : List Nd} {q : Nd × List Nd} (dk : DocOk doc) (hq : q ∈ allL doc []) : elemAt doc (num q.1) = if isEl q.1 && !(q.2 ++ [q.1]).any dis then some q.1 else none := by
  unfold elemAt
  rw [elem_pair dk hq, List.getLast?_append, List.getLast?_singleton, Option.some_or]
theorem el_pair {doc : List Nd} {q : Nd × List Nd} (hq : q ∈ allL doc []) (he : isEl q.1 = true) : (q.1, (q.2 ++ [q.1]).any dis) ∈ elL doc false := by
  rw [elL_all doc false [] rfl]
  exact List.mem_map.mpr ⟨q, List.mem_filter.mpr ⟨hq, he⟩, rfl⟩
end K65
namespace K65
open PySem PySem.Spec PyProof.Rows L2 LD
def tailS : SSem := (sSeq (sIf (tOr (tCmp (boD (notB eqQ)) (eSlice false (eAttr [] ((1, 3) :: []) (eVar 3)) (oSome (eVar 10)) oNone) (eVar 11)) (tCmp (boD (notB eqQ)) (eMeth ((0, φ_Controls_shown) :: []) (eAttr [] ((1, 1) :: []) (eVar 3)) (aCons (eBin ixD (eVar 6) (eC (.int 1))) aNil) aNil) (eVar 12))) (sSeq (sRet (eC (.bl false))) sNext) sNext) (sSeq (sFor (iOf (eVar 9)) (gTp [15, 16]) β_law_20) sNext))
theorem tail_ok {M : Mem} {R C S : Nat} {doc : List Nd} {prev : List Str} {f f' : Kn} {sent new : List D} {a : Nd} {due : D} {b : Bool} {Q : List (Nd × List Nd)} {a0 a1 a2 a4 a5 a7 a8 a13 a14 x15 x16 : Option D} (s : St M R C S doc prev f' (sent ++ new)) (hnew : boD (notB eqQ) (.lst new) due M = some (.bl false, M)) (hdue : boD eqQ due (.lst []) M = some (.bl b, M)) (h1 : ∀ m, m ≠ num a → f' m = f m) (h2 : b = true → f' (num a) = f (num a)) :
    ∃ y15 y16, tailS [a0, a1, a2, some (.ref R), a4, a5, some (ndD a), a7, a8, some (.lst (Q.map (toldD f))), some (.int sent.length), some due, some (ovD ((f' (num a)).map (·.2))), a13, a14, x15, x16] M = .nx [a0, a1, a2, some (.ref R), a4, a5, some (ndD a), a7, a8, some (.lst (Q.map (toldD f))), some (.int sent.length), some due, some (ovD ((f' (num a)).map (·.2))), a13, a14, y15, y16] M := by
  have hR := s.hR
  obtain ⟨κ, kvs, hC, _⟩ := s.hC
  have hsl := slice_end s.hS
  have hsh := shown_eq s (num a)
  obtain ⟨y15, y16, e⟩ := loop20 (a0 := a0) (a1 := a1) (a2 := a2) (a4 := a4) (a5 := a5) (a7 := a7) (a8 := a8) (a9 := some (.lst (Q.map (toldD f)))) (a10 := some (.int sent.length)) (a12 := some (ovD ((f' (num a)).map (·.2)))) (a13 := a13) (a14 := a14) s hdue h1 h2 Q x15 x16
  refine ⟨y15, y16, ?_⟩
  unfold tailS
  simp only [LD.v_lenO, LD.v_eqQi, LD.v_neQi, LD.q_Ins, LD.q_App, LD.okS_t, LD.v_isLst, LD.lstK_s, LD.v_app, LD.q_Rev, LD.lsK_s, LD.q_Get, LD.getKK_s, LD.v_lsL, LD.v_keyI, LD.v_keyS, Option.isSome_some, Option.isSome_none, Option.getD_some, Option.getD_none, LD.v_eqs, LD.v_nes, LD.v_isiBb, LD.q_C, LD.q_Var, LD.q_Bin, LD.q_Un, LD.q_tOf, LD.q_tCmp, LD.q_tAnd, LD.q_tOr, LD.q_tNot, LD.q_And, LD.q_Or, LD.q_Not, LD.q_If, LD.q_Nil, LD.q_Cons, LD.q_Tup, LD.q_Lst, LD.q_LstM, LD.q_Call, LD.q_Meth, LD.q_Attr, LD.q_Blt, LD.q_Comp, LD.q_iOf, LD.srcK_s, LD.v_truB, LD.v_truL, LD.v_truN, LD.v_srcL, LD.v_neg, LD.q_iRange, LD.q_Next, LD.q_Seq, LD.q_Expr, LD.q_Ret, LD.q_RetN, LD.q_SIf, LD.q_Bk, LD.q_Ct, LD.q_Asg, LD.q_Nm, LD.q_Sub, LD.q_Del, LD.q_Fld, LD.q_Dic, LD.q_For, LD.wipeD, Bool.not_true, Bool.not_false, LD.ifT, LD.le0, LD.le1, LD.le2, LD.le3, LD.le4, LD.le5, LD.le6, LD.cmpK_l, LD.nn_n, LD.nn_i, LD.nn_t, LD.nn_l, LD.nn_r, LD.nn_b, LD.nn_s, LD.nonK_n, LD.okK_o, LD.bind_k, LD.bind_b, LD.bind_e, LD.bindS_k, LD.bindS_e, LD.ofO_s, LD.getV_s, LD.truK_s, LD.blK_b, LD.refK_r, LD.insK_i, LD.lookK_s, LD.lookK_n, LD.refS_r, LD.insS_i, LD.lookS_s, LD.seq_n, LD.seq_r, LD.seq_b, LD.seq_c, LD.seq_e, LD.storeK_s, LD.memK_s, LD.endF_n, LD.endF_r, LD.endF_e, LD.pick_t, LD.pick_f, LD.finL_f, LD.finL_t, LD.v_add, LD.v_sub, LD.v_mulR, LD.v_fdiv, LD.v_mod, LD.v_int, LD.v_lt, LD.v_le, LD.v_gt, LD.v_ge, LD.v_eq, LD.v_ne, LD.v_len, LD.v_tix, LD.v_lix, LD.v_rix, LD.rixK_l, LD.rixK_d, LD.v_isN, LD.v_isnN, LD.v_isNone, LD.v_isNoneN, LD.startD, List.length_cons, List.length_nil, List.map_cons, List.map_nil, List.cons_append, List.nil_append, List.append_nil, List.getElem?_cons_zero, List.getElem?_cons_succ, List.set_cons_zero, List.set_cons_succ, List.replicate_succ, List.replicate_zero, Nat.reduceAdd, Nat.reduceSub, Nat.reduceBEq, Int.reduceLT, Int.reduceNeg, Int.reduceLE, Nat.reduceLeDiff, Nat.reduceLT, List.lookup_cons, List.lookup_nil, beq_self_eq_true, Option.map_some, Option.map_none, hR, q_Slice, q_oSome, q_oNone, soK_i, hsl, hnew, hC, nd1, hsh, neQ_ov, e]
def a12S : SSem := (sAsg (gNm 12) (eMeth ((0, φ_Controls_shown) :: []) (eAttr [] ((1, 1) :: []) (eVar 3)) (aCons (eBin ixD (eVar 6) (eC (.int 1))) aNil) aNil))
def ifS : SSem := (sIf (tAnd (tCmp (boD eqD) (eCall φ__law_kind (aCons (eVar 6) aNil) aNil) (eC (.str "select"))) (tAnd (tNot (tOf (eCall φ__law_shut (aCons (eVar 6) (aCons (eVar 7) aNil)) aNil))) (tCmp (inO ((0, φ_Controls___contains__) :: []) false) (eVar 8) (eCall φ__law_free (aCons (eVar 6) aNil) aNil))))
  (sSeq (sAsg (gNm 13) (eBin ixD (eComp false (iOf (eVar 9)) (gNm 14) (tCmp (boD eqD) (eBin ixD (eVar 14) (eC (.int 0))) (eBin ixD (eVar 6) (eC (.int 1)))) (eBin ixD (eVar 14) (eC (.int 1))) [14]) (eC (.int 0))))
  (sSeq (sAsg (gNm 12) (eIf (tCmp (boD isB) (eCall φ__law_bound (aCons (eVar 6) aNil) aNil) (eC .non)) (eVar 8) (eCall φ__law_bound (aCons (eVar 6) aNil) aNil)))
  (sSeq (sIf (tCmp (boD (notB eqD)) (eVar 13) (eVar 8))
  (sSeq (sAsg (gNm 11) (eLst false (aCons (eTup (aCons (eBin ixD (eVar 6) (eC (.int 1))) (aCons (eC (.str "input")) (aCons (eDic0 true) aNil)))) (aCons (eTup (aCons (eBin ixD (eVar 6) (eC (.int 1))) (aCons (eC (.str "change")) (aCons (eDic0 true) aNil)))) aNil)))) sNext) sNext) sNext))) sNext)
theorem nilnil (M : Mem) : boD (notB eqQ) (.lst []) (.lst []) M = some (.bl false, M) := rfl
theorem eqnil (M : Mem) : boD eqQ (.lst []) (.lst []) M = some (.bl true, M) := rfl
theorem eqnil2 (M : Mem) (x y : D) : boD eqQ (.lst [x, y]) (.lst []) M = some (.bl false, M) := rfl
theorem ev_same {M : Mem} {n : Int} {e : Str} {r k : Nat} (h : M[r]? = some (.dic [])) : eqG (k + 2) M (ev0 n e) (.tup [.int n, .str e, .ref r]) = some true := by
  have hd : eqG (k + 1) M (.dic [] []) (.ref r) = some true := by
    have h1 : lsOf M (.ref r) = none := by simp only [lsOf, h]
    have h2 : dcOf M (.ref r) = some [] := v_dcR h
    unfold eqG
    simp only [isF, tupO, lsOf, dcOf, h]
    rfl
  have h0 : eqG (k + 1) M (.int n) (.int n) = some true := by
    show some (n == n) = _
    rw [beq_self_eq_true]
  have h1 : eqG (k + 1) M (.str e) (.str e) = some true := by
    show some (e == e) = _
    rw [beq_self_eq_true]
  show allO (eqG (k + 1) M) [.int n, .str e, .dic [] []] [.int n, .str e, .ref r] = some true
  unfold allO
  rw [h0]
  unfold allO
  rw [h1]
  unfold allO
  rw [hd] <;> rfl
theorem evs_same {M : Mem} {n : Int} {r r' : Nat} (h : M[r]? = some (.dic [])) (h' : M[r']? = some (.dic [])) : boD (notB eqQ) (.lst [ev0 n "input", ev0 n "change"]) (.lst [.tup [.int n, .str "input", .ref r], .tup [.int n, .str "change", .ref r']]) M = some (.bl false, M) := by
  have e : eqQ M (.lst [ev0 n "input", ev0 n "change"]) (.lst [.tup [.int n, .str "input", .ref r], .tup [.int n, .str "change", .ref r']]) = some true := by
    show allO (eqG 11 M) [ev0 n "input", ev0 n "change"] [.tup [.int n, .str "input", .ref r], .tup [.int n, .str "change", .ref r']] = some true
    unfold allO
    rw [ev_same (k := 9) h]
    unfold allO
    rw [ev_same (k := 9) h'] <;> rfl
  unfold boD notB
  rw [e] <;> rfl
theorem turn {M : Mem} {R C S P : Nat} {doc : List Nd} {prev : List Str} {rows : List Int} {f : Kn} {sent : List D} (dk : DocOk doc) (hdl : (numsL doc).length < 900) (l : Ls M R C S P doc prev (allL doc []) rows f sent) (hR60 : rows.length = 60) (hsl : sent.length < 80000) (hne : 0 < (allL doc []).length) (k : Nat) (x6 x7 x8 x9 x10 x11 x12 x13 x14 x15 x16 : Option D) {a0 a2 : Option D} :
    ∃ (M' : Mem) (f' : Kn) (sent' : List D) (y6 y7 y8 y9 y10 y11 y12 y13 y14 y15 y16 : Option D), β_law_5 [a0, some (.ref 0), a2, some (.ref R), some (.ref P), some (.int k), x6, x7, x8, x9, x10, x11, x12, x13, x14, x15, x16] M =
      .nx [a0, some (.ref 0), a2, some (.ref R), some (.ref P), some (.int k), y6, y7, y8, y9, y10, y11, y12, y13, y14, y15, y16] M' ∧ Ls M' R C S P doc prev (allL doc []) rows f' sent' ∧ sent'.length ≤ sent.length + 2 := by
  have hb := big
  -- the pair
  obtain ⟨r1, hr1⟩ : ∃ r, atI (rows.map D.int) 1 = some (.int r) := ⟨rows[1], atN (n := 1) (by rw [List.getElem?_map, List.getElem?_eq_getElem (by omega)] <;> rfl)⟩
  have hpos : (0 : Int) < (((allL doc []).map prA).length : Int) := by rw [List.length_map]; omega
  have m0 := Int.emod_nonneg ((k : Int) + r1) (show (((allL doc []).map prA).length : Int) ≠ 0 by omega)
  have m1 := Int.emod_lt_of_pos ((k : Int) + r1) hpos
  obtain ⟨j, hj⟩ : ∃ j : Nat, ((k : Int) + r1) % (((allL doc []).map prA).length : Int) = (j : Int) := ⟨_, (Int.toNat_of_nonneg m0).symm⟩
  have hjl : j < (allL doc []).length := by rw [List.length_map] at m1 hj; omega
  generalize hq : (allL doc [])[j] = q
  have hqm : q ∈ allL doc [] := by rw [← hq]; exact List.getElem_mem _
  have hat : atI ((allL doc []).map prA) (j : Int) = some (prA q) := atN (by rw [List.getElem?_map, List.getElem?_eq_getElem hjl, hq] <;> rfl)
  -- the value
  obtain ⟨r2, hr2⟩ : ∃ r, atI (rows.map D.int) ((k : Int) % 58 + 2) = some (.int r) := by
    have e : (k : Int) % 58 + 2 = ((k % 58 + 2 : Nat) : Int) := by omega
    rw [e]
    exact ⟨rows[k % 58 + 2], atN (by rw [List.getElem?_map, List.getElem?_eq_getElem (by omega)] <;> rfl)⟩
  obtain ⟨x, hx⟩ := pick6 (r2 % 6) (Int.emod_nonneg _ (by decide)) (Int.emod_lt_of_pos _ (by decide))
  have hQl : (allL doc []).length < 1000 := by rw [allL_len]; omega
  have etold := told_eq l.st l.hP hQl
  have hRr := l.st.hR
  obtain ⟨g, hg⟩ := l.set
  -- choose
  have hf : ∀ a, elemAt doc (num q.1) = some a → kd a = some ("select" : Str) → f (num q.1) = some (("select" : Str), setV g (q.1, (q.2 ++ [q.1]).any dis) "select") := fun a ha hk => by
    rw [elemAt_pair dk hqm] at ha
    split at ha
    · rename_i hc
      cases ha
      rw [Bool.and_eq_true] at hc
      rw [hg]
      exact resK_at (q := (q.1, (q.2 ++ [q.1]).any dis)) dk.nd (el_pair hqm hc.1) hk
    · cases ha
  obtain ⟨M1, ec, kp, hcase⟩ := choose_eq (x := x) dk l.st hf (by omega)
  have hC0 := l.st.hC
  have hp2 : q.2.length < 1000 := by
    have := allL_pre doc [] q hqm
    have := dk.ht
    rw [List.length_nil] at *
    omega
  -- the first statements
  have head : ∀ (rest : SSem), (fun rest => sSeq (sAsg (gTp [6, 7]) (eBin ixD (eVar 4) (eBin modD (eBin addD (eVar 5) (eBlt intC (aCons (eBin ixD (eVar 1) (eC (.int 1))) aNil))) (eBlt (lenO ((0, φ_Controls___len__) :: [])) (aCons (eVar 4) aNil))))) (sSeq (sAsg (gNm 8) (eBin ixD (eLst false (aCons (eC (.str "")) (aCons (eC (.str "a")) (aCons (eC (.str "b")) (aCons (eC (.str "true")) (aCons (eC (.str "yes")) (aCons (eC (.str "none")) aNil))))))) (eBin modD (eBlt intC (aCons (eBin ixD (eVar 1) (eBin addD (eBin modD (eVar 5) (eC (.int 58))) (eC (.int 2)))) aNil)) (eC (.int 6))))) (sSeq (sAsg (gNm 9) (eCall φ__law_told (aCons (eVar 3) (aCons (eVar 4) aNil)) aNil)) (sSeq (sAsg (gNm 10) (eBlt (lenO ((0, φ_Controls___len__) :: [])) (aCons (eAttr [] ((1, 3) :: []) (eVar 3)) aNil))) (sSeq (sExpr (eCall φ_choose (aCons (eVar 3) (aCons (eBin ixD (eVar 6) (eC (.int 1))) (aCons (eVar 8) aNil))) aNil)) (sSeq (sAsg (gNm 11) (eLst false aNil)) rest)))))) rest [a0, some (.ref 0), a2, some (.ref R), some (.ref P), some (.int k), x6, x7, x8, x9, x10, x11, x12, x13, x14, x15, x16] M =
      rest [a0, some (.ref 0), a2, some (.ref R), some (.ref P), some (.int k), some (ndD q.1), some (.lst (q.2.map ndD)), some (.str x), some (.lst ((allL doc []).map (toldD f))), some (.int sent.length), some (.lst []), x12, x13, x14, x15, x16] M1 := fun rest => by
    have gt : ∀ M s, gTp [6, 7] (prA q) M s = some ((s.set 6 (some (ndD q.1))).set 7 (some (.lst (q.2.map ndD)))) := fun _ _ => rfl
    simp only [LD.v_lenO, LD.v_eqQi, LD.v_neQi, LD.q_Ins, LD.q_App, LD.okS_t, LD.v_isLst, LD.lstK_s, LD.v_app, LD.q_Rev, LD.lsK_s, LD.q_Get, LD.getKK_s, LD.v_lsL, LD.v_keyI, LD.v_keyS, Option.isSome_some, Option.isSome_none, Option.getD_some, Option.getD_none, LD.v_eqs, LD.v_nes, LD.v_isiBb, LD.q_C, LD.q_Var, LD.q_Bin, LD.q_Un, LD.q_tOf, LD.q_tCmp, LD.q_tAnd, LD.q_tOr, LD.q_tNot, LD.q_And, LD.q_Or, LD.q_Not, LD.q_If, LD.q_Nil, LD.q_Cons, LD.q_Tup, LD.q_Lst, LD.q_LstM, LD.q_Call, LD.q_Meth, LD.q_Attr, LD.q_Blt, LD.q_Comp, LD.q_iOf, LD.srcK_s, LD.v_truB, LD.v_truL, LD.v_truN, LD.v_srcL, LD.v_neg, LD.q_iRange, LD.q_Next, LD.q_Seq, LD.q_Expr, LD.q_Ret, LD.q_RetN, LD.q_SIf, LD.q_Bk, LD.q_Ct, LD.q_Asg, LD.q_Nm, LD.q_Sub, LD.q_Del, LD.q_Fld, LD.q_Dic, LD.q_For, LD.wipeD, Bool.not_true, Bool.not_false, LD.ifT, LD.le0, LD.le1, LD.le2, LD.le3, LD.le4, LD.le5, LD.le6, LD.cmpK_l, LD.nn_n, LD.nn_i, LD.nn_t, LD.nn_l, LD.nn_r, LD.nn_b, LD.nn_s, LD.nonK_n, LD.okK_o, LD.bind_k, LD.bind_b, LD.bind_e, LD.bindS_k, LD.bindS_e, LD.ofO_s, LD.getV_s, LD.truK_s, LD.blK_b, LD.refK_r, LD.insK_i, LD.lookK_s, LD.lookK_n, LD.refS_r, LD.insS_i, LD.lookS_s, LD.seq_n, LD.seq_r, LD.seq_b, LD.seq_c, LD.seq_e, LD.storeK_s, LD.memK_s, LD.endF_n, LD.endF_r, LD.endF_e, LD.pick_t, LD.pick_f, LD.finL_f, LD.finL_t, LD.v_add, LD.v_sub, LD.v_mulR, LD.v_fdiv, LD.v_mod, LD.v_int, LD.v_lt, LD.v_le, LD.v_gt, LD.v_ge, LD.v_eq, LD.v_ne, LD.v_len, LD.v_tix, LD.v_lix, LD.v_rix, LD.rixK_l, LD.rixK_d, LD.v_isN, LD.v_isnN, LD.v_isNone, LD.v_isNoneN, LD.startD, List.length_cons, List.length_nil, List.map_cons, List.map_nil, List.cons_append, List.nil_append, List.append_nil, List.getElem?_cons_zero, List.getElem?_cons_succ, List.set_cons_zero, List.set_cons_succ, List.replicate_succ, List.replicate_zero, Nat.reduceAdd, Nat.reduceSub, Nat.reduceBEq, Int.reduceLT, Int.reduceNeg, Int.reduceLE, Nat.reduceLeDiff, Nat.reduceLT, List.lookup_cons, List.lookup_nil, beq_self_eq_true, Option.map_some, Option.map_none, l.hr, hr1, lenO_r l.hP, v_mod hpos, hj, l.hP, hat, gt, hr2, hx, etold, hRr, lenO_r l.st.hS, nd1, ec]
  have hdef : β_law_5 = (fun rest => sSeq (sAsg (gTp [6, 7]) (eBin ixD (eVar 4) (eBin modD (eBin addD (eVar 5) (eBlt intC (aCons (eBin ixD (eVar 1) (eC (.int 1))) aNil))) (eBlt (lenO ((0, φ_Controls___len__) :: [])) (aCons (eVar 4) aNil))))) (sSeq (sAsg (gNm 8) (eBin ixD (eLst false (aCons (eC (.str "")) (aCons (eC (.str "a")) (aCons (eC (.str "b")) (aCons (eC (.str "true")) (aCons (eC (.str "yes")) (aCons (eC (.str "none")) aNil))))))) (eBin modD (eBlt intC (aCons (eBin ixD (eVar 1) (eBin addD (eBin modD (eVar 5) (eC (.int 58))) (eC (.int 2)))) aNil)) (eC (.int 6))))) (sSeq (sAsg (gNm 9) (eCall φ__law_told (aCons (eVar 3) (aCons (eVar 4) aNil)) aNil)) (sSeq (sAsg (gNm 10) (eBlt (lenO ((0, φ_Controls___len__) :: [])) (aCons (eAttr [] ((1, 3) :: []) (eVar 3)) aNil))) (sSeq (sExpr (eCall φ_choose (aCons (eVar 3) (aCons (eBin ixD (eVar 6) (eC (.int 1))) (aCons (eVar 8) aNil))) aNil)) (sSeq (sAsg (gNm 11) (eLst false aNil)) rest)))))) (sSeq a12S (sSeq ifS tailS)) := rfl
  have key : ∃ (M' : Mem) (f' : Kn) (sent' : List D) (y11 y12 y13 y14 y15 y16 : Option D), sSeq a12S (sSeq ifS tailS) [a0, some (.ref 0), a2, some (.ref R), some (.ref P), some (.int k), some (ndD q.1), some (.lst (q.2.map ndD)), some (.str x), some (.lst ((allL doc []).map (toldD f))), some (.int sent.length), some (.lst []), x12, x13, x14, x15, x16] M1 =
      .nx [a0, some (.ref 0), a2, some (.ref R), some (.ref P), some (.int k), some (ndD q.1), some (.lst (q.2.map ndD)), some (.str x), some (.lst ((allL doc []).map (toldD f))), some (.int sent.length), y11, y12, y13, y14, y15, y16] M' ∧ Ls M' R C S P doc prev (allL doc []) rows f' sent' ∧ sent'.length ≤ sent.length + 2 := by
    rcases hcase with ⟨a, ha, hk, hxf, hst⟩ | ⟨hno, hst⟩
    · -- it is set
      rw [elemAt_pair dk hqm] at ha
      split at ha
      · rename_i hc
        cases ha
        rw [Bool.and_eq_true] at hc
        obtain ⟨hel, hnd⟩ := hc
        have hnd' : (q.2 ++ [q.1]).any dis = false := by
          cases hh : (q.2 ++ [q.1]).any dis with
          | false => rfl
          | true => rw [hh] at hnd; cases hnd
        have hdq : dis q.1 = false := by
          rw [List.any_append, Bool.or_eq_false_iff, List.any_cons, Bool.or_eq_false_iff] at hnd'
          exact hnd'.2.1
        generalize hw : setV g (q.1, (q.2 ++ [q.1]).any dis) "select" = w at hf hst
        have hfn : f (num q.1) = some (("select" : Str), w) := hf q.1 (by rw [elemAt_pair dk hqm, if_pos (by rw [Bool.and_eq_true]; exact ⟨hel, hnd⟩)]) hk
        have hpair := el_pair hqm hel
        rw [hnd'] at hpair hw
        rw [free_same hdq] at hxf
        have hxq : x ∈ freeQ (q.1, false) := by
          show x ∈ freeOf (elL (kidsOf q.1) false)
          rw [free_same hdq]; exact hxf
        let aft : Vl := match bndE (atsOf q.1) "select" with | some v => v | none => .s x
        have hf'n : (if w = .s x then resK f doc else resK (updK f (num q.1) (("select" : Str), .s x)) doc) (num q.1) = some (("select" : Str), aft) := by
          by_cases hwx : w = .s x
          · rw [if_pos hwx, stay_all dk.nd hg, hfn]
            congr 2
            show w = (match bndE (atsOf q.1) "select" with | some v => v | none => .s x)
            rw [← hw]
            unfold setV rawV
            cases hb2 : bndE (atsOf q.1) "select" with
            | some v => rw [if_neg (fun z => by cases z.2)]
            | none =>
              rw [← hwx, ← hw]
              unfold setV rawV
              rw [hb2]
          · rw [if_neg hwx]
            exact set_at_n (g := g) (q := (q.1, false)) dk.nd hpair hk hxq
        have hf'm : ∀ m, m ≠ num q.1 → (if w = .s x then resK f doc else resK (updK f (num q.1) (("select" : Str), .s x)) doc) m = f m := fun m hm => by
          by_cases hwx : w = .s x
          · rw [if_pos hwx, stay_all dk.nd hg]
          · rw [if_neg hwx]
            exact stay dk.nd hg (if_neg fun z => hm z.symm)
        have hset' : ∃ g, ∀ n, (if w = .s x then resK f doc else resK (updK f (num q.1) (("select" : Str), .s x)) doc) n = resK g doc n := by
          by_cases hwx : w = .s x
          · exact ⟨f, fun n => by rw [if_pos hwx]⟩
          · exact ⟨_, fun n => by rw [if_neg hwx]⟩
        obtain ⟨n', tag, ats, kids, hqe⟩ := elem_of hel
        have hlt := way_sub (n := num q.1) (n' := n') (tag := tag) (ats := ats) (kids := kids) dk (by rw [elem_pair dk hqm, ← hqe]; exact List.mem_append_right _ List.mem_cons_self)
        have hlt2 : (numsL kids).length < 900 := by
          have := wayL_sub doc (num q.1) (.el n' tag ats kids) (by rw [elem_pair dk hqm, ← hqe]; exact List.mem_append_right _ List.mem_cons_self)
          have h3 : (numsL kids).length < (numsL doc).length := this.2
          omega
        obtain ⟨i, M2, el1, el2, el3, el4⟩ := lfree_eq (n := n') (tag := tag) (ats := ats) (M := M1) hlt.1 hlt2
        rw [← hqe] at el1 el2
        have hin := inD_r (x := x) (b := false) (tb := (0, φ_Controls___contains__) :: []) el2
        rw [decide_eq_true hxf, bn3] at hin
        have es := shut_eq (a := q.1) (M := M1) hp2
        rw [hnd'] at es
        have hR1 := hst.hR
        obtain ⟨κ1, kvs1, hC1, _⟩ := hst.hC
        have hsh1 := shown_eq hst (num q.1)
        rw [hf'n] at hsh1
        have hkd : ∀ M : Mem, boD eqD (oD (kd q.1)) (.str "select") M = some (.bl true, M) := fun M => by rw [o_eqS, decide_eq_true hk]
        have hLt : ((allL doc []).map (toldD f)).length ≤ LINE := by rw [List.length_map]; omega
        have hcomp : ∀ z : Option D, compV (fun _ => true) (gNm 14) (tCmp (boD eqD) (eBin ixD (eVar 14) (eC (.int 0))) (eBin ixD (eVar 6) (eC (.int 1)))) (eBin ixD (eVar 14) (eC (.int 1))) [a0, some (.ref 0), a2, some (.ref R), some (.ref P), some (.int k), some (ndD q.1), some (.lst (q.2.map ndD)), some (.str x), some (.lst ((allL doc []).map (toldD f))), some (.int sent.length), some (.lst []), z, x13, none, x15, x16] ((allL doc []).map (toldD f)) M2 = .ok (((allL doc []).filter fun u => num u.1 == num q.1).map fun u => ovD ((f (num u.1)).map (·.2))) M2 := fun z => by
          refine compV_map (chk := fun _ => true) (γ := gNm 14) (M := M2) (e := toldD f) (as := allL doc []) (s := [a0, some (.ref 0), a2, some (.ref R), some (.ref P), some (.int k), some (ndD q.1), some (.lst (q.2.map ndD)), some (.str x), some (.lst ((allL doc []).map (toldD f))), some (.int sent.length), some (.lst []), z, x13, none, x15, x16]) (p := fun u : Nd × List Nd => num u.1 == num q.1) (g := fun u : Nd × List Nd => ovD ((f (num u.1)).map (·.2))) rfl fun u _ => ⟨[a0, some (.ref 0), a2, some (.ref R), some (.ref P), some (.int k), some (ndD q.1), some (.lst (q.2.map ndD)), some (.str x), some (.lst ((allL doc []).map (toldD f))), some (.int sent.length), some (.lst []), z, x13, some (toldD f u), x15, x16], rfl, ?_, fun _ => ?_⟩
          · unfold toldD
            simp only [LD.v_lenO, LD.v_eqQi, LD.v_neQi, LD.q_Ins, LD.q_App, LD.okS_t, LD.v_isLst, LD.lstK_s, LD.v_app, LD.q_Rev, LD.lsK_s, LD.q_Get, LD.getKK_s, LD.v_lsL, LD.v_keyI, LD.v_keyS, Option.isSome_some, Option.isSome_none, Option.getD_some, Option.getD_none, LD.v_eqs, LD.v_nes, LD.v_isiBb, LD.q_C, LD.q_Var, LD.q_Bin, LD.q_Un, LD.q_tOf, LD.q_tCmp, LD.q_tAnd, LD.q_tOr, LD.q_tNot, LD.q_And, LD.q_Or, LD.q_Not, LD.q_If, LD.q_Nil, LD.q_Cons, LD.q_Tup, LD.q_Lst, LD.q_LstM, LD.q_Call, LD.q_Meth, LD.q_Attr, LD.q_Blt, LD.q_Comp, LD.q_iOf, LD.srcK_s, LD.v_truB, LD.v_truL, LD.v_truN, LD.v_srcL, LD.v_neg, LD.q_iRange, LD.q_Next, LD.q_Seq, LD.q_Expr, LD.q_Ret, LD.q_RetN, LD.q_SIf, LD.q_Bk, LD.q_Ct, LD.q_Asg, LD.q_Nm, LD.q_Sub, LD.q_Del, LD.q_Fld, LD.q_Dic, LD.q_For, LD.wipeD, Bool.not_true, Bool.not_false, LD.ifT, LD.le0, LD.le1, LD.le2, LD.le3, LD.le4, LD.le5, LD.le6, LD.cmpK_l, LD.nn_n, LD.nn_i, LD.nn_t, LD.nn_l, LD.nn_r, LD.nn_b, LD.nn_s, LD.nonK_n, LD.okK_o, LD.bind_k, LD.bind_b, LD.bind_e, LD.bindS_k, LD.bindS_e, LD.ofO_s, LD.getV_s, LD.truK_s, LD.blK_b, LD.refK_r, LD.insK_i, LD.lookK_s, LD.lookK_n, LD.refS_r, LD.insS_i, LD.lookS_s, LD.seq_n, LD.seq_r, LD.seq_b, LD.seq_c, LD.seq_e, LD.storeK_s, LD.memK_s, LD.endF_n, LD.endF_r, LD.endF_e, LD.pick_t, LD.pick_f, LD.finL_f, LD.finL_t, LD.v_add, LD.v_sub, LD.v_mulR, LD.v_fdiv, LD.v_mod, LD.v_int, LD.v_lt, LD.v_le, LD.v_gt, LD.v_ge, LD.v_eq, LD.v_ne, LD.v_len, LD.v_tix, LD.v_lix, LD.v_rix, LD.rixK_l, LD.rixK_d, LD.v_isN, LD.v_isnN, LD.v_isNone, LD.v_isNoneN, LD.startD, List.length_cons, List.length_nil, List.map_cons, List.map_nil, List.cons_append, List.nil_append, List.append_nil, List.getElem?_cons_zero, List.getElem?_cons_succ, List.set_cons_zero, List.set_cons_succ, List.replicate_succ, List.replicate_zero, Nat.reduceAdd, Nat.reduceSub, Nat.reduceBEq, Int.reduceLT, Int.reduceNeg, Int.reduceLE, Nat.reduceLeDiff, Nat.reduceLT, List.lookup_cons, List.lookup_nil, beq_self_eq_true, Option.map_some, Option.map_none, at0, nd1]
          · unfold toldD
            simp only [LD.v_lenO, LD.v_eqQi, LD.v_neQi, LD.q_Ins, LD.q_App, LD.okS_t, LD.v_isLst, LD.lstK_s, LD.v_app, LD.q_Rev, LD.lsK_s, LD.q_Get, LD.getKK_s, LD.v_lsL, LD.v_keyI, LD.v_keyS, Option.isSome_some, Option.isSome_none, Option.getD_some, Option.getD_none, LD.v_eqs, LD.v_nes, LD.v_isiBb, LD.q_C, LD.q_Var, LD.q_Bin, LD.q_Un, LD.q_tOf, LD.q_tCmp, LD.q_tAnd, LD.q_tOr, LD.q_tNot, LD.q_And, LD.q_Or, LD.q_Not, LD.q_If, LD.q_Nil, LD.q_Cons, LD.q_Tup, LD.q_Lst, LD.q_LstM, LD.q_Call, LD.q_Meth, LD.q_Attr, LD.q_Blt, LD.q_Comp, LD.q_iOf, LD.srcK_s, LD.v_truB, LD.v_truL, LD.v_truN, LD.v_srcL, LD.v_neg, LD.q_iRange, LD.q_Next, LD.q_Seq, LD.q_Expr, LD.q_Ret, LD.q_RetN, LD.q_SIf, LD.q_Bk, LD.q_Ct, LD.q_Asg, LD.q_Nm, LD.q_Sub, LD.q_Del, LD.q_Fld, LD.q_Dic, LD.q_For, LD.wipeD, Bool.not_true, Bool.not_false, LD.ifT, LD.le0, LD.le1, LD.le2, LD.le3, LD.le4, LD.le5, LD.le6, LD.cmpK_l, LD.nn_n, LD.nn_i, LD.nn_t, LD.nn_l, LD.nn_r, LD.nn_b, LD.nn_s, LD.nonK_n, LD.okK_o, LD.bind_k, LD.bind_b, LD.bind_e, LD.bindS_k, LD.bindS_e, LD.ofO_s, LD.getV_s, LD.truK_s, LD.blK_b, LD.refK_r, LD.insK_i, LD.lookK_s, LD.lookK_n, LD.refS_r, LD.insS_i, LD.lookS_s, LD.seq_n, LD.seq_r, LD.seq_b, LD.seq_c, LD.seq_e, LD.storeK_s, LD.memK_s, LD.endF_n, LD.endF_r, LD.endF_e, LD.pick_t, LD.pick_f, LD.finL_f, LD.finL_t, LD.v_add, LD.v_sub, LD.v_mulR, LD.v_fdiv, LD.v_mod, LD.v_int, LD.v_lt, LD.v_le, LD.v_gt, LD.v_ge, LD.v_eq, LD.v_ne, LD.v_len, LD.v_tix, LD.v_lix, LD.v_rix, LD.rixK_l, LD.rixK_d, LD.v_isN, LD.v_isnN, LD.v_isNone, LD.v_isNoneN, LD.startD, List.length_cons, List.length_nil, List.map_cons, List.map_nil, List.cons_append, List.nil_append, List.append_nil, List.getElem?_cons_zero, List.getElem?_cons_succ, List.set_cons_zero, List.set_cons_succ, List.replicate_succ, List.replicate_zero, Nat.reduceAdd, Nat.reduceSub, Nat.reduceBEq, Int.reduceLT, Int.reduceNeg, Int.reduceLE, Nat.reduceLeDiff, Nat.reduceLT, List.lookup_cons, List.lookup_nil, beq_self_eq_true, Option.map_some, Option.map_none, at1]
        obtain ⟨rest, hrest⟩ : ∃ rest, ((allL doc []).filter fun u => num u.1 == num q.1).map (fun u => ovD ((f (num u.1)).map (·.2))) = vlD w :: rest := by
          have hmem : q ∈ (allL doc []).filter fun u => num u.1 == num q.1 := List.mem_filter.mpr ⟨hqm, beq_self_eq_true _⟩
          cases hL : (allL doc []).filter fun u => num u.1 == num q.1 with
          | nil => rw [hL] at hmem; cases hmem
          | cons u us =>
            have hu : u ∈ (allL doc []).filter fun u => num u.1 == num q.1 := by rw [hL]; exact List.mem_cons_self
            have hnu : num u.1 = num q.1 := beq_iff_eq.mp (List.mem_filter.mp hu).2
            refine ⟨us.map fun u => ovD ((f (num u.1)).map (·.2)), ?_⟩
            rw [List.map_cons, hnu, hfn] <;> rfl
        have hcomp' := fun z => (hcomp z).trans (congrArg (fun l => LD.R.ok l M2) hrest)
        have hlb : ∀ M : Mem, φ__law_bound [ndD q.1] M = .ok (ovD (bndE (atsOf q.1) "select")) M := fun M => by
          rw [hqe] at hk ⊢
          exact lbound_eq hk
        have st2 := hst.ext el4
        have hsrcT : ∀ M : Mem, srcOf M (.lst ((allL doc []).map (toldD f))) = some ⟨(allL doc []).map (toldD f), fun _ => true⟩ := fun _ => rfl
        have ov1 : ovD (some aft) = vlD aft := rfl
        have haft : ∀ v, bndE (atsOf q.1) "select" = some v → aft = v := fun v hv => by
          show (match bndE (atsOf q.1) "select" with | some v => v | none => .s x) = v
          rw [hv]
        have haft0 : bndE (atsOf q.1) "select" = none → vlD aft = .str x := fun hv => by
          show vlD (match bndE (atsOf q.1) "select" with | some v => v | none => .s x) = _
          rw [hv] <;> rfl
        have on1 : ovD none = .non := rfl
        have ov2 : ∀ v : Vl, ovD (some v) = vlD v := fun _ => rfl
        by_cases hwx : w = .s x
        · -- it showed this value
          rw [if_pos hwx] at hst st2 hf'n
          simp only [if_pos hwx] at hf'm hset'
          have hn2 := ne_v w (.s x) M2
          rw [decide_eq_true hwx] at hn2
          have hn2 : boD (notB eqD) (vlD w) (.str x) M2 = some (.bl (!true), M2) := hn2
          rw [if_pos hwx] at st2
          have st2' : St M2 R C S doc prev (resK f doc) (sent ++ []) := by rw [List.append_nil]; exact st2
          obtain ⟨y15, y16, et⟩ := tail_ok (f := f) (Q := allL doc []) (a0 := a0) (a1 := some (.ref 0)) (a2 := a2) (a4 := some (.ref P)) (a5 := some (.int k)) (a7 := some (.lst (q.2.map ndD))) (a8 := some (.str x)) (a13 := some (vlD w)) (a14 := x14) (x15 := x15) (x16 := x16) st2' (nilnil M2) (eqnil M2) hf'm (fun _ => stay_all dk.nd hg _)
          rw [hf'n] at et
          refine ⟨M2, resK f doc, sent, some (.lst []), some (vlD aft), some (vlD w), x14, y15, y16, ?_, l.step (kp.trans (Keep.ext el4)) st2 hset', by omega⟩
          refine (seqN (s1 := [a0, some (.ref 0), a2, some (.ref R), some (.ref P), some (.int k), some (ndD q.1), some (.lst (q.2.map ndD)), some (.str x), some (.lst ((allL doc []).map (toldD f))), some (.int sent.length), some (.lst []), some (ovD (some aft)), x13, x14, x15, x16]) (M1 := M1) ?_).trans ?_
          · unfold a12S
            simp only [LD.v_lenO, LD.v_eqQi, LD.v_neQi, LD.q_Ins, LD.q_App, LD.okS_t, LD.v_isLst, LD.lstK_s, LD.v_app, LD.q_Rev, LD.lsK_s, LD.q_Get, LD.getKK_s, LD.v_lsL, LD.v_keyI, LD.v_keyS, Option.isSome_some, Option.isSome_none, Option.getD_some, Option.getD_none, LD.v_eqs, LD.v_nes, LD.v_isiBb, LD.q_C, LD.q_Var, LD.q_Bin, LD.q_Un, LD.q_tOf, LD.q_tCmp, LD.q_tAnd, LD.q_tOr, LD.q_tNot, LD.q_And, LD.q_Or, LD.q_Not, LD.q_If, LD.q_Nil, LD.q_Cons, LD.q_Tup, LD.q_Lst, LD.q_LstM, LD.q_Call, LD.q_Meth, LD.q_Attr, LD.q_Blt, LD.q_Comp, LD.q_iOf, LD.srcK_s, LD.v_truB, LD.v_truL, LD.v_truN, LD.v_srcL, LD.v_neg, LD.q_iRange, LD.q_Next, LD.q_Seq, LD.q_Expr, LD.q_Ret, LD.q_RetN, LD.q_SIf, LD.q_Bk, LD.q_Ct, LD.q_Asg, LD.q_Nm, LD.q_Sub, LD.q_Del, LD.q_Fld, LD.q_Dic, LD.q_For, LD.wipeD, Bool.not_true, Bool.not_false, LD.ifT, LD.le0, LD.le1, LD.le2, LD.le3, LD.le4, LD.le5, LD.le6, LD.cmpK_l, LD.nn_n, LD.nn_i, LD.nn_t, LD.nn_l, LD.nn_r, LD.nn_b, LD.nn_s, LD.nonK_n, LD.okK_o, LD.bind_k, LD.bind_b, LD.bind_e, LD.bindS_k, LD.bindS_e, LD.ofO_s, LD.getV_s, LD.truK_s, LD.blK_b, LD.refK_r, LD.insK_i, LD.lookK_s, LD.lookK_n, LD.refS_r, LD.insS_i, LD.lookS_s, LD.seq_n, LD.seq_r, LD.seq_b, LD.seq_c, LD.seq_e, LD.storeK_s, LD.memK_s, LD.endF_n, LD.endF_r, LD.endF_e, LD.pick_t, LD.pick_f, LD.finL_f, LD.finL_t, LD.v_add, LD.v_sub, LD.v_mulR, LD.v_fdiv, LD.v_mod, LD.v_int, LD.v_lt, LD.v_le, LD.v_gt, LD.v_ge, LD.v_eq, LD.v_ne, LD.v_len, LD.v_tix, LD.v_lix, LD.v_rix, LD.rixK_l, LD.rixK_d, LD.v_isN, LD.v_isnN, LD.v_isNone, LD.v_isNoneN, LD.startD, List.length_cons, List.length_nil, List.map_cons, List.map_nil, List.cons_append, List.nil_append, List.append_nil, List.getElem?_cons_zero, List.getElem?_cons_succ, List.set_cons_zero, List.set_cons_succ, List.replicate_succ, List.replicate_zero, Nat.reduceAdd, Nat.reduceSub, Nat.reduceBEq, Int.reduceLT, Int.reduceNeg, Int.reduceLE, Nat.reduceLeDiff, Nat.reduceLT, List.lookup_cons, List.lookup_nil, beq_self_eq_true, Option.map_some, Option.map_none, hR1, hC1, nd1, hsh1]
          refine (seqN (s1 := [a0, some (.ref 0), a2, some (.ref R), some (.ref P), some (.int k), some (ndD q.1), some (.lst (q.2.map ndD)), some (.str x), some (.lst ((allL doc []).map (toldD f))), some (.int sent.length), some (.lst []), some (vlD aft), some (vlD w), x14, x15, x16]) (M1 := M2) ?_).trans et
          unfold ifS
          cases hbd : bndE (atsOf q.1) "select" with
          | none =>
            rw [haft0 hbd]
            simp only [LD.v_lenO, LD.v_eqQi, LD.v_neQi, LD.q_Ins, LD.q_App, LD.okS_t, LD.v_isLst, LD.lstK_s, LD.v_app, LD.q_Rev, LD.lsK_s, LD.q_Get, LD.getKK_s, LD.v_lsL, LD.v_keyI, LD.v_keyS, Option.isSome_some, Option.isSome_none, Option.getD_some, Option.getD_none, LD.v_eqs, LD.v_nes, LD.v_isiBb, LD.q_C, LD.q_Var, LD.q_Bin, LD.q_Un, LD.q_tOf, LD.q_tCmp, LD.q_tAnd, LD.q_tOr, LD.q_tNot, LD.q_And, LD.q_Or, LD.q_Not, LD.q_If, LD.q_Nil, LD.q_Cons, LD.q_Tup, LD.q_Lst, LD.q_LstM, LD.q_Call, LD.q_Meth, LD.q_Attr, LD.q_Blt, LD.q_Comp, LD.q_iOf, LD.srcK_s, LD.v_truB, LD.v_truL, LD.v_truN, LD.v_srcL, LD.v_neg, LD.q_iRange, LD.q_Next, LD.q_Seq, LD.q_Expr, LD.q_Ret, LD.q_RetN, LD.q_SIf, LD.q_Bk, LD.q_Ct, LD.q_Asg, LD.q_Nm, LD.q_Sub, LD.q_Del, LD.q_Fld, LD.q_Dic, LD.q_For, LD.wipeD, Bool.not_true, Bool.not_false, LD.ifT, LD.le0, LD.le1, LD.le2, LD.le3, LD.le4, LD.le5, LD.le6, LD.cmpK_l, LD.nn_n, LD.nn_i, LD.nn_t, LD.nn_l, LD.nn_r, LD.nn_b, LD.nn_s, LD.nonK_n, LD.okK_o, LD.bind_k, LD.bind_b, LD.bind_e, LD.bindS_k, LD.bindS_e, LD.ofO_s, LD.getV_s, LD.truK_s, LD.blK_b, LD.refK_r, LD.insK_i, LD.lookK_s, LD.lookK_n, LD.refS_r, LD.insS_i, LD.lookS_s, LD.seq_n, LD.seq_r, LD.seq_b, LD.seq_c, LD.seq_e, LD.storeK_s, LD.memK_s, LD.endF_n, LD.endF_r, LD.endF_e, LD.pick_t, LD.pick_f, LD.finL_f, LD.finL_t, LD.v_add, LD.v_sub, LD.v_mulR, LD.v_fdiv, LD.v_mod, LD.v_int, LD.v_lt, LD.v_le, LD.v_gt, LD.v_ge, LD.v_eq, LD.v_ne, LD.v_len, LD.v_tix, LD.v_lix, LD.v_rix, LD.rixK_l, LD.rixK_d, LD.v_isN, LD.v_isnN, LD.v_isNone, LD.v_isNoneN, LD.startD, List.length_cons, List.length_nil, List.map_cons, List.map_nil, List.cons_append, List.nil_append, List.append_nil, List.getElem?_cons_zero, List.getElem?_cons_succ, List.set_cons_zero, List.set_cons_succ, List.replicate_succ, List.replicate_zero, Nat.reduceAdd, Nat.reduceSub, Nat.reduceBEq, Int.reduceLT, Int.reduceNeg, Int.reduceLE, Nat.reduceLeDiff, Nat.reduceLT, List.lookup_cons, List.lookup_nil, beq_self_eq_true, Option.map_some, Option.map_none, lkind_eq, hkd, es, el1, hin, hsrcT, cmpK_l hLt, hcomp', at0, hlb, hbd, on1, hn2]
          | some v =>
            rw [haft v hbd]
            simp only [LD.v_lenO, LD.v_eqQi, LD.v_neQi, LD.q_Ins, LD.q_App, LD.okS_t, LD.v_isLst, LD.lstK_s, LD.v_app, LD.q_Rev, LD.lsK_s, LD.q_Get, LD.getKK_s, LD.v_lsL, LD.v_keyI, LD.v_keyS, Option.isSome_some, Option.isSome_none, Option.getD_some, Option.getD_none, LD.v_eqs, LD.v_nes, LD.v_isiBb, LD.q_C, LD.q_Var, LD.q_Bin, LD.q_Un, LD.q_tOf, LD.q_tCmp, LD.q_tAnd, LD.q_tOr, LD.q_tNot, LD.q_And, LD.q_Or, LD.q_Not, LD.q_If, LD.q_Nil, LD.q_Cons, LD.q_Tup, LD.q_Lst, LD.q_LstM, LD.q_Call, LD.q_Meth, LD.q_Attr, LD.q_Blt, LD.q_Comp, LD.q_iOf, LD.srcK_s, LD.v_truB, LD.v_truL, LD.v_truN, LD.v_srcL, LD.v_neg, LD.q_iRange, LD.q_Next, LD.q_Seq, LD.q_Expr, LD.q_Ret, LD.q_RetN, LD.q_SIf, LD.q_Bk, LD.q_Ct, LD.q_Asg, LD.q_Nm, LD.q_Sub, LD.q_Del, LD.q_Fld, LD.q_Dic, LD.q_For, LD.wipeD, Bool.not_true, Bool.not_false, LD.ifT, LD.le0, LD.le1, LD.le2, LD.le3, LD.le4, LD.le5, LD.le6, LD.cmpK_l, LD.nn_n, LD.nn_i, LD.nn_t, LD.nn_l, LD.nn_r, LD.nn_b, LD.nn_s, LD.nonK_n, LD.okK_o, LD.bind_k, LD.bind_b, LD.bind_e, LD.bindS_k, LD.bindS_e, LD.ofO_s, LD.getV_s, LD.truK_s, LD.blK_b, LD.refK_r, LD.insK_i, LD.lookK_s, LD.lookK_n, LD.refS_r, LD.insS_i, LD.lookS_s, LD.seq_n, LD.seq_r, LD.seq_b, LD.seq_c, LD.seq_e, LD.storeK_s, LD.memK_s, LD.endF_n, LD.endF_r, LD.endF_e, LD.pick_t, LD.pick_f, LD.finL_f, LD.finL_t, LD.v_add, LD.v_sub, LD.v_mulR, LD.v_fdiv, LD.v_mod, LD.v_int, LD.v_lt, LD.v_le, LD.v_gt, LD.v_ge, LD.v_eq, LD.v_ne, LD.v_len, LD.v_tix, LD.v_lix, LD.v_rix, LD.rixK_l, LD.rixK_d, LD.v_isN, LD.v_isnN, LD.v_isNone, LD.v_isNoneN, LD.startD, List.length_cons, List.length_nil, List.map_cons, List.map_nil, List.cons_append, List.nil_append, List.append_nil, List.getElem?_cons_zero, List.getElem?_cons_succ, List.set_cons_zero, List.set_cons_succ, List.replicate_succ, List.replicate_zero, Nat.reduceAdd, Nat.reduceSub, Nat.reduceBEq, Int.reduceLT, Int.reduceNeg, Int.reduceLE, Nat.reduceLeDiff, Nat.reduceLT, List.lookup_cons, List.lookup_nil, beq_self_eq_true, Option.map_some, Option.map_none, lkind_eq, hkd, es, el1, hin, hsrcT, cmpK_l hLt, hcomp', at0, hlb, hbd, ov2, nn_v, hn2]
        · -- it showed another one
          rw [if_neg hwx] at hst st2 hf'n
          simp only [if_neg hwx] at hf'm hset'
          rw [if_neg hwx] at st2
          have hn2 := ne_v w (.s x) M2
          rw [decide_eq_false hwx] at hn2
          have hn2 : boD (notB eqD) (vlD w) (.str x) M2 = some (.bl (!false), M2) := hn2
          have st3 := (st2.ext (M' := M2 ++ [.dic []]) fun j hj => app_old hj).ext (M' := M2 ++ [.dic []] ++ [.dic []]) fun j hj => app_old hj
          have l1 : (M2 ++ [DO.dic []]).length = M2.length + 1 := by rw [List.length_append] <;> rfl
          have d1 : (M2 ++ [DO.dic []] ++ [DO.dic []])[M2.length]? = some (.dic []) := by rw [app_old (by rw [l1]; omega)]; exact app_at
          have d2 : (M2 ++ [DO.dic []] ++ [DO.dic []])[M2.length + 1]? = some (.dic []) := by rw [← l1]; exact app_at
          have hdue := evs_same (n := num q.1) d1 d2
          obtain ⟨y15, y16, et⟩ := tail_ok (f := f) (Q := allL doc []) (a0 := a0) (a1 := some (.ref 0)) (a2 := a2) (a4 := some (.ref P)) (a5 := some (.int k)) (a7 := some (.lst (q.2.map ndD))) (a8 := some (.str x)) (a13 := some (vlD w)) (a14 := x14) (x15 := x15) (x16 := x16) st3 hdue (eqnil2 _ _ _) hf'm (fun z => by cases z)
          rw [hf'n] at et
          refine ⟨M2 ++ [.dic []] ++ [.dic []], resK (updK f (num q.1) (("select" : Str), .s x)) doc, sent ++ [ev0 (num q.1) "input", ev0 (num q.1) "change"], some (.lst [.tup [.int (num q.1), .str "input", .ref M2.length], .tup [.int (num q.1), .str "change", .ref (M2.length + 1)]]), some (vlD aft), some (vlD w), x14, y15, y16, ?_, l.step (kp.trans ((Keep.ext el4).trans ((Keep.ext fun j hj => app_old hj).trans (Keep.ext fun j hj => app_old hj)))) st3 hset', by rw [List.length_append]; show _ + 2 ≤ _; omega⟩
          refine (seqN (s1 := [a0, some (.ref 0), a2, some (.ref R), some (.ref P), some (.int k), some (ndD q.1), some (.lst (q.2.map ndD)), some (.str x), some (.lst ((allL doc []).map (toldD f))), some (.int sent.length), some (.lst []), some (ovD (some aft)), x13, x14, x15, x16]) (M1 := M1) ?_).trans ?_
          · unfold a12S
            simp only [LD.v_lenO, LD.v_eqQi, LD.v_neQi, LD.q_Ins, LD.q_App, LD.okS_t, LD.v_isLst, LD.lstK_s, LD.v_app, LD.q_Rev, LD.lsK_s, LD.q_Get, LD.getKK_s, LD.v_lsL, LD.v_keyI, LD.v_keyS, Option.isSome_some, Option.isSome_none, Option.getD_some, Option.getD_none, LD.v_eqs, LD.v_nes, LD.v_isiBb, LD.q_C, LD.q_Var, LD.q_Bin, LD.q_Un, LD.q_tOf, LD.q_tCmp, LD.q_tAnd, LD.q_tOr, LD.q_tNot, LD.q_And, LD.q_Or, LD.q_Not, LD.q_If, LD.q_Nil, LD.q_Cons, LD.q_Tup, LD.q_Lst, LD.q_LstM, LD.q_Call, LD.q_Meth, LD.q_Attr, LD.q_Blt, LD.q_Comp, LD.q_iOf, LD.srcK_s, LD.v_truB, LD.v_truL, LD.v_truN, LD.v_srcL, LD.v_neg, LD.q_iRange, LD.q_Next, LD.q_Seq, LD.q_Expr, LD.q_Ret, LD.q_RetN, LD.q_SIf, LD.q_Bk, LD.q_Ct, LD.q_Asg, LD.q_Nm, LD.q_Sub, LD.q_Del, LD.q_Fld, LD.q_Dic, LD.q_For, LD.wipeD, Bool.not_true, Bool.not_false, LD.ifT, LD.le0, LD.le1, LD.le2, LD.le3, LD.le4, LD.le5, LD.le6, LD.cmpK_l, LD.nn_n, LD.nn_i, LD.nn_t, LD.nn_l, LD.nn_r, LD.nn_b, LD.nn_s, LD.nonK_n, LD.okK_o, LD.bind_k, LD.bind_b, LD.bind_e, LD.bindS_k, LD.bindS_e, LD.ofO_s, LD.getV_s, LD.truK_s, LD.blK_b, LD.refK_r, LD.insK_i, LD.lookK_s, LD.lookK_n, LD.refS_r, LD.insS_i, LD.lookS_s, LD.seq_n, LD.seq_r, LD.seq_b, LD.seq_c, LD.seq_e, LD.storeK_s, LD.memK_s, LD.endF_n, LD.endF_r, LD.endF_e, LD.pick_t, LD.pick_f, LD.finL_f, LD.finL_t, LD.v_add, LD.v_sub, LD.v_mulR, LD.v_fdiv, LD.v_mod, LD.v_int, LD.v_lt, LD.v_le, LD.v_gt, LD.v_ge, LD.v_eq, LD.v_ne, LD.v_len, LD.v_tix, LD.v_lix, LD.v_rix, LD.rixK_l, LD.rixK_d, LD.v_isN, LD.v_isnN, LD.v_isNone, LD.v_isNoneN, LD.startD, List.length_cons, List.length_nil, List.map_cons, List.map_nil, List.cons_append, List.nil_append, List.append_nil, List.getElem?_cons_zero, List.getElem?_cons_succ, List.set_cons_zero, List.set_cons_succ, List.replicate_succ, List.replicate_zero, Nat.reduceAdd, Nat.reduceSub, Nat.reduceBEq, Int.reduceLT, Int.reduceNeg, Int.reduceLE, Nat.reduceLeDiff, Nat.reduceLT, List.lookup_cons, List.lookup_nil, beq_self_eq_true, Option.map_some, Option.map_none, hR1, hC1, nd1, hsh1]
          refine (seqN (s1 := [a0, some (.ref 0), a2, some (.ref R), some (.ref P), some (.int k), some (ndD q.1), some (.lst (q.2.map ndD)), some (.str x), some (.lst ((allL doc []).map (toldD f))), some (.int sent.length), some (.lst [.tup [.int (num q.1), .str "input", .ref M2.length], .tup [.int (num q.1), .str "change", .ref (M2.length + 1)]]), some (vlD aft), some (vlD w), x14, x15, x16]) (M1 := M2 ++ [DO.dic []] ++ [DO.dic []]) ?_).trans et
          unfold ifS
          cases hbd : bndE (atsOf q.1) "select" with
          | none =>
            rw [haft0 hbd]
            simp only [LD.v_lenO, LD.v_eqQi, LD.v_neQi, LD.q_Ins, LD.q_App, LD.okS_t, LD.v_isLst, LD.lstK_s, LD.v_app, LD.q_Rev, LD.lsK_s, LD.q_Get, LD.getKK_s, LD.v_lsL, LD.v_keyI, LD.v_keyS, Option.isSome_some, Option.isSome_none, Option.getD_some, Option.getD_none, LD.v_eqs, LD.v_nes, LD.v_isiBb, LD.q_C, LD.q_Var, LD.q_Bin, LD.q_Un, LD.q_tOf, LD.q_tCmp, LD.q_tAnd, LD.q_tOr, LD.q_tNot, LD.q_And, LD.q_Or, LD.q_Not, LD.q_If, LD.q_Nil, LD.q_Cons, LD.q_Tup, LD.q_Lst, LD.q_LstM, LD.q_Call, LD.q_Meth, LD.q_Attr, LD.q_Blt, LD.q_Comp, LD.q_iOf, LD.srcK_s, LD.v_truB, LD.v_truL, LD.v_truN, LD.v_srcL, LD.v_neg, LD.q_iRange, LD.q_Next, LD.q_Seq, LD.q_Expr, LD.q_Ret, LD.q_RetN, LD.q_SIf, LD.q_Bk, LD.q_Ct, LD.q_Asg, LD.q_Nm, LD.q_Sub, LD.q_Del, LD.q_Fld, LD.q_Dic, LD.q_For, LD.wipeD, Bool.not_true, Bool.not_false, LD.ifT, LD.le0, LD.le1, LD.le2, LD.le3, LD.le4, LD.le5, LD.le6, LD.cmpK_l, LD.nn_n, LD.nn_i, LD.nn_t, LD.nn_l, LD.nn_r, LD.nn_b, LD.nn_s, LD.nonK_n, LD.okK_o, LD.bind_k, LD.bind_b, LD.bind_e, LD.bindS_k, LD.bindS_e, LD.ofO_s, LD.getV_s, LD.truK_s, LD.blK_b, LD.refK_r, LD.insK_i, LD.lookK_s, LD.lookK_n, LD.refS_r, LD.insS_i, LD.lookS_s, LD.seq_n, LD.seq_r, LD.seq_b, LD.seq_c, LD.seq_e, LD.storeK_s, LD.memK_s, LD.endF_n, LD.endF_r, LD.endF_e, LD.pick_t, LD.pick_f, LD.finL_f, LD.finL_t, LD.v_add, LD.v_sub, LD.v_mulR, LD.v_fdiv, LD.v_mod, LD.v_int, LD.v_lt, LD.v_le, LD.v_gt, LD.v_ge, LD.v_eq, LD.v_ne, LD.v_len, LD.v_tix, LD.v_lix, LD.v_rix, LD.rixK_l, LD.rixK_d, LD.v_isN, LD.v_isnN, LD.v_isNone, LD.v_isNoneN, LD.startD, List.length_cons, List.length_nil, List.map_cons, List.map_nil, List.cons_append, List.nil_append, List.append_nil, List.getElem?_cons_zero, List.getElem?_cons_succ, List.set_cons_zero, List.set_cons_succ, List.replicate_succ, List.replicate_zero, Nat.reduceAdd, Nat.reduceSub, Nat.reduceBEq, Int.reduceLT, Int.reduceNeg, Int.reduceLE, Nat.reduceLeDiff, Nat.reduceLT, List.lookup_cons, List.lookup_nil, beq_self_eq_true, Option.map_some, Option.map_none, lkind_eq, hkd, es, el1, hin, hsrcT, cmpK_l hLt, hcomp', at0, hlb, hbd, on1, hn2, nd1, l1]
          | some v =>
            rw [haft v hbd]
            simp only [LD.v_lenO, LD.v_eqQi, LD.v_neQi, LD.q_Ins, LD.q_App, LD.okS_t, LD.v_isLst, LD.lstK_s, LD.v_app, LD.q_Rev, LD.lsK_s, LD.q_Get, LD.getKK_s, LD.v_lsL, LD.v_keyI, LD.v_keyS, Option.isSome_some, Option.isSome_none, Option.getD_some, Option.getD_none, LD.v_eqs, LD.v_nes, LD.v_isiBb, LD.q_C, LD.q_Var, LD.q_Bin, LD.q_Un, LD.q_tOf, LD.q_tCmp, LD.q_tAnd, LD.q_tOr, LD.q_tNot, LD.q_And, LD.q_Or, LD.q_Not, LD.q_If, LD.q_Nil, LD.q_Cons, LD.q_Tup, LD.q_Lst, LD.q_LstM, LD.q_Call, LD.q_Meth, LD.q_Attr, LD.q_Blt, LD.q_Comp, LD.q_iOf, LD.srcK_s, LD.v_truB, LD.v_truL, LD.v_truN, LD.v_srcL, LD.v_neg, LD.q_iRange, LD.q_Next, LD.q_Seq, LD.q_Expr, LD.q_Ret, LD.q_RetN, LD.q_SIf, LD.q_Bk, LD.q_Ct, LD.q_Asg, LD.q_Nm, LD.q_Sub, LD.q_Del, LD.q_Fld, LD.q_Dic, LD.q_For, LD.wipeD, Bool.not_true, Bool.not_false, LD.ifT, LD.le0, LD.le1, LD.le2, LD.le3, LD.le4, LD.le5, LD.le6, LD.cmpK_l, LD.nn_n, LD.nn_i, LD.nn_t, LD.nn_l, LD.nn_r, LD.nn_b, LD.nn_s, LD.nonK_n, LD.okK_o, LD.bind_k, LD.bind_b, LD.bind_e, LD.bindS_k, LD.bindS_e, LD.ofO_s, LD.getV_s, LD.truK_s, LD.blK_b, LD.refK_r, LD.insK_i, LD.lookK_s, LD.lookK_n, LD.refS_r, LD.insS_i, LD.lookS_s, LD.seq_n, LD.seq_r, LD.seq_b, LD.seq_c, LD.seq_e, LD.storeK_s, LD.memK_s, LD.endF_n, LD.endF_r, LD.endF_e, LD.pick_t, LD.pick_f, LD.finL_f, LD.finL_t, LD.v_add, LD.v_sub, LD.v_mulR, LD.v_fdiv, LD.v_mod, LD.v_int, LD.v_lt, LD.v_le, LD.v_gt, LD.v_ge, LD.v_eq, LD.v_ne, LD.v_len, LD.v_tix, LD.v_lix, LD.v_rix, LD.rixK_l, LD.rixK_d, LD.v_isN, LD.v_isnN, LD.v_isNone, LD.v_isNoneN, LD.startD, List.length_cons, List.length_nil, List.map_cons, List.map_nil, List.cons_append, List.nil_append, List.append_nil, List.getElem?_cons_zero, List.getElem?_cons_succ, List.set_cons_zero, List.set_cons_succ, List.replicate_succ, List.replicate_zero, Nat.reduceAdd, Nat.reduceSub, Nat.reduceBEq, Int.reduceLT, Int.reduceNeg, Int.reduceLE, Nat.reduceLeDiff, Nat.reduceLT, List.lookup_cons, List.lookup_nil, beq_self_eq_true, Option.map_some, Option.map_none, lkind_eq, hkd, es, el1, hin, hsrcT, cmpK_l hLt, hcomp', at0, hlb, hbd, ov2, nn_v, hn2, nd1, l1]
      · cases ha
    · -- nothing is set
      have hR1 := hst.hR
      obtain ⟨κ1, kvs1, hC1, _⟩ := hst.hC
      have hsh1 := shown_eq hst (num q.1)
      have key2 : ∃ M2, (∀ j, j < M1.length → M2[j]? = M1[j]?) ∧ ifS [a0, some (.ref 0), a2, some (.ref R), some (.ref P), some (.int k), some (ndD q.1), some (.lst (q.2.map ndD)), some (.str x), some (.lst ((allL doc []).map (toldD f))), some (.int sent.length), some (.lst []), some (ovD ((f (num q.1)).map (·.2))), x13, x14, x15, x16] M1 = .nx [a0, some (.ref 0), a2, some (.ref R), some (.ref P), some (.int k), some (ndD q.1), some (.lst (q.2.map ndD)), some (.str x), some (.lst ((allL doc []).map (toldD f))), some (.int sent.length), some (.lst []), some (ovD ((f (num q.1)).map (·.2))), x13, x14, x15, x16] M2 := by
        by_cases hk : kd q.1 = some ("select" : Str)
        · have hkd : ∀ M : Mem, boD eqD (oD (kd q.1)) (.str "select") M = some (.bl true, M) := fun M => by rw [o_eqS, decide_eq_true hk]
          have hel : isEl q.1 = true := by
            cases hq1 : q.1 with
            | txt n y => rw [hq1] at hk; cases hk
            | el n tag ats kids => rfl
          have es := shut_eq (a := q.1) (M := M1) hp2
          cases hnd : (q.2 ++ [q.1]).any dis with
          | true =>
            rw [hnd] at es
            refine ⟨M1, fun _ _ => rfl, ?_⟩
            unfold ifS
            simp only [LD.v_lenO, LD.v_eqQi, LD.v_neQi, LD.q_Ins, LD.q_App, LD.okS_t, LD.v_isLst, LD.lstK_s, LD.v_app, LD.q_Rev, LD.lsK_s, LD.q_Get, LD.getKK_s, LD.v_lsL, LD.v_keyI, LD.v_keyS, Option.isSome_some, Option.isSome_none, Option.getD_some, Option.getD_none, LD.v_eqs, LD.v_nes, LD.v_isiBb, LD.q_C, LD.q_Var, LD.q_Bin, LD.q_Un, LD.q_tOf, LD.q_tCmp, LD.q_tAnd, LD.q_tOr, LD.q_tNot, LD.q_And, LD.q_Or, LD.q_Not, LD.q_If, LD.q_Nil, LD.q_Cons, LD.q_Tup, LD.q_Lst, LD.q_LstM, LD.q_Call, LD.q_Meth, LD.q_Attr, LD.q_Blt, LD.q_Comp, LD.q_iOf, LD.srcK_s, LD.v_truB, LD.v_truL, LD.v_truN, LD.v_srcL, LD.v_neg, LD.q_iRange, LD.q_Next, LD.q_Seq, LD.q_Expr, LD.q_Ret, LD.q_RetN, LD.q_SIf, LD.q_Bk, LD.q_Ct, LD.q_Asg, LD.q_Nm, LD.q_Sub, LD.q_Del, LD.q_Fld, LD.q_Dic, LD.q_For, LD.wipeD, Bool.not_true, Bool.not_false, LD.ifT, LD.le0, LD.le1, LD.le2, LD.le3, LD.le4, LD.le5, LD.le6, LD.cmpK_l, LD.nn_n, LD.nn_i, LD.nn_t, LD.nn_l, LD.nn_r, LD.nn_b, LD.nn_s, LD.nonK_n, LD.okK_o, LD.bind_k, LD.bind_b, LD.bind_e, LD.bindS_k, LD.bindS_e, LD.ofO_s, LD.getV_s, LD.truK_s, LD.blK_b, LD.refK_r, LD.insK_i, LD.lookK_s, LD.lookK_n, LD.refS_r, LD.insS_i, LD.lookS_s, LD.seq_n, LD.seq_r, LD.seq_b, LD.seq_c, LD.seq_e, LD.storeK_s, LD.memK_s, LD.endF_n, LD.endF_r, LD.endF_e, LD.pick_t, LD.pick_f, LD.finL_f, LD.finL_t, LD.v_add, LD.v_sub, LD.v_mulR, LD.v_fdiv, LD.v_mod, LD.v_int, LD.v_lt, LD.v_le, LD.v_gt, LD.v_ge, LD.v_eq, LD.v_ne, LD.v_len, LD.v_tix, LD.v_lix, LD.v_rix, LD.rixK_l, LD.rixK_d, LD.v_isN, LD.v_isnN, LD.v_isNone, LD.v_isNoneN, LD.startD, List.length_cons, List.length_nil, List.map_cons, List.map_nil, List.cons_append, List.nil_append, List.append_nil, List.getElem?_cons_zero, List.getElem?_cons_succ, List.set_cons_zero, List.set_cons_succ, List.replicate_succ, List.replicate_zero, Nat.reduceAdd, Nat.reduceSub, Nat.reduceBEq, Int.reduceLT, Int.reduceNeg, Int.reduceLE, Nat.reduceLeDiff, Nat.reduceLT, List.lookup_cons, List.lookup_nil, beq_self_eq_true, Option.map_some, Option.map_none, lkind_eq, hkd, es]
          | false =>
            rw [hnd] at es
            have hdq : dis q.1 = false := by
              rw [List.any_append, Bool.or_eq_false_iff, List.any_cons, Bool.or_eq_false_iff] at hnd
              exact hnd.2.1
            have hxn := hno q.1 (by rw [elemAt_pair dk hqm, hel, hnd]; rfl) hk
            rw [free_same hdq] at hxn
            obtain ⟨n', tag, ats, kids, hqe⟩ := elem_of hel
            have hlt := way_sub (n := num q.1) (n' := n') (tag := tag) (ats := ats) (kids := kids) dk (by rw [elem_pair dk hqm, ← hqe]; exact List.mem_append_right _ List.mem_cons_self)
            have hlt2 : (numsL kids).length < 900 := by
              have := wayL_sub doc (num q.1) (.el n' tag ats kids) (by rw [elem_pair dk hqm, ← hqe]; exact List.mem_append_right _ List.mem_cons_self)
              have h3 : (numsL kids).length < (numsL doc).length := this.2
              omega
            obtain ⟨i, M2, el1, el2, el3, el4⟩ := lfree_eq (n := n') (tag := tag) (ats := ats) (M := M1) hlt.1 hlt2
            rw [← hqe] at el1 el2
            have hin := inD_r (x := x) (b := false) (tb := (0, φ_Controls___contains__) :: []) el2
            rw [decide_eq_false hxn, bn4] at hin
            refine ⟨M2, el4, ?_⟩
            unfold ifS
            simp only [LD.v_lenO, LD.v_eqQi, LD.v_neQi, LD.q_Ins, LD.q_App, LD.okS_t, LD.v_isLst, LD.lstK_s, LD.v_app, LD.q_Rev, LD.lsK_s, LD.q_Get, LD.getKK_s, LD.v_lsL, LD.v_keyI, LD.v_keyS, Option.isSome_some, Option.isSome_none, Option.getD_some, Option.getD_none, LD.v_eqs, LD.v_nes, LD.v_isiBb, LD.q_C, LD.q_Var, LD.q_Bin, LD.q_Un, LD.q_tOf, LD.q_tCmp, LD.q_tAnd, LD.q_tOr, LD.q_tNot, LD.q_And, LD.q_Or, LD.q_Not, LD.q_If, LD.q_Nil, LD.q_Cons, LD.q_Tup, LD.q_Lst, LD.q_LstM, LD.q_Call, LD.q_Meth, LD.q_Attr, LD.q_Blt, LD.q_Comp, LD.q_iOf, LD.srcK_s, LD.v_truB, LD.v_truL, LD.v_truN, LD.v_srcL, LD.v_neg, LD.q_iRange, LD.q_Next, LD.q_Seq, LD.q_Expr, LD.q_Ret, LD.q_RetN, LD.q_SIf, LD.q_Bk, LD.q_Ct, LD.q_Asg, LD.q_Nm, LD.q_Sub, LD.q_Del, LD.q_Fld, LD.q_Dic, LD.q_For, LD.wipeD, Bool.not_true, Bool.not_false, LD.ifT, LD.le0, LD.le1, LD.le2, LD.le3, LD.le4, LD.le5, LD.le6, LD.cmpK_l, LD.nn_n, LD.nn_i, LD.nn_t, LD.nn_l, LD.nn_r, LD.nn_b, LD.nn_s, LD.nonK_n, LD.okK_o, LD.bind_k, LD.bind_b, LD.bind_e, LD.bindS_k, LD.bindS_e, LD.ofO_s, LD.getV_s, LD.truK_s, LD.blK_b, LD.refK_r, LD.insK_i, LD.lookK_s, LD.lookK_n, LD.refS_r, LD.insS_i, LD.lookS_s, LD.seq_n, LD.seq_r, LD.seq_b, LD.seq_c, LD.seq_e, LD.storeK_s, LD.memK_s, LD.endF_n, LD.endF_r, LD.endF_e, LD.pick_t, LD.pick_f, LD.finL_f, LD.finL_t, LD.v_add, LD.v_sub, LD.v_mulR, LD.v_fdiv, LD.v_mod, LD.v_int, LD.v_lt, LD.v_le, LD.v_gt, LD.v_ge, LD.v_eq, LD.v_ne, LD.v_len, LD.v_tix, LD.v_lix, LD.v_rix, LD.rixK_l, LD.rixK_d, LD.v_isN, LD.v_isnN, LD.v_isNone, LD.v_isNoneN, LD.startD, List.length_cons, List.length_nil, List.map_cons, List.map_nil, List.cons_append, List.nil_append, List.append_nil, List.getElem?_cons_zero, List.getElem?_cons_succ, List.set_cons_zero, List.set_cons_succ, List.replicate_succ, List.replicate_zero, Nat.reduceAdd, Nat.reduceSub, Nat.reduceBEq, Int.reduceLT, Int.reduceNeg, Int.reduceLE, Nat.reduceLeDiff, Nat.reduceLT, List.lookup_cons, List.lookup_nil, beq_self_eq_true, Option.map_some, Option.map_none, lkind_eq, hkd, es, el1, hin]
        · have hkd : ∀ M : Mem, boD eqD (oD (kd q.1)) (.str "select") M = some (.bl false, M) := fun M => by rw [o_eqS, decide_eq_false hk]
          refine ⟨M1, fun _ _ => rfl, ?_⟩
          unfold ifS
          simp only [LD.v_lenO, LD.v_eqQi, LD.v_neQi, LD.q_Ins, LD.q_App, LD.okS_t, LD.v_isLst, LD.lstK_s, LD.v_app, LD.q_Rev, LD.lsK_s, LD.q_Get, LD.getKK_s, LD.v_lsL, LD.v_keyI, LD.v_keyS, Option.isSome_some, Option.isSome_none, Option.getD_some, Option.getD_none, LD.v_eqs, LD.v_nes, LD.v_isiBb, LD.q_C, LD.q_Var, LD.q_Bin, LD.q_Un, LD.q_tOf, LD.q_tCmp, LD.q_tAnd, LD.q_tOr, LD.q_tNot, LD.q_And, LD.q_Or, LD.q_Not, LD.q_If, LD.q_Nil, LD.q_Cons, LD.q_Tup, LD.q_Lst, LD.q_LstM, LD.q_Call, LD.q_Meth, LD.q_Attr, LD.q_Blt, LD.q_Comp, LD.q_iOf, LD.srcK_s, LD.v_truB, LD.v_truL, LD.v_truN, LD.v_srcL, LD.v_neg, LD.q_iRange, LD.q_Next, LD.q_Seq, LD.q_Expr, LD.q_Ret, LD.q_RetN, LD.q_SIf, LD.q_Bk, LD.q_Ct, LD.q_Asg, LD.q_Nm, LD.q_Sub, LD.q_Del, LD.q_Fld, LD.q_Dic, LD.q_For, LD.wipeD, Bool.not_true, Bool.not_false, LD.ifT, LD.le0, LD.le1, LD.le2, LD.le3, LD.le4, LD.le5, LD.le6, LD.cmpK_l, LD.nn_n, LD.nn_i, LD.nn_t, LD.nn_l, LD.nn_r, LD.nn_b, LD.nn_s, LD.nonK_n, LD.okK_o, LD.bind_k, LD.bind_b, LD.bind_e, LD.bindS_k, LD.bindS_e, LD.ofO_s, LD.getV_s, LD.truK_s, LD.blK_b, LD.refK_r, LD.insK_i, LD.lookK_s, LD.lookK_n, LD.refS_r, LD.insS_i, LD.lookS_s, LD.seq_n, LD.seq_r, LD.seq_b, LD.seq_c, LD.seq_e, LD.storeK_s, LD.memK_s, LD.endF_n, LD.endF_r, LD.endF_e, LD.pick_t, LD.pick_f, LD.finL_f, LD.finL_t, LD.v_add, LD.v_sub, LD.v_mulR, LD.v_fdiv, LD.v_mod, LD.v_int, LD.v_lt, LD.v_le, LD.v_gt, LD.v_ge, LD.v_eq, LD.v_ne, LD.v_len, LD.v_tix, LD.v_lix, LD.v_rix, LD.rixK_l, LD.rixK_d, LD.v_isN, LD.v_isnN, LD.v_isNone, LD.v_isNoneN, LD.startD, List.length_cons, List.length_nil, List.map_cons, List.map_nil, List.cons_append, List.nil_append, List.append_nil, List.getElem?_cons_zero, List.getElem?_cons_succ, List.set_cons_zero, List.set_cons_succ, List.replicate_succ, List.replicate_zero, Nat.reduceAdd, Nat.reduceSub, Nat.reduceBEq, Int.reduceLT, Int.reduceNeg, Int.reduceLE, Nat.reduceLeDiff, Nat.reduceLT, List.lookup_cons, List.lookup_nil, beq_self_eq_true, Option.map_some, Option.map_none, lkind_eq, hkd]
      obtain ⟨M2, el4, hif⟩ := key2
      have st2 := hst.ext el4
      have st2' : St M2 R C S doc prev f (sent ++ []) := by rw [List.append_nil]; exact st2
      obtain ⟨y15, y16, et⟩ := tail_ok (f := f) (Q := allL doc []) (a0 := a0) (a1 := some (.ref 0)) (a2 := a2) (a4 := some (.ref P)) (a5 := some (.int k)) (a7 := some (.lst (q.2.map ndD))) (a8 := some (.str x)) (a13 := x13) (a14 := x14) (x15 := x15) (x16 := x16) st2' (nilnil M2) (eqnil M2) (fun _ _ => rfl) (fun _ => rfl)
      refine ⟨M2, f, sent, some (.lst []), some (ovD ((f (num q.1)).map (·.2))), x13, x14, y15, y16, ?_, l.step (kp.trans (Keep.ext el4)) st2 l.set, by omega⟩
      refine (seqN (s1 := [a0, some (.ref 0), a2, some (.ref R), some (.ref P), some (.int k), some (ndD q.1), some (.lst (q.2.map ndD)), some (.str x), some (.lst ((allL doc []).map (toldD f))), some (.int sent.length), some (.lst []), some (ovD ((f (num q.1)).map (·.2))), x13, x14, x15, x16]) (M1 := M1) ?_).trans ?_
      · unfold a12S
        simp only [LD.v_lenO, LD.v_eqQi, LD.v_neQi, LD.q_Ins, LD.q_App, LD.okS_t, LD.v_isLst, LD.lstK_s, LD.v_app, LD.q_Rev, LD.lsK_s, LD.q_Get, LD.getKK_s, LD.v_lsL, LD.v_keyI, LD.v_keyS, Option.isSome_some, Option.isSome_none, Option.getD_some, Option.getD_none, LD.v_eqs, LD.v_nes, LD.v_isiBb, LD.q_C, LD.q_Var, LD.q_Bin, LD.q_Un, LD.q_tOf, LD.q_tCmp, LD.q_tAnd, LD.q_tOr, LD.q_tNot, LD.q_And, LD.q_Or, LD.q_Not, LD.q_If, LD.q_Nil, LD.q_Cons, LD.q_Tup, LD.q_Lst, LD.q_LstM, LD.q_Call, LD.q_Meth, LD.q_Attr, LD.q_Blt, LD.q_Comp, LD.q_iOf, LD.srcK_s, LD.v_truB, LD.v_truL, LD.v_truN, LD.v_srcL, LD.v_neg, LD.q_iRange, LD.q_Next, LD.q_Seq, LD.q_Expr, LD.q_Ret, LD.q_RetN, LD.q_SIf, LD.q_Bk, LD.q_Ct, LD.q_Asg, LD.q_Nm, LD.q_Sub, LD.q_Del, LD.q_Fld, LD.q_Dic, LD.q_For, LD.wipeD, Bool.not_true, Bool.not_false, LD.ifT, LD.le0, LD.le1, LD.le2, LD.le3, LD.le4, LD.le5, LD.le6, LD.cmpK_l, LD.nn_n, LD.nn_i, LD.nn_t, LD.nn_l, LD.nn_r, LD.nn_b, LD.nn_s, LD.nonK_n, LD.okK_o, LD.bind_k, LD.bind_b, LD.bind_e, LD.bindS_k, LD.bindS_e, LD.ofO_s, LD.getV_s, LD.truK_s, LD.blK_b, LD.refK_r, LD.insK_i, LD.lookK_s, LD.lookK_n, LD.refS_r, LD.insS_i, LD.lookS_s, LD.seq_n, LD.seq_r, LD.seq_b, LD.seq_c, LD.seq_e, LD.storeK_s, LD.memK_s, LD.endF_n, LD.endF_r, LD.endF_e, LD.pick_t, LD.pick_f, LD.finL_f, LD.finL_t, LD.v_add, LD.v_sub, LD.v_mulR, LD.v_fdiv, LD.v_mod, LD.v_int, LD.v_lt, LD.v_le, LD.v_gt, LD.v_ge, LD.v_eq, LD.v_ne, LD.v_len, LD.v_tix, LD.v_lix, LD.v_rix, LD.rixK_l, LD.rixK_d, LD.v_isN, LD.v_isnN, LD.v_isNone, LD.v_isNoneN, LD.startD, List.length_cons, List.length_nil, List.map_cons, List.map_nil, List.cons_append, List.nil_append, List.append_nil, List.getElem?_cons_zero, List.getElem?_cons_succ, List.set_cons_zero, List.set_cons_succ, List.replicate_succ, List.replicate_zero, Nat.reduceAdd, Nat.reduceSub, Nat.reduceBEq, Int.reduceLT, Int.reduceNeg, Int.reduceLE, Nat.reduceLeDiff, Nat.reduceLT, List.lookup_cons, List.lookup_nil, beq_self_eq_true, Option.map_some, Option.map_none, hR1, hC1, nd1, hsh1]
      exact (seqN hif).trans et
  obtain ⟨M', f', sent', y11, y12, y13, y14, y15, y16, e, h1, h2⟩ := key
  refine ⟨M', f', sent', some (ndD q.1), some (.lst (q.2.map ndD)), some (.str x), some (.lst ((allL doc []).map (toldD f))), some (.int sent.length), y11, y12, y13, y14, y15, y16, ?_, h1, h2⟩
  rw [hdef]
  exact (head _).trans e
theorem turn_loop {R C S P : Nat} {doc : List Nd} {prev : List Str} {rows : List Int} (dk : DocOk doc) (hdl : (numsL doc).length < 900) (hR60 : rows.length = 60) (hne : 0 < (allL doc []).length) {a0 a2 : Option D} : ∀ (d k : Nat) (M : Mem) (f : Kn) (sent : List D) (x5 x6 x7 x8 x9 x10 x11 x12 x13 x14 x15 x16 : Option D), Ls M R C S P doc prev (allL doc []) rows f sent → sent.length + 2 * d < 80000 →
    ∃ (M' : Mem) (f' : Kn) (sent' : List D) (y5 y6 y7 y8 y9 y10 y11 y12 y13 y14 y15 y16 : Option D), forV (fun _ => true) (gNm 5) β_law_5 ((List.range' k d).map fun i : Nat => D.int (i : Int)) [a0, some (.ref 0), a2, some (.ref R), some (.ref P), x5, x6, x7, x8, x9, x10, x11, x12, x13, x14, x15, x16] M =
      .nx [a0, some (.ref 0), a2, some (.ref R), some (.ref P), y5, y6, y7, y8, y9, y10, y11, y12, y13, y14, y15, y16] M' ∧ St M' R C S doc prev f' sent' ∧ sent'.length < 80000
  | 0, k, M, f, sent, x5, x6, x7, x8, x9, x10, x11, x12, x13, x14, x15, x16, l, hs => ⟨M, f, sent, x5, x6, x7, x8, x9, x10, x11, x12, x13, x14, x15, x16, forV_n rfl, l.st, by omega⟩
  | d + 1, k, M, f, sent, x5, x6, x7, x8, x9, x10, x11, x12, x13, x14, x15, x16, l, hs => by
    obtain ⟨M1, f1, s1, z6, z7, z8, z9, z10, z11, z12, z13, z14, z15, z16, e1, l1, h1⟩ := turn (a0 := a0) (a2 := a2) dk hdl l hR60 (by omega) hne k x6 x7 x8 x9 x10 x11 x12 x13 x14 x15 x16
    obtain ⟨M2, f2, s2, y5, y6, y7, y8, y9, y10, y11, y12, y13, y14, y15, y16, e2, st2, h2⟩ := turn_loop dk hdl hR60 hne (a0 := a0) (a2 := a2) d (k + 1) M1 f1 s1 (some (.int k)) z6 z7 z8 z9 z10 z11 z12 z13 z14 z15 z16 l1 (by omega)
    refine ⟨M2, f2, s2, y5, y6, y7, y8, y9, y10, y11, y12, y13, y14, y15, y16, ?_, st2, h2⟩
    rw [List.range'_succ, List.map_cons]
    exact (forV_c rfl rfl e1).trans e2
def finS : SSem := (sSeq (sAsg (gNm 10) (eBlt (lenO ((0, φ_Controls___len__) :: [])) (aCons (eAttr [] ((1, 3) :: []) (eVar 3)) aNil))) (sSeq (sExpr (eCall φ_choose (aCons (eVar 3) (aCons (eC (.int 99)) (aCons (eC (.str "a")) aNil))) aNil)) (sSeq (sRet (eBin (boD eqD) (eBlt (lenO ((0, φ_Controls___len__) :: [])) (aCons (eAttr [] ((1, 3) :: []) (eVar 3)) aNil)) (eVar 10))) sNext)))
theorem fin_ok {M : Mem} {R C S : Nat} {doc : List Nd} {prev : List Str} {f : Kn} {sent : List D} (dk : DocOk doc) (h99 : wayL doc 99 = []) (s : St M R C S doc prev f sent) (hl : sent.length < 80000) {a0 a1 a2 a4 a5 a6 a7 a8 a9 a10 a11 a12 a13 a14 a15 a16 : Option D} : ∃ M', finS [a0, a1, a2, some (.ref R), a4, a5, a6, a7, a8, a9, a10, a11, a12, a13, a14, a15, a16] M = .rt (.bl true) M' := by
  have h0 : elemAt doc 99 = none := by
    unfold elemAt
    rw [h99] <;> rfl
  obtain ⟨M1, ec, _, hc⟩ := choose_eq (n := 99) (x := "a") (w := .b true) dk s (fun a ha => by rw [h0] at ha; cases ha) (by omega)
  rcases hc with ⟨a, ha, _⟩ | ⟨_, s1⟩
  · rw [h0] at ha; cases ha
  · have hR := s.hR
    have hR1 := s1.hR
    refine ⟨M1, ?_⟩
    unfold finS
    simp only [LD.v_lenO, LD.v_eqQi, LD.v_neQi, LD.q_Ins, LD.q_App, LD.okS_t, LD.v_isLst, LD.lstK_s, LD.v_app, LD.q_Rev, LD.lsK_s, LD.q_Get, LD.getKK_s, LD.v_lsL, LD.v_keyI, LD.v_keyS, Option.isSome_some, Option.isSome_none, Option.getD_some, Option.getD_none, LD.v_eqs, LD.v_nes, LD.v_isiBb, LD.q_C, LD.q_Var, LD.q_Bin, LD.q_Un, LD.q_tOf, LD.q_tCmp, LD.q_tAnd, LD.q_tOr, LD.q_tNot, LD.q_And, LD.q_Or, LD.q_Not, LD.q_If, LD.q_Nil, LD.q_Cons, LD.q_Tup, LD.q_Lst, LD.q_LstM, LD.q_Call, LD.q_Meth, LD.q_Attr, LD.q_Blt, LD.q_Comp, LD.q_iOf, LD.srcK_s, LD.v_truB, LD.v_truL, LD.v_truN, LD.v_srcL, LD.v_neg, LD.q_iRange, LD.q_Next, LD.q_Seq, LD.q_Expr, LD.q_Ret, LD.q_RetN, LD.q_SIf, LD.q_Bk, LD.q_Ct, LD.q_Asg, LD.q_Nm, LD.q_Sub, LD.q_Del, LD.q_Fld, LD.q_Dic, LD.q_For, LD.wipeD, Bool.not_true, Bool.not_false, LD.ifT, LD.le0, LD.le1, LD.le2, LD.le3, LD.le4, LD.le5, LD.le6, LD.cmpK_l, LD.nn_n, LD.nn_i, LD.nn_t, LD.nn_l, LD.nn_r, LD.nn_b, LD.nn_s, LD.nonK_n, LD.okK_o, LD.bind_k, LD.bind_b, LD.bind_e, LD.bindS_k, LD.bindS_e, LD.ofO_s, LD.getV_s, LD.truK_s, LD.blK_b, LD.refK_r, LD.insK_i, LD.lookK_s, LD.lookK_n, LD.refS_r, LD.insS_i, LD.lookS_s, LD.seq_n, LD.seq_r, LD.seq_b, LD.seq_c, LD.seq_e, LD.storeK_s, LD.memK_s, LD.endF_n, LD.endF_r, LD.endF_e, LD.pick_t, LD.pick_f, LD.finL_f, LD.finL_t, LD.v_add, LD.v_sub, LD.v_mulR, LD.v_fdiv, LD.v_mod, LD.v_int, LD.v_lt, LD.v_le, LD.v_gt, LD.v_ge, LD.v_eq, LD.v_ne, LD.v_len, LD.v_tix, LD.v_lix, LD.v_rix, LD.rixK_l, LD.rixK_d, LD.v_isN, LD.v_isnN, LD.v_isNone, LD.v_isNoneN, LD.startD, List.length_cons, List.length_nil, List.map_cons, List.map_nil, List.cons_append, List.nil_append, List.append_nil, List.getElem?_cons_zero, List.getElem?_cons_succ, List.set_cons_zero, List.set_cons_succ, List.replicate_succ, List.replicate_zero, Nat.reduceAdd, Nat.reduceSub, Nat.reduceBEq, Int.reduceLT, Int.reduceNeg, Int.reduceLE, Nat.reduceLeDiff, Nat.reduceLT, List.lookup_cons, List.lookup_nil, beq_self_eq_true, Option.map_some, Option.map_none, hR, lenO_r s.hS, ec, hR1, lenO_r s1.hS]
theorem law_ok : LawD 63 φ_law := fun ns0 hl0 => by
  have hR : (rowL ns0 60).length = 60 := by unfold rowL; rw [List.length_map, List.length_range]
  generalize hRg : rowL ns0 60 = R at hR
  have r60 := rows_eq ns0 60 (by decide)
  rw [hRg, show ((60 : Nat) : Int) = 60 from rfl] at r60
  obtain ⟨r0, hr0⟩ := row_at (R := R) (i := 0) (by omega)
  have c0 := Int.emod_nonneg r0 (show (22 : Int) ≠ 0 by decide)
  have c1 := Int.emod_lt_of_pos r0 (show (0 : Int) < 22 by decide)
  obtain ⟨many, hmany⟩ : ∃ n : Nat, 1 + r0 % 22 = (n : Int) := ⟨(1 + r0 % 22).toNat, by omega⟩
  obtain ⟨doc, M, ed, nd, hnl, htop, hht⟩ := doc_eq hR many (by omega)
  have dk : DocOk doc := ⟨by omega, by omega, nd⟩
  have h99 : wayL doc 99 = [] := way_noL doc 99 fun h => by have := htop 99 h; omega
  obtain ⟨M1, C, S, em, s1, hS, kp⟩ := root_mk (M := .lst (R.map .int) :: M) (prev := ["input", "change", "click"]) dk
  obtain ⟨P, M2, ea, hP, hlen, hold⟩ := all_eq 30 doc M1 [] (by omega) (by omega) (by decide)
  have s2 := s1.ext hold
  have hS2 := s2.hS
  have lm : (DO.lst (R.map D.int) :: M).length = M.length + 1 := List.length_cons
  have hrow : M2[0]? = some (.lst (R.map .int)) := by
    have h := kp 0 _ (show (DO.lst (R.map D.int) :: M)[0]? = some (.lst (R.map .int)) from rfl)
    rw [hold 0 (lt_of h)]
    exact h
  have hr0' : atI (R.map D.int) 0 = some (.int r0) := hr0
  have ea' : φ__law_all 30 [.tup (doc.map ndD), .lst []] M1 = .ok (.ref P) M2 := ea
  have em' : mkF 1 4 φ_Rehearsal___init__ [.tup (doc.map ndD), .lst [.str "input", .str "change", .str "click"]] (.lst (R.map .int) :: M) = .ok (.ref (M.length + 1)) M1 := em
  have hQ : (allL doc []).length < 1000 := by rw [allL_len]; omega
  have hrn : ∀ M : Mem, rngK [.int (2 * (((allL doc []).map prA).length : Int))] M = .ok ⟨(List.range' 0 (2 * (allL doc []).length)).map fun i : Nat => D.int (i : Int), fun _ => true⟩ M := fun M => by
    have e : 2 * (((allL doc []).map prA).length : Int) = ((2 * (allL doc []).length : Nat) : Int) := by rw [List.length_map]; omega
    rw [e, rngN (by omega) (by omega), Int.toNat_natCast, rng']
  have loop : ∃ (M' : Mem) (f' : Kn) (sent' : List D) (y5 y6 y7 y8 y9 y10 y11 y12 y13 y14 y15 y16 : Option D), forV (fun _ => true) (gNm 5) β_law_5 ((List.range' 0 (2 * (allL doc []).length)).map fun i : Nat => D.int (i : Int)) [some (intsD ns0), some (.ref 0), some (.tup (doc.map ndD)), some (.ref (M.length + 1)), some (.ref P), none, none, none, none, none, none, none, none, none, none, none, none] M2 =
      .nx [some (intsD ns0), some (.ref 0), some (.tup (doc.map ndD)), some (.ref (M.length + 1)), some (.ref P), y5, y6, y7, y8, y9, y10, y11, y12, y13, y14, y15, y16] M' ∧ St M' (M.length + 1) C S doc ["input", "change", "click"] f' sent' ∧ sent'.length < 80000 := by
    by_cases hz : (allL doc []).length = 0
    · rw [hz]
      exact ⟨M2, _, [], none, none, none, none, none, none, none, none, none, none, none, none, forV_n rfl, s2, by decide⟩
    · have hne : P ≠ S := fun z => by
        rw [z] at hP
        have hm := hP.symm.trans hS2
        have hm : (allL doc []).map prA = [] := by injection hm with hm; injection hm
        exact hz (by rw [List.map_eq_nil_iff.mp hm] <;> rfl)
      have l2 : Ls M2 (M.length + 1) C S P doc ["input", "change", "click"] (allL doc []) R _ [] := ⟨s2, hP, hrow, hne, by rw [lm] at hS; omega, ⟨_, fun n => rfl⟩⟩
      exact turn_loop dk (by omega) hR (by omega) (2 * (allL doc []).length) 0 M2 _ [] none none none none none none none none none none none none l2 (by rw [List.length_nil]; omega)
  obtain ⟨M3, f3, sent3, y5, y6, y7, y8, y9, y10, y11, y12, y13, y14, y15, y16, e5, s3, h3⟩ := loop
  obtain ⟨M4, e6⟩ := fin_ok (a0 := some (intsD ns0)) (a1 := some (.ref 0)) (a2 := some (.tup (doc.map ndD))) (a4 := some (.ref P)) (a5 := y5) (a6 := y6) (a7 := y7) (a8 := y8) (a9 := y9) (a10 := y10) (a11 := y11) (a12 := y12) (a13 := y13) (a14 := y14) (a15 := y15) (a16 := y16) dk h99 s3 h3
  have m2 : ∀ (i : Int) (M : Mem), mulD (.int 2) (.int i) M = some (.int (2 * i), M) := fun i M => v_mulL (by decide) (by decide)
  refine ⟨M4, ?_⟩
  unfold φ_law
  refine run_def rfl ?_
  have hdef : ψ_law = (sSeq (sAsg (gNm 1) (eCall φ__law_rows (aCons (eVar 0) (aCons (eC (.int 60)) aNil)) aNil)) (sSeq (sAsg (gNm 2) (eCall φ__law_document (aCons (eVar 1) (aCons (eC (.int 1)) (aCons (eBin addD (eC (.int 1)) (eBin modD (eBlt intC (aCons (eBin ixD (eVar 1) (eC (.int 0))) aNil)) (eC (.int 22)))) aNil))) aNil)) (sSeq (sAsg (gNm 3) (eCall (mkF 1 4 φ_Rehearsal___init__) (aCons (eVar 2) aNil) (aCons (eLst false (aCons (eC (.str "input")) (aCons (eC (.str "change")) (aCons (eC (.str "click")) aNil)))) aNil))) (sSeq (sAsg (gNm 4) (eCall (φ__law_all 30) (aCons (eVar 2) (aCons (eLst false aNil) aNil)) aNil)) (sSeq (sFor (iRange (aCons (eBin mulD (eC (.int 2)) (eBlt (lenO ((0, φ_Controls___len__) :: [])) (aCons (eVar 4) aNil))) aNil)) (gNm 5) β_law_5) finS))))) := rfl
  rw [hdef]
  simp only [LD.v_lenO, LD.v_eqQi, LD.v_neQi, LD.q_Ins, LD.q_App, LD.okS_t, LD.v_isLst, LD.lstK_s, LD.v_app, LD.q_Rev, LD.lsK_s, LD.q_Get, LD.getKK_s, LD.v_lsL, LD.v_keyI, LD.v_keyS, Option.isSome_some, Option.isSome_none, Option.getD_some, Option.getD_none, LD.v_eqs, LD.v_nes, LD.v_isiBb, LD.q_C, LD.q_Var, LD.q_Bin, LD.q_Un, LD.q_tOf, LD.q_tCmp, LD.q_tAnd, LD.q_tOr, LD.q_tNot, LD.q_And, LD.q_Or, LD.q_Not, LD.q_If, LD.q_Nil, LD.q_Cons, LD.q_Tup, LD.q_Lst, LD.q_LstM, LD.q_Call, LD.q_Meth, LD.q_Attr, LD.q_Blt, LD.q_Comp, LD.q_iOf, LD.srcK_s, LD.v_truB, LD.v_truL, LD.v_truN, LD.v_srcL, LD.v_neg, LD.q_iRange, LD.q_Next, LD.q_Seq, LD.q_Expr, LD.q_Ret, LD.q_RetN, LD.q_SIf, LD.q_Bk, LD.q_Ct, LD.q_Asg, LD.q_Nm, LD.q_Sub, LD.q_Del, LD.q_Fld, LD.q_Dic, LD.q_For, LD.wipeD, Bool.not_true, Bool.not_false, LD.ifT, LD.le0, LD.le1, LD.le2, LD.le3, LD.le4, LD.le5, LD.le6, LD.cmpK_l, LD.nn_n, LD.nn_i, LD.nn_t, LD.nn_l, LD.nn_r, LD.nn_b, LD.nn_s, LD.nonK_n, LD.okK_o, LD.bind_k, LD.bind_b, LD.bind_e, LD.bindS_k, LD.bindS_e, LD.ofO_s, LD.getV_s, LD.truK_s, LD.blK_b, LD.refK_r, LD.insK_i, LD.lookK_s, LD.lookK_n, LD.refS_r, LD.insS_i, LD.lookS_s, LD.seq_n, LD.seq_r, LD.seq_b, LD.seq_c, LD.seq_e, LD.storeK_s, LD.memK_s, LD.endF_n, LD.endF_r, LD.endF_e, LD.pick_t, LD.pick_f, LD.finL_f, LD.finL_t, LD.v_add, LD.v_sub, LD.v_mulR, LD.v_fdiv, LD.v_mod, LD.v_int, LD.v_lt, LD.v_le, LD.v_gt, LD.v_ge, LD.v_eq, LD.v_ne, LD.v_len, LD.v_tix, LD.v_lix, LD.v_rix, LD.rixK_l, LD.rixK_d, LD.v_isN, LD.v_isnN, LD.v_isNone, LD.v_isNoneN, LD.startD, List.length_cons, List.length_nil, List.map_cons, List.map_nil, List.cons_append, List.nil_append, List.append_nil, List.getElem?_cons_zero, List.getElem?_cons_succ, List.set_cons_zero, List.set_cons_succ, List.replicate_succ, List.replicate_zero, Nat.reduceAdd, Nat.reduceSub, Nat.reduceBEq, Int.reduceLT, Int.reduceNeg, Int.reduceLE, Nat.reduceLeDiff, Nat.reduceLT, List.lookup_cons, List.lookup_nil, beq_self_eq_true, Option.map_some, Option.map_none, r60, hr0', hmany, ed, em', ea', lenO_r hP, m2, hrn, e5, e6]
end K65
namespace K65
open PySem PySem.Spec PyProof.Rows L2 LD
theorem all_mk {l : PySem.W.OpenLaw} {w : World} {K : PySem.W.Frag} {h : Heap} {mg : Str → Option Value} {fa : Addr} {y0 : Addr} {y1 : Addr} {y2 : Addr} {y3 : Addr} {y4 : Addr} {y5 : Addr} {y6 : Addr} {y7 : Addr} {y8 : Addr} {y9 : Addr} {y10 : Addr} {y11 : Addr} {y12 : Addr} {y13 : Addr} {y14 : Addr} {y15 : Addr} {y16 : Addr} {y17 : Addr} {y18 : Addr} {y19 : Addr} {y20 : Addr} {y21 : Addr} {y22 : Addr} {y23 : Addr} {y24 : Addr} {y25 : Addr} {y26 : Addr} {y27 : Addr} {y28 : Addr} {y29 : Addr} {y30 : Addr} {y31 : Addr} {y32 : Addr} {y33 : Addr} {y34 : Addr} {y35 : Addr} {y36 : Addr} {y37 : Addr} {y38 : Addr} {y39 : Value} {y40 : Option Addr} {y41 : Value} {y42 : Value} {y43 : Value} {y44 : Option Addr} {y45 : Value} {y46 : Value} {y47 : Array (Option Value)} {y48 : Value} {y49 : Option Addr} {y50 : Value} {y51 : Value} {y52 : Value} {y53 : Option Addr} {y54 : Value} {y55 : Value} {y56 : Array (Option Value)} {y57 : Value} {y58 : Option Addr} {y59 : Value} {y60 : Value} {y61 : Value} {y62 : Option Addr} {y63 : Value} {y64 : Value} {y65 : Array (Option Value)} {y66 : Value} {y67 : Option Addr} {y68 : Value} {y69 : Value} {y70 : Value} {y71 : Option Addr} {y72 : Value} {y73 : Value} {y74 : Array (Option Value)} {y75 : Value} {y76 : Option Addr} {y77 : Value} {y78 : Value} {y79 : Value} {y80 : Option Addr} {y81 : Value} {y82 : Value} {y83 : Array (Option Value)} {y84 : Value} {y85 : Option Addr} {y86 : Value} {y87 : Value} {y88 : Value} {y89 : Option Addr} {y90 : Value} {y91 : Value} {y92 : Array (Option Value)} {y93 : Value} {y94 : Option Addr} {y95 : Value} {y96 : Value} {y97 : Value} {y98 : Option Addr} {y99 : Value} {y100 : Value} {y101 : Array (Option Value)} {y102 : Value} {y103 : Option Addr} {y104 : Value} {y105 : Value} {y106 : Value} {y107 : Option Addr} {y108 : Value} {y109 : Value} {y110 : Array (Option Value)} {y111 : Value} {y112 : Option Addr} {y113 : Value} {y114 : Value} {y115 : Value} {y116 : Option Addr} {y117 : Value} {y118 : Value} {y119 : Array (Option Value)} {y120 : Value} {y121 : Option Addr} {y122 : Value} {y123 : Value} {y124 : Value} {y125 : Option Addr} {y126 : Value} {y127 : Value} {y128 : Array (Option Value)} {y129 : Value} {y130 : Option Addr} {y131 : Value} {y132 : Value} {y133 : Value} {y134 : Option Addr} {y135 : Value} {y136 : Value} {y137 : Array (Option Value)} {y138 : Value} {y139 : Option Addr} {y140 : Value} {y141 : Value} {y142 : Value} {y143 : Option Addr} {y144 : Value} {y145 : Value} {y146 : Array (Option Value)} {y147 : Value} {y148 : Option Addr} {y149 : Value} {y150 : Value} {y151 : Value} {y152 : Option Addr} {y153 : Value} {y154 : Value} {y155 : Array (Option Value)} {y156 : Value} {y157 : Option Addr} {y158 : Value} {y159 : Value} {y160 : Value} {y161 : Option Addr} {y162 : Value} {y163 : Value} {y164 : Array (Option Value)} {y165 : Value} {y166 : Option Addr} {y167 : Value} {y168 : Value} {y169 : Value} {y170 : Option Addr} {y171 : Value} {y172 : Value} {y173 : Array (Option Value)} {y174 : Value} {y175 : Option Addr} {y176 : Value} {y177 : Value} {y178 : Value} {y179 : Option Addr} {y180 : Value} {y181 : Value} {y182 : Array (Option Value)} {y183 : Value} {y184 : Option Addr} {y185 : Value} {y186 : Value} {y187 : Value} {y188 : Option Addr} {y189 : Value} {y190 : Value} {y191 : Array (Option Value)} {y192 : Value} {y193 : Option Addr} {y194 : Value} {y195 : Value} {y196 : Value} {y197 : Option Addr} {y198 : Value} {y199 : Value} {y200 : Array (Option Value)} {y201 : Value} {y202 : Option Addr} {y203 : Value} {y204 : Value} {y205 : Value} {y206 : Option Addr} {y207 : Value} {y208 : Value} {y209 : Array (Option Value)} {y210 : Value} {y211 : Option Addr} {y212 : Value} {y213 : Value} {y214 : Value} {y215 : Option Addr} {y216 : Value} {y217 : Value} {y218 : Array (Option Value)} {y219 : Value} {y220 : Option Addr} {y221 : Value} {y222 : Value} {y223 : Value} {y224 : Option Addr} {y225 : Value} {y226 : Value} {y227 : Array (Option Value)} {y228 : Value} {y229 : Option Addr} {y230 : Value} {y231 : Value} {y232 : Value} {y233 : Option Addr} {y234 : Value} {y235 : Value} {y236 : Array (Option Value)} {y237 : Value} {y238 : Option Addr} {y239 : Value} {y240 : Value} {y241 : Value} {y242 : Option Addr} {y243 : Value} {y244 : Value} {y245 : Array (Option Value)} {y246 : Value} {y247 : Option Addr} {y248 : Value} {y249 : Value} {y250 : Value} {y251 : Option Addr} {y252 : Value} {y253 : Value} {y254 : Array (Option Value)} {y255 : Value} {y256 : Option Addr} {y257 : Value} {y258 : Value} {y259 : Value} {y260 : Option Addr} {y261 : Value} {y262 : Value} {y263 : Array (Option Value)} {y264 : Value} {y265 : Option Addr} {y266 : Value} {y267 : Value} {y268 : Value} {y269 : Option Addr} {y270 : Value} {y271 : Value} {y272 : Array (Option Value)} {y273 : Value} {y274 : Option Addr} {y275 : Value} {y276 : Value} {y277 : Value} {y278 : Option Addr} {y279 : Value} {y280 : Value} {y281 : Array (Option Value)} {y282 : Value} {y283 : Option Addr} {y284 : Value} {y285 : Value} {y286 : Value} {y287 : Option Addr} {y288 : Value} {y289 : Value} {y290 : Array (Option Value)} {y291 : Value} {y292 : Option Addr} {y293 : Value} {y294 : Value} {y295 : Value} {y296 : Option Addr} {y297 : Value} {y298 : Value} {y299 : Array (Option Value)} {y300 : Value} {y301 : Option Addr} {y302 : Value} {y303 : Value} {y304 : Value} {y305 : Option Addr} {y306 : Value} {y307 : Value} {y308 : Array (Option Value)} {y309 : Value} {y310 : Option Addr} {y311 : Value} {y312 : Value} {y313 : Value} {y314 : Option Addr} {y315 : Value} {y316 : Value} {y317 : Array (Option Value)} {y318 : Value} {y319 : Option Addr} {y320 : Value} {y321 : Value} {y322 : Option Addr} {y323 : Value} {y324 : Value} {y325 : Array (Option Value)} {y326 : Addr} {y327 : Value} {y328 : Option Addr} {y329 : Value} {y330 : Value} {y331 : Value} {y332 : Option Addr} {y333 : Value} {y334 : Value} {y335 : Array (Option Value)} {y336 : Value} {y337 : Option Addr} {y338 : Value} {y339 : Value} {y340 : Value} {y341 : Option Addr} {y342 : Value} {y343 : Value} {y344 : Array (Option Value)} {y345 : Value} {y346 : Option Addr} {y347 : Value} {y348 : Value} {y349 : Value} {y350 : Option Addr} {y351 : Value} {y352 : Value} {y353 : Array (Option Value)} {y354 : Value} {y355 : Option Addr} {y356 : Value} {y357 : Value} {y358 : Value} {y359 : Option Addr} {y360 : Value} {y361 : Value} {y362 : Array (Option Value)} {y363 : Value} {y364 : Option Addr} {y365 : Value} {y366 : Value} {y367 : Value} {y368 : Option Addr} {y369 : Value} {y370 : Value} {y371 : Array (Option Value)} (X : K.In h) (G : h.Ns mainGlobals mg) (hfa : mg "law" = some (.ref fa))
    (z0 : PySem.W.nsIn K mainGlobals "Controls" = some (some (.ref y0)))
    (z1 : PySem.W.nsIn K mainGlobals "Rehearsal" = some (some (.ref y1)))
    (z2 : PySem.W.findIn K (.ref y0) "known" = some none)
    (z3 : PySem.W.plainGet K y0 Str.empty = true)
    (z4 : PySem.W.hasDictIn K y0 = true)
    (z5 : PySem.W.plainOver K y0 = true)
    (z6 : PySem.W.findIn K (.ref y0) "__setattr__" = some (some (.builtin "object.__setattr__")))
    (z7 : PySem.W.nsIn K mainGlobals "len" = some none)
    (z8 : PySem.W.findIn K (.ref y1) "sent" = some none)
    (z9 : PySem.W.plainGet K y1 Str.empty = true)
    (z10 : PySem.W.hasDictIn K y1 = true)
    (z11 : PySem.W.plainOver K y1 = true)
    (z12 : PySem.W.findIn K (.ref y1) "__setattr__" = some (some (.builtin "object.__setattr__")))
    (z13 : PySem.W.nsIn K mainGlobals "text_of_attribute" = some (some (.ref y4)))
    (z14 : PySem.W.keepIn K (.ref y4) = true)
    (z15 : PySem.W.nsIn K mainGlobals "option_value" = some (some (.ref y5)))
    (z16 : PySem.W.keepIn K (.ref y5) = true)
    (z17 : PySem.W.nsIn K mainGlobals "elements_of" = some (some (.ref y6)))
    (z18 : PySem.W.keepIn K (.ref y6) = true)
    (z19 : PySem.W.nsIn K mainGlobals "free_options" = some (some (.ref y7)))
    (z20 : PySem.W.keepIn K (.ref y7) = true)
    (z21 : PySem.W.findIn K (.ref y1) "controls" = some none)
    (z22 : PySem.W.findIn K (.ref y1) "document" = some none)
    (z23 : PySem.W.nsIn K mainGlobals "bound_value" = some (some (.ref y8)))
    (z24 : PySem.W.keepIn K (.ref y8) = true)
    (z25 : PySem.W.findIn K (.ref y0) "choose_first" = some (some (.ref y9)))
    (z26 : PySem.W.isFn K (.ref y9) = true)
    (z27 : PySem.W.keepIn K (.ref y9) = true)
    (z28 : PySem.W.nsIn K mainGlobals "first_value" = some (some (.ref y10)))
    (z29 : PySem.W.keepIn K (.ref y10) = true)
    (z30 : PySem.W.nsIn K mainGlobals "kind_of_control" = some (some (.ref y11)))
    (z31 : PySem.W.keepIn K (.ref y11) = true)
    (z32 : PySem.W.findIn K (.ref y0) "settle" = some (some (.ref y12)))
    (z33 : PySem.W.isFn K (.ref y12) = true)
    (z34 : PySem.W.keepIn K (.ref y12) = true)
    (z35 : PySem.W.nsIn K mainGlobals "settle" = some (some (.ref y13)))
    (z36 : PySem.W.keepIn K (.ref y13) = true)
    (z37 : PySem.W.findIn K (.ref y0) "shown" = some (some (.ref y14)))
    (z38 : PySem.W.isFn K (.ref y14) = true)
    (z39 : PySem.W.keepIn K (.ref y14) = true)
    (z40 : PySem.W.findIn K (.ref y1) "prevented" = some none)
    (z41 : PySem.W.nsIn K mainGlobals "can_prevent" = some (some (.ref y15)))
    (z42 : PySem.W.keepIn K (.ref y15) = true)
    (z43 : PySem.W.nsIn K mainGlobals "dict" = some none)
    (z44 : PySem.W.findIn K (.ref y1) "send_event" = some (some (.ref y16)))
    (z45 : PySem.W.isFn K (.ref y16) = true)
    (z46 : PySem.W.keepIn K (.ref y16) = true)
    (z47 : PySem.W.nsIn K mainGlobals "way_to" = some (some (.ref y17)))
    (z48 : PySem.W.keepIn K (.ref y17) = true)
    (z49 : PySem.W.nsIn K mainGlobals "is_disabled" = some (some (.ref y18)))
    (z50 : PySem.W.keepIn K (.ref y18) = true)
    (z51 : PySem.W.nsIn K mainGlobals "send" = some (some (.ref y19)))
    (z52 : PySem.W.keepIn K (.ref y19) = true)
    (z53 : PySem.W.findIn K (.ref y0) "show" = some (some (.ref y20)))
    (z54 : PySem.W.isFn K (.ref y20) = true)
    (z55 : PySem.W.keepIn K (.ref y20) = true)
    (z56 : PySem.W.nsIn K mainGlobals "element_at" = some (some (.ref y21)))
    (z57 : PySem.W.keepIn K (.ref y21) = true)
    (z58 : PySem.W.nsIn K mainGlobals "is_control" = some (some (.ref y22)))
    (z59 : PySem.W.keepIn K (.ref y22) = true)
    (z60 : PySem.W.nsIn K mainGlobals "set_text" = some (some (.ref y23)))
    (z61 : PySem.W.keepIn K (.ref y23) = true)
    (z62 : PySem.W.nsIn K mainGlobals "choose" = some (some (.ref y24)))
    (z63 : PySem.W.keepIn K (.ref y24) = true)
    (z64 : PySem.W.nsIn K mainGlobals "range" = some none)
    (z65 : PySem.W.nsIn K mainGlobals "_law_attribute" = some (some (.ref y25)))
    (z66 : PySem.W.keepIn K (.ref y25) = true)
    (z67 : PySem.W.nsIn K mainGlobals "_law_kind" = some (some (.ref y26)))
    (z68 : PySem.W.keepIn K (.ref y26) = true)
    (z69 : PySem.W.nsIn K mainGlobals "_law_shut" = some (some (.ref y27)))
    (z70 : PySem.W.keepIn K (.ref y27) = true)
    (z71 : PySem.W.nsIn K mainGlobals "_law_all" = some (some (.ref y28)))
    (z72 : PySem.W.keepIn K (.ref y28) = true)
    (z73 : PySem.W.nsIn K mainGlobals "_law_free" = some (some (.ref y29)))
    (z74 : PySem.W.keepIn K (.ref y29) = true)
    (z75 : PySem.W.nsIn K mainGlobals "_law_bound" = some (some (.ref y30)))
    (z76 : PySem.W.keepIn K (.ref y30) = true)
    (z77 : PySem.W.nsIn K mainGlobals "_law_told" = some (some (.ref y31)))
    (z78 : PySem.W.keepIn K (.ref y31) = true)
    (z79 : PySem.W.nsIn K mainGlobals "int" = some none)
    (z80 : PySem.W.nsIn K mainGlobals "list" = some none)
    (z81 : PySem.W.makesIn K y0 = true)
    (z82 : PySem.W.findIn K (.ref y0) "__init__" = some (some (.ref y32)))
    (z83 : PySem.W.isFn K (.ref y32) = true)
    (z84 : PySem.W.keepIn K (.ref y0) = true)
    (z85 : PySem.W.makesIn K y1 = true)
    (z86 : PySem.W.findIn K (.ref y1) "__init__" = some (some (.ref y33)))
    (z87 : PySem.W.isFn K (.ref y33) = true)
    (z88 : PySem.W.keepIn K (.ref y1) = true)
    (z89 : PySem.W.nsIn K mainGlobals "tuple" = some none)
    (z90 : PySem.W.nsIn K mainGlobals "str" = some none)
    (z91 : PySem.W.nsIn K mainGlobals "_law_attributes" = some (some (.ref y34)))
    (z92 : PySem.W.keepIn K (.ref y34) = true)
    (z93 : PySem.W.nsIn K mainGlobals "_law_nodes" = some (some (.ref y35)))
    (z94 : PySem.W.keepIn K (.ref y35) = true)
    (z95 : PySem.W.nsIn K mainGlobals "_law_document" = some (some (.ref y36)))
    (z96 : PySem.W.keepIn K (.ref y36) = true)
    (z97 : PySem.W.nsIn K mainGlobals "_law_rows" = some (some (.ref y37)))
    (z98 : PySem.W.keepIn K (.ref y37) = true)
    (z99 : PySem.W.findIn K (.ref y0) "__contains__" = some (some (.ref y3)))
    (z100 : PySem.W.isFn K (.ref y3) = true)
    (z101 : PySem.W.findIn K (.ref y0) "__len__" = some (some (.ref y2)))
    (z102 : PySem.W.isFn K (.ref y2) = true)
    (z103 : PySem.W.nsIn K mainGlobals "law" = some (some (.ref y38)))
    (z104 : K.lookup y2 = some ⟨y39, y40, .func (PySem.W.fnOf "__len__" "Controls.__len__" (defArgs st_Controls___len__) (defBody st_Controls___len__) (defScope st_Controls___len__) .none y41 y42 y43 y44 y45 y46), y47⟩)
    (z105 : PySem.W.codeIn K y45 "Controls.__len__" = true)
    (z106 : PySem.W.keepIn K (.ref y2) = true)
    (z107 : K.lookup y3 = some ⟨y48, y49, .func (PySem.W.fnOf "__contains__" "Controls.__contains__" (defArgs st_Controls___contains__) (defBody st_Controls___contains__) (defScope st_Controls___contains__) .none y50 y51 y52 y53 y54 y55), y56⟩)
    (z108 : PySem.W.codeIn K y54 "Controls.__contains__" = true)
    (z109 : PySem.W.keepIn K (.ref y3) = true)
    (z110 : K.lookup y4 = some ⟨y57, y58, .func (PySem.W.fnOf "text_of_attribute" "text_of_attribute" (defArgs st_text_of_attribute) (defBody st_text_of_attribute) (defScope st_text_of_attribute) .none y59 y60 y61 y62 y63 y64), y65⟩)
    (z111 : PySem.W.codeIn K y63 "text_of_attribute" = true)
    (z112 : PySem.W.keepIn K (.ref y4) = true)
    (z113 : K.lookup y5 = some ⟨y66, y67, .func (PySem.W.fnOf "option_value" "option_value" (defArgs st_option_value) (defBody st_option_value) (defScope st_option_value) .none y68 y69 y70 y71 y72 y73), y74⟩)
    (z114 : PySem.W.codeIn K y72 "option_value" = true)
    (z115 : PySem.W.keepIn K (.ref y5) = true)
    (z116 : K.lookup y6 = some ⟨y75, y76, .func (PySem.W.fnOf "elements_of" "elements_of" (defArgs st_elements_of) (defBody st_elements_of) (defScope st_elements_of) .none y77 y78 y79 y80 y81 y82), y83⟩)
    (z117 : PySem.W.codeIn K y81 "elements_of" = true)
    (z118 : PySem.W.keepIn K (.ref y6) = true)
    (z119 : K.lookup y7 = some ⟨y84, y85, .func (PySem.W.fnOf "free_options" "free_options" (defArgs st_free_options) (defBody st_free_options) (defScope st_free_options) .none y86 y87 y88 y89 y90 y91), y92⟩)
    (z120 : PySem.W.codeIn K y90 "free_options" = true)
    (z121 : PySem.W.keepIn K (.ref y7) = true)
    (z122 : K.lookup y8 = some ⟨y93, y94, .func (PySem.W.fnOf "bound_value" "bound_value" (defArgs st_bound_value) (defBody st_bound_value) (defScope st_bound_value) .none y95 y96 y97 y98 y99 y100), y101⟩)
    (z123 : PySem.W.codeIn K y99 "bound_value" = true)
    (z124 : PySem.W.keepIn K (.ref y8) = true)
    (z125 : K.lookup y9 = some ⟨y102, y103, .func (PySem.W.fnOf "choose_first" "Controls.choose_first" (defArgs st_Controls_choose_first) (defBody st_Controls_choose_first) (defScope st_Controls_choose_first) .none y104 y105 y106 y107 y108 y109), y110⟩)
    (z126 : PySem.W.codeIn K y108 "Controls.choose_first" = true)
    (z127 : PySem.W.keepIn K (.ref y9) = true)
    (z128 : K.lookup y10 = some ⟨y111, y112, .func (PySem.W.fnOf "first_value" "first_value" (defArgs st_first_value) (defBody st_first_value) (defScope st_first_value) .none y113 y114 y115 y116 y117 y118), y119⟩)
    (z129 : PySem.W.codeIn K y117 "first_value" = true)
    (z130 : PySem.W.keepIn K (.ref y10) = true)
    (z131 : K.lookup y11 = some ⟨y120, y121, .func (PySem.W.fnOf "kind_of_control" "kind_of_control" (defArgs st_kind_of_control) (defBody st_kind_of_control) (defScope st_kind_of_control) .none y122 y123 y124 y125 y126 y127), y128⟩)
    (z132 : PySem.W.codeIn K y126 "kind_of_control" = true)
    (z133 : PySem.W.keepIn K (.ref y11) = true)
    (z134 : K.lookup y12 = some ⟨y129, y130, .func (PySem.W.fnOf "settle" "Controls.settle" (defArgs st_Controls_settle) (defBody st_Controls_settle) (defScope st_Controls_settle) .none y131 y132 y133 y134 y135 y136), y137⟩)
    (z135 : PySem.W.codeIn K y135 "Controls.settle" = true)
    (z136 : PySem.W.keepIn K (.ref y12) = true)
    (z137 : K.lookup y13 = some ⟨y138, y139, .func (PySem.W.fnOf "settle" "settle" (defArgs st_settle) (defBody st_settle) (defScope st_settle) .none y140 y141 y142 y143 y144 y145), y146⟩)
    (z138 : PySem.W.codeIn K y144 "settle" = true)
    (z139 : PySem.W.keepIn K (.ref y13) = true)
    (z140 : K.lookup y14 = some ⟨y147, y148, .func (PySem.W.fnOf "shown" "Controls.shown" (defArgs st_Controls_shown) (defBody st_Controls_shown) (defScope st_Controls_shown) .none y149 y150 y151 y152 y153 y154), y155⟩)
    (z141 : PySem.W.codeIn K y153 "Controls.shown" = true)
    (z142 : PySem.W.keepIn K (.ref y14) = true)
    (z143 : K.lookup y15 = some ⟨y156, y157, .func (PySem.W.fnOf "can_prevent" "can_prevent" (defArgs st_can_prevent) (defBody st_can_prevent) (defScope st_can_prevent) .none y158 y159 y160 y161 y162 y163), y164⟩)
    (z144 : PySem.W.codeIn K y162 "can_prevent" = true)
    (z145 : PySem.W.keepIn K (.ref y15) = true)
    (z146 : K.lookup y16 = some ⟨y165, y166, .func (PySem.W.fnOf "send_event" "Rehearsal.send_event" (defArgs st_Rehearsal_send_event) (defBody st_Rehearsal_send_event) (defScope st_Rehearsal_send_event) .none y167 y168 y169 y170 y171 y172), y173⟩)
    (z147 : PySem.W.codeIn K y171 "Rehearsal.send_event" = true)
    (z148 : PySem.W.keepIn K (.ref y16) = true)
    (z149 : K.lookup y17 = some ⟨y174, y175, .func (PySem.W.fnOf "way_to" "way_to" (defArgs st_way_to) (defBody st_way_to) (defScope st_way_to) .none y176 y177 y178 y179 y180 y181), y182⟩)
    (z150 : PySem.W.codeIn K y180 "way_to" = true)
    (z151 : PySem.W.keepIn K (.ref y17) = true)
    (z152 : K.lookup y18 = some ⟨y183, y184, .func (PySem.W.fnOf "is_disabled" "is_disabled" (defArgs st_is_disabled) (defBody st_is_disabled) (defScope st_is_disabled) .none y185 y186 y187 y188 y189 y190), y191⟩)
    (z153 : PySem.W.codeIn K y189 "is_disabled" = true)
    (z154 : PySem.W.keepIn K (.ref y18) = true)
    (z155 : K.lookup y19 = some ⟨y192, y193, .func (PySem.W.fnOf "send" "send" (defArgs st_send) (defBody st_send) (defScope st_send) .none y194 y195 y196 y197 y198 y199), y200⟩)
    (z156 : PySem.W.codeIn K y198 "send" = true)
    (z157 : PySem.W.keepIn K (.ref y19) = true)
    (z158 : K.lookup y20 = some ⟨y201, y202, .func (PySem.W.fnOf "show" "Controls.show" (defArgs st_Controls_show) (defBody st_Controls_show) (defScope st_Controls_show) .none y203 y204 y205 y206 y207 y208), y209⟩)
    (z159 : PySem.W.codeIn K y207 "Controls.show" = true)
    (z160 : PySem.W.keepIn K (.ref y20) = true)
    (z161 : K.lookup y21 = some ⟨y210, y211, .func (PySem.W.fnOf "element_at" "element_at" (defArgs st_element_at) (defBody st_element_at) (defScope st_element_at) .none y212 y213 y214 y215 y216 y217), y218⟩)
    (z162 : PySem.W.codeIn K y216 "element_at" = true)
    (z163 : PySem.W.keepIn K (.ref y21) = true)
    (z164 : K.lookup y22 = some ⟨y219, y220, .func (PySem.W.fnOf "is_control" "is_control" (defArgs st_is_control) (defBody st_is_control) (defScope st_is_control) .none y221 y222 y223 y224 y225 y226), y227⟩)
    (z165 : PySem.W.codeIn K y225 "is_control" = true)
    (z166 : PySem.W.keepIn K (.ref y22) = true)
    (z167 : K.lookup y23 = some ⟨y228, y229, .func (PySem.W.fnOf "set_text" "set_text" (defArgs st_set_text) (defBody st_set_text) (defScope st_set_text) .none y230 y231 y232 y233 y234 y235), y236⟩)
    (z168 : PySem.W.codeIn K y234 "set_text" = true)
    (z169 : PySem.W.keepIn K (.ref y23) = true)
    (z170 : K.lookup y24 = some ⟨y237, y238, .func (PySem.W.fnOf "choose" "choose" (defArgs st_choose) (defBody st_choose) (defScope st_choose) .none y239 y240 y241 y242 y243 y244), y245⟩)
    (z171 : PySem.W.codeIn K y243 "choose" = true)
    (z172 : PySem.W.keepIn K (.ref y24) = true)
    (z173 : K.lookup y25 = some ⟨y246, y247, .func (PySem.W.fnOf "_law_attribute" "_law_attribute" (defArgs st__law_attribute) (defBody st__law_attribute) (defScope st__law_attribute) .none y248 y249 y250 y251 y252 y253), y254⟩)
    (z174 : PySem.W.codeIn K y252 "_law_attribute" = true)
    (z175 : PySem.W.keepIn K (.ref y25) = true)
    (z176 : K.lookup y26 = some ⟨y255, y256, .func (PySem.W.fnOf "_law_kind" "_law_kind" (defArgs st__law_kind) (defBody st__law_kind) (defScope st__law_kind) .none y257 y258 y259 y260 y261 y262), y263⟩)
    (z177 : PySem.W.codeIn K y261 "_law_kind" = true)
    (z178 : PySem.W.keepIn K (.ref y26) = true)
    (z179 : K.lookup y27 = some ⟨y264, y265, .func (PySem.W.fnOf "_law_shut" "_law_shut" (defArgs st__law_shut) (defBody st__law_shut) (defScope st__law_shut) .none y266 y267 y268 y269 y270 y271), y272⟩)
    (z180 : PySem.W.codeIn K y270 "_law_shut" = true)
    (z181 : PySem.W.keepIn K (.ref y27) = true)
    (z182 : K.lookup y28 = some ⟨y273, y274, .func (PySem.W.fnOf "_law_all" "_law_all" (defArgs st__law_all) (defBody st__law_all) (defScope st__law_all) .none y275 y276 y277 y278 y279 y280), y281⟩)
    (z183 : PySem.W.codeIn K y279 "_law_all" = true)
    (z184 : PySem.W.keepIn K (.ref y28) = true)
    (z185 : K.lookup y29 = some ⟨y282, y283, .func (PySem.W.fnOf "_law_free" "_law_free" (defArgs st__law_free) (defBody st__law_free) (defScope st__law_free) .none y284 y285 y286 y287 y288 y289), y290⟩)
    (z186 : PySem.W.codeIn K y288 "_law_free" = true)
    (z187 : PySem.W.keepIn K (.ref y29) = true)
    (z188 : K.lookup y30 = some ⟨y291, y292, .func (PySem.W.fnOf "_law_bound" "_law_bound" (defArgs st__law_bound) (defBody st__law_bound) (defScope st__law_bound) .none y293 y294 y295 y296 y297 y298), y299⟩)
    (z189 : PySem.W.codeIn K y297 "_law_bound" = true)
    (z190 : PySem.W.keepIn K (.ref y30) = true)
    (z191 : K.lookup y31 = some ⟨y300, y301, .func (PySem.W.fnOf "_law_told" "_law_told" (defArgs st__law_told) (defBody st__law_told) (defScope st__law_told) .none y302 y303 y304 y305 y306 y307), y308⟩)
    (z192 : PySem.W.codeIn K y306 "_law_told" = true)
    (z193 : PySem.W.keepIn K (.ref y31) = true)
    (z194 : K.lookup y32 = some ⟨y309, y310, .func (PySem.W.fnOf "__init__" "Controls.__init__" (defArgs st_Controls___init__) (defBody st_Controls___init__) (defScope st_Controls___init__) .none y311 y312 y313 y314 y315 y316), y317⟩)
    (z195 : PySem.W.codeIn K y315 "Controls.__init__" = true)
    (z196 : PySem.W.keepIn K (.ref y32) = true)
    (z197 : K.lookup y33 = some ⟨y318, y319, .func (PySem.W.fnOf "__init__" "Rehearsal.__init__" (defArgs st_Rehearsal___init__) (defBody st_Rehearsal___init__) (defScope st_Rehearsal___init__) .none (.ref y326) y320 y321 y322 y323 y324), y325⟩)
    (z198 : PySem.W.codeIn K y323 "Rehearsal.__init__" = true)
    (z199 : PySem.W.keepIn K (.ref y33) = true)
    (z200 : K.lookup y34 = some ⟨y327, y328, .func (PySem.W.fnOf "_law_attributes" "_law_attributes" (defArgs st__law_attributes) (defBody st__law_attributes) (defScope st__law_attributes) .none y329 y330 y331 y332 y333 y334), y335⟩)
    (z201 : PySem.W.codeIn K y333 "_law_attributes" = true)
    (z202 : PySem.W.keepIn K (.ref y34) = true)
    (z203 : K.lookup y35 = some ⟨y336, y337, .func (PySem.W.fnOf "_law_nodes" "_law_nodes" (defArgs st__law_nodes) (defBody st__law_nodes) (defScope st__law_nodes) .none y338 y339 y340 y341 y342 y343), y344⟩)
    (z204 : PySem.W.codeIn K y342 "_law_nodes" = true)
    (z205 : PySem.W.keepIn K (.ref y35) = true)
    (z206 : K.lookup y36 = some ⟨y345, y346, .func (PySem.W.fnOf "_law_document" "_law_document" (defArgs st__law_document) (defBody st__law_document) (defScope st__law_document) .none y347 y348 y349 y350 y351 y352), y353⟩)
    (z207 : PySem.W.codeIn K y351 "_law_document" = true)
    (z208 : PySem.W.keepIn K (.ref y36) = true)
    (z209 : K.lookup y37 = some ⟨y354, y355, .func (PySem.W.fnOf "_law_rows" "_law_rows" (defArgs st__law_rows) (defBody st__law_rows) (defScope st__law_rows) .none y356 y357 y358 y359 y360 y361), y362⟩)
    (z210 : PySem.W.codeIn K y360 "_law_rows" = true)
    (z211 : PySem.W.keepIn K (.ref y37) = true)
    (z212 : K.lookup y38 = some ⟨y363, y364, .func (PySem.W.fnOf "law" "law" (defArgs st_law) (defBody st_law) (defScope st_law) .none y365 y366 y367 y368 y369 y370), y371⟩)
    (z213 : PySem.W.codeIn K y369 "law" = true)
    (z214 : PySem.W.keepIn K (.ref y38) = true)
    : ∃ (T : Tab) (fd : FuncData), (∀ (s : Shared) (v : Value), BindsTo s fd ⟨[v], []⟩ [("_law_script", v)]) ∧ ∀ base : Heap, K.In base → base.Ns mainGlobals mg → FnX l.prog w K mg base T 38 fa fd ["_law_script"] φ_law := by
  have e := hfa.symm.trans (PySem.W.mg_of X G z103)
  cases e
  let a : Ad := { C_Controls := y0, C_Rehearsal := y1, f_Controls___len__ := y2, f_Controls___contains__ := y3, f_text_of_attribute := y4, f_option_value := y5, f_elements_of := y6, f_free_options := y7, f_bound_value := y8, f_Controls_choose_first := y9, f_first_value := y10, f_kind_of_control := y11, f_Controls_settle := y12, f_settle := y13, f_Controls_shown := y14, f_can_prevent := y15, f_Rehearsal_send_event := y16, f_way_to := y17, f_is_disabled := y18, f_send := y19, f_Controls_show := y20, f_element_at := y21, f_is_control := y22, f_set_text := y23, f_choose := y24, f__law_attribute := y25, f__law_kind := y26, f__law_shut := y27, f__law_all := y28, f__law_free := y29, f__law_bound := y30, f__law_told := y31, f_Controls___init__ := y32, f_Rehearsal___init__ := y33, f__law_attributes := y34, f__law_nodes := y35, f__law_document := y36, f__law_rows := y37, f_law := fa, kd_Rehearsal___init__ := y326 }
  have T : Tx K mg a := { mg_Controls := PySem.W.mg_of X G z0, mg_Rehearsal := PySem.W.mg_of X G z1, na_Controls_known := z2, cl_Controls := ⟨z3, z4, z5, z6⟩, no_len := PySem.W.mg_none_of X G z7, na_Rehearsal_sent := z8, cl_Rehearsal := ⟨z9, z10, z11, z12⟩, mg_text_of_attribute := PySem.W.mg_of X G z13, kp_text_of_attribute := z14, mg_option_value := PySem.W.mg_of X G z15, kp_option_value := z16, mg_elements_of := PySem.W.mg_of X G z17, kp_elements_of := z18, mg_free_options := PySem.W.mg_of X G z19, kp_free_options := z20, na_Rehearsal_controls := z21, na_Rehearsal_document := z22, mg_bound_value := PySem.W.mg_of X G z23, kp_bound_value := z24, me_Controls_choose_first := ⟨z25, z26, z27⟩, mg_first_value := PySem.W.mg_of X G z28, kp_first_value := z29, mg_kind_of_control := PySem.W.mg_of X G z30, kp_kind_of_control := z31, me_Controls_settle := ⟨z32, z33, z34⟩, mg_settle := PySem.W.mg_of X G z35, kp_settle := z36, me_Controls_shown := ⟨z37, z38, z39⟩, na_Rehearsal_prevented := z40, mg_can_prevent := PySem.W.mg_of X G z41, kp_can_prevent := z42, no_dict := PySem.W.mg_none_of X G z43, me_Rehearsal_send_event := ⟨z44, z45, z46⟩, mg_way_to := PySem.W.mg_of X G z47, kp_way_to := z48, mg_is_disabled := PySem.W.mg_of X G z49, kp_is_disabled := z50, mg_send := PySem.W.mg_of X G z51, kp_send := z52, me_Controls_show := ⟨z53, z54, z55⟩, mg_element_at := PySem.W.mg_of X G z56, kp_element_at := z57, mg_is_control := PySem.W.mg_of X G z58, kp_is_control := z59, mg_set_text := PySem.W.mg_of X G z60, kp_set_text := z61, mg_choose := PySem.W.mg_of X G z62, kp_choose := z63, no_range := PySem.W.mg_none_of X G z64, mg__law_attribute := PySem.W.mg_of X G z65, kp__law_attribute := z66, mg__law_kind := PySem.W.mg_of X G z67, kp__law_kind := z68, mg__law_shut := PySem.W.mg_of X G z69, kp__law_shut := z70, mg__law_all := PySem.W.mg_of X G z71, kp__law_all := z72, mg__law_free := PySem.W.mg_of X G z73, kp__law_free := z74, mg__law_bound := PySem.W.mg_of X G z75, kp__law_bound := z76, mg__law_told := PySem.W.mg_of X G z77, kp__law_told := z78, no_int := PySem.W.mg_none_of X G z79, no_list := PySem.W.mg_none_of X G z80, mk_Controls := ⟨z81, z82, z83, z84⟩, mk_Rehearsal := ⟨z85, z86, z87, z88⟩, no_tuple := PySem.W.mg_none_of X G z89, no_str := PySem.W.mg_none_of X G z90, mg__law_attributes := PySem.W.mg_of X G z91, kp__law_attributes := z92, mg__law_nodes := PySem.W.mg_of X G z93, kp__law_nodes := z94, mg__law_document := PySem.W.mg_of X G z95, kp__law_document := z96, mg__law_rows := PySem.W.mg_of X G z97, kp__law_rows := z98, co_Controls := z99, coF_Controls := z100, ln_Controls := z101, lnF_Controls := z102, fn_Controls___len__ := fnAt_mk z104 z105 z106, fn_Controls___contains__ := fnAt_mk z107 z108 z109, fn_text_of_attribute := fnAt_mk z110 z111 z112, fn_option_value := fnAt_mk z113 z114 z115, fn_elements_of := fnAt_mk z116 z117 z118, fn_free_options := fnAt_mk z119 z120 z121, fn_bound_value := fnAt_mk z122 z123 z124, fn_Controls_choose_first := fnAt_mk z125 z126 z127, fn_first_value := fnAt_mk z128 z129 z130, fn_kind_of_control := fnAt_mk z131 z132 z133, fn_Controls_settle := fnAt_mk z134 z135 z136, fn_settle := fnAt_mk z137 z138 z139, fn_Controls_shown := fnAt_mk z140 z141 z142, fn_can_prevent := fnAt_mk z143 z144 z145, fn_Rehearsal_send_event := fnAt_mk z146 z147 z148, fn_way_to := fnAt_mk z149 z150 z151, fn_is_disabled := fnAt_mk z152 z153 z154, fn_send := fnAt_mk z155 z156 z157, fn_Controls_show := fnAt_mk z158 z159 z160, fn_element_at := fnAt_mk z161 z162 z163, fn_is_control := fnAt_mk z164 z165 z166, fn_set_text := fnAt_mk z167 z168 z169, fn_choose := fnAt_mk z170 z171 z172, fn__law_attribute := fnAt_mk z173 z174 z175, fn__law_kind := fnAt_mk z176 z177 z178, fn__law_shut := fnAt_mk z179 z180 z181, fn__law_all := fnAt_mk z182 z183 z184, fn__law_free := fnAt_mk z185 z186 z187, fn__law_bound := fnAt_mk z188 z189 z190, fn__law_told := fnAt_mk z191 z192 z193, fn_Controls___init__ := fnAt_mk z194 z195 z196, fn_Rehearsal___init__ := fnAtD_mk z197 z198 z199, fn__law_attributes := fnAt_mk z200 z201 z202, fn__law_nodes := fnAt_mk z203 z204 z205, fn__law_document := fnAt_mk z206 z207 z208, fn__law_rows := fnAt_mk z209 z210 z211, fn_law := fnAt_mk z212 z213 z214 }
  obtain ⟨fd, h1, h2⟩ := ok_law (P := l.prog) (w := w) T
  exact ⟨_, fd, h1, fun base _ _ => h2 base⟩
end K65
open PySem PySem.W PyProof.Rows in
set_option maxRecDepth 100000 in
set_option maxHeartbeats 0 in
theorem PySem.Challenge.cw_viewloom_k65_choosing_holds : PySem.Challenge.rw_viewloom_k65_choosing.Holds := by
  w_on; o_law; k_head; (case hw => w_witness2)
  k_fill
  refine LD.walk_d (l := PySem.Challenge.rw_viewloom_k65_choosing) (k := 38) (x := "_law_script") rfl rfl (fun w h Y => PySem.W.kIn_of Y) ⟨rfl, by decide, by decide⟩ K65.law_ok ?F
  case F =>
    intro w mg fa h KX G hmg
    refine' K65.all_mk KX G hmg ?z0 ?z1 ?z2 ?z3 ?z4 ?z5 ?z6 ?z7 ?z8 ?z9 ?z10 ?z11 ?z12 ?z13 ?z14 ?z15 ?z16 ?z17 ?z18 ?z19 ?z20 ?z21 ?z22 ?z23 ?z24 ?z25 ?z26 ?z27 ?z28 ?z29 ?z30 ?z31 ?z32 ?z33 ?z34 ?z35 ?z36 ?z37 ?z38 ?z39 ?z40 ?z41 ?z42 ?z43 ?z44 ?z45 ?z46 ?z47 ?z48 ?z49 ?z50 ?z51 ?z52 ?z53 ?z54 ?z55 ?z56 ?z57 ?z58 ?z59 ?z60 ?z61 ?z62 ?z63 ?z64 ?z65 ?z66 ?z67 ?z68 ?z69 ?z70 ?z71 ?z72 ?z73 ?z74 ?z75 ?z76 ?z77 ?z78 ?z79 ?z80 ?z81 ?z82 ?z83 ?z84 ?z85 ?z86 ?z87 ?z88 ?z89 ?z90 ?z91 ?z92 ?z93 ?z94 ?z95 ?z96 ?z97 ?z98 ?z99 ?z100 ?z101 ?z102 ?z103 ?z104 ?z105 ?z106 ?z107 ?z108 ?z109 ?z110 ?z111 ?z112 ?z113 ?z114 ?z115 ?z116 ?z117 ?z118 ?z119 ?z120 ?z121 ?z122 ?z123 ?z124 ?z125 ?z126 ?z127 ?z128 ?z129 ?z130 ?z131 ?z132 ?z133 ?z134 ?z135 ?z136 ?z137 ?z138 ?z139 ?z140 ?z141 ?z142 ?z143 ?z144 ?z145 ?z146 ?z147 ?z148 ?z149 ?z150 ?z151 ?z152 ?z153 ?z154 ?z155 ?z156 ?z157 ?z158 ?z159 ?z160 ?z161 ?z162 ?z163 ?z164 ?z165 ?z166 ?z167 ?z168 ?z169 ?z170 ?z171 ?z172 ?z173 ?z174 ?z175 ?z176 ?z177 ?z178 ?z179 ?z180 ?z181 ?z182 ?z183 ?z184 ?z185 ?z186 ?z187 ?z188 ?z189 ?z190 ?z191 ?z192 ?z193 ?z194 ?z195 ?z196 ?z197 ?z198 ?z199 ?z200 ?z201 ?z202 ?z203 ?z204 ?z205 ?z206 ?z207 ?z208 ?z209 ?z210 ?z211 ?z212 ?z213 ?z214
    (case z0 => k_is)
    (case z1 => k_is)
    (case z2 => k_is)
    (case z3 => k_is)
    (case z4 => k_is)
    (case z5 => k_is)
    (case z6 => k_is)
    (case z7 => k_is)
    (case z8 => k_is)
    (case z9 => k_is)
    (case z10 => k_is)
    (case z11 => k_is)
    (case z12 => k_is)
    (case z13 => k_is)
    (case z14 => k_is)
    (case z15 => k_is)
    (case z16 => k_is)
    (case z17 => k_is)
    (case z18 => k_is)
    (case z19 => k_is)
    (case z20 => k_is)
    (case z21 => k_is)
    (case z22 => k_is)
    (case z23 => k_is)
    (case z24 => k_is)
    (case z25 => k_is)
    (case z26 => k_is)
    (case z27 => k_is)
    (case z28 => k_is)
    (case z29 => k_is)
    (case z30 => k_is)
    (case z31 => k_is)
    (case z32 => k_is)
    (case z33 => k_is)
    (case z34 => k_is)
    (case z35 => k_is)
    (case z36 => k_is)
    (case z37 => k_is)
    (case z38 => k_is)
    (case z39 => k_is)
    (case z40 => k_is)
    (case z41 => k_is)
    (case z42 => k_is)
    (case z43 => k_is)
    (case z44 => k_is)
    (case z45 => k_is)
    (case z46 => k_is)
    (case z47 => k_is)
    (case z48 => k_is)
    (case z49 => k_is)
    (case z50 => k_is)
    (case z51 => k_is)
    (case z52 => k_is)
    (case z53 => k_is)
    (case z54 => k_is)
    (case z55 => k_is)
    (case z56 => k_is)
    (case z57 => k_is)
    (case z58 => k_is)
    (case z59 => k_is)
    (case z60 => k_is)
    (case z61 => k_is)
    (case z62 => k_is)
    (case z63 => k_is)
    (case z64 => k_is)
    (case z65 => k_is)
    (case z66 => k_is)
    (case z67 => k_is)
    (case z68 => k_is)
    (case z69 => k_is)
    (case z70 => k_is)
    (case z71 => k_is)
    (case z72 => k_is)
    (case z73 => k_is)
    (case z74 => k_is)
    (case z75 => k_is)
    (case z76 => k_is)
    (case z77 => k_is)
    (case z78 => k_is)
    (case z79 => k_is)
    (case z80 => k_is)
    (case z81 => k_is)
    (case z82 => k_is)
    (case z83 => k_is)
    (case z84 => k_is)
    (case z85 => k_is)
    (case z86 => k_is)
    (case z87 => k_is)
    (case z88 => k_is)
    (case z89 => k_is)
    (case z90 => k_is)
    (case z91 => k_is)
    (case z92 => k_is)
    (case z93 => k_is)
    (case z94 => k_is)
    (case z95 => k_is)
    (case z96 => k_is)
    (case z97 => k_is)
    (case z98 => k_is)
    (case z99 => k_is)
    (case z100 => k_is)
    (case z101 => k_is)
    (case z102 => k_is)
    (case z103 => k_is)
    (case z104 => k_is)
    (case z105 => k_is)
    (case z106 => k_is)
    (case z107 => k_is)
    (case z108 => k_is)
    (case z109 => k_is)
    (case z110 => k_is)
    (case z111 => k_is)
    (case z112 => k_is)
    (case z113 => k_is)
    (case z114 => k_is)
    (case z115 => k_is)
    (case z116 => k_is)
    (case z117 => k_is)
    (case z118 => k_is)
    (case z119 => k_is)
    (case z120 => k_is)
    (case z121 => k_is)
    (case z122 => k_is)
    (case z123 => k_is)
    (case z124 => k_is)
    (case z125 => k_is)
    (case z126 => k_is)
    (case z127 => k_is)
    (case z128 => k_is)
    (case z129 => k_is)
    (case z130 => k_is)
    (case z131 => k_is)
    (case z132 => k_is)
    (case z133 => k_is)
    (case z134 => k_is)
    (case z135 => k_is)
    (case z136 => k_is)
    (case z137 => k_is)
    (case z138 => k_is)
    (case z139 => k_is)
    (case z140 => k_is)
    (case z141 => k_is)
    (case z142 => k_is)
    (case z143 => k_is)
    (case z144 => k_is)
    (case z145 => k_is)
    (case z146 => k_is)
    (case z147 => k_is)
    (case z148 => k_is)
    (case z149 => k_is)
    (case z150 => k_is)
    (case z151 => k_is)
    (case z152 => k_is)
    (case z153 => k_is)
    (case z154 => k_is)
    (case z155 => k_is)
    (case z156 => k_is)
    (case z157 => k_is)
    (case z158 => k_is)
    (case z159 => k_is)
    (case z160 => k_is)
    (case z161 => k_is)
    (case z162 => k_is)
    (case z163 => k_is)
    (case z164 => k_is)
    (case z165 => k_is)
    (case z166 => k_is)
    (case z167 => k_is)
    (case z168 => k_is)
    (case z169 => k_is)
    (case z170 => k_is)
    (case z171 => k_is)
    (case z172 => k_is)
    (case z173 => k_is)
    (case z174 => k_is)
    (case z175 => k_is)
    (case z176 => k_is)
    (case z177 => k_is)
    (case z178 => k_is)
    (case z179 => k_is)
    (case z180 => k_is)
    (case z181 => k_is)
    (case z182 => k_is)
    (case z183 => k_is)
    (case z184 => k_is)
    (case z185 => k_is)
    (case z186 => k_is)
    (case z187 => k_is)
    (case z188 => k_is)
    (case z189 => k_is)
    (case z190 => k_is)
    (case z191 => k_is)
    (case z192 => k_is)
    (case z193 => k_is)
    (case z194 => k_is)
    (case z195 => k_is)
    (case z196 => k_is)
    (case z197 => k_is)
    (case z198 => k_is)
    (case z199 => k_is)
    (case z200 => k_is)
    (case z201 => k_is)
    (case z202 => k_is)
    (case z203 => k_is)
    (case z204 => k_is)
    (case z205 => k_is)
    (case z206 => k_is)
    (case z207 => k_is)
    (case z208 => k_is)
    (case z209 => k_is)
    (case z210 => k_is)
    (case z211 => k_is)
    (case z212 => k_is)
    (case z213 => k_is)
    (case z214 => k_is)
