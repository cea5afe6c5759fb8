import PyProof.Rows.All
import Wide.All
import OpenK.AllK
import Wide.FinOn
import HandS.ForMost
import HandS.ForExc
import HandS.Flow
import HandS.Deep
import HandS.Small
import HandS.Style
import HandS.TupAny
import HandS.TupSets
import HandS.Property
import HandS.ClsMeth
import HandS.IsInst
import HandS.TupLe
import HandS.SortInts
import HandS.Strs
import HandS.WordsDict
import HandS.RaiseMore
import HandS.Rev
import HandS.RevRange
import HandS.Zip
import HandS.DictComp
import HandS.Words
import HandS.WordsExc
import HandS.OwnEq
import HandS.Exc
import HandS.TryOnly
import HandS.ExcIs
import HandS.Text
import HandS.NamedTupGet
import PyProof.ReprRoads
import KE.KOwnIter
import HandS.IterVal
import HandS.SortRule
import HandS.MakeKwOnly
import KE.KEqNest
import PyProof.StrOps2
import HandS.SetFor
import HandS.Conv
import KE.LtSeq
import HandS.WideBits
import PyProof.ExcBaseAll.ValueError
import PySem.Challenge.RW_viewloom_k30_best_rising_rows
set_option Elab.async false
set_option linter.all false
set_option maxRecDepth 100000
set_option maxHeartbeats 8000000
namespace LD
open PySem L2

/-- room for k more calls; no __repr__ is under way -/
structure Room (k : Nat) (A : Around) : Prop where
  l2 : L2.Room k A
  gu : A.guards = some []
theorem Room.hd {k : Nat} {A : Around} (r : Room k A) : A.handled = none := r.l2.hd
theorem Room.un {k : Nat} {A : Around} (r : Room k A) : A.units + 16 * k + 200 < cLine := r.l2.un
theorem Room.units {k : Nat} {A : Around} (r : Room k A) : A.units + 64 < cLine := r.l2.units
theorem Room.mono {j k : Nat} {A : Around} (r : Room k A) (h : j ≤ k) : Room j A := ⟨r.l2.mono h, r.gu⟩
theorem Room.in1 {k : Nat} {A : Around} (r : Room (k + 1) A) : Room k A.in1 := ⟨r.l2.in1, r.gu⟩
theorem Room.deeper {k : Nat} {A : Around} (r : Room (k + 1) A) (env : Env) : Room k (A.deeper env) := ⟨r.l2.deeper env, r.gu⟩
theorem Room.make {k : Nat} {A : Around} (r : Room (k + 1) A) (C : Addr) (us : List Value) (kw : List (Str × Value)) : Room k (A.under (.builtin "type.__call__" ⟨.ref C :: us, kw⟩)) :=
  ⟨r.l2.make C us kw, by
    have h := r.gu
    simp [Around.under, Code.guards, Code.isGuard, guardIds, pushGuards, h]⟩

/-- a value without addresses: what is never changed any more stands in it whole -/
inductive D where
  | non | bl (b : Bool) | int (i : Int) | str (x : Str) | ty (n : String)
  | lst (xs : List D) | tup (xs : List D) | dic (ks : List Key) (vs : List D)
  | ref (i : Nat) | glb (a : Addr)
  deriving Inhabited

/-- an object that may change -/
inductive DO where
  | lst (xs : List D) | dic (kvs : List (Key × D)) | ins (c : Nat) (fs : List (Option D)) | dead
  deriving Inhabited
abbrev Mem := List DO
structure Exn where
  cls : Nat
  fs : Option (List (Str × D))
inductive R (α : Type) where
  | ok (a : α) (M : Mem) | er (x : Exn) (M : Mem) | bad
def R.bind {α β : Type} (r : R α) (f : α → Mem → R β) : R β := match r with
  | .ok a M => f a M
  | .er x M => .er x M
  | .bad => .bad
@[simp] theorem R.bind_ok {α β : Type} {a : α} {M : Mem} {f : α → Mem → R β} : (R.ok a M).bind f = f a M := rfl
@[simp] theorem R.bind_er {α β : Type} {x : Exn} {M : Mem} {f : α → Mem → R β} : (R.er x M : R α).bind f = .er x M := rfl
@[simp] theorem R.bind_bad {α β : Type} {f : α → Mem → R β} : (R.bad : R α).bind f = .bad := rfl

/-- the classes and the exceptions' classes by number -/
structure Tab where
  ct : List (Addr × List Str)
  et : List Value
structure KX where
  fr : PySem.W.Frag
  tb : Tab
section
variable (K : KX) (ι : List Addr) (F : Hp)
mutual
def Rep : D → V → Prop
  | .non, v => v = .non
  | .bl b, v => v = .bl b
  | .int i, v => v = .int i
  | .str x, v => v = .str x
  | .ty n, v => v = .ty n
  | .lst xs, v => ∃ a vs, v = .ref a ∧ SqL K.fr F a vs ∧ RepL xs vs
  | .tup xs, v => ∃ a vs, v = .ref a ∧ SqT K.fr F a vs ∧ RepL xs vs
  | .dic ks ds, v => ∃ a vs, v = .ref a ∧ Rd F a (.dK vs) ∧ vs.map (·.1) = ks ∧ RepL ds (vs.map (·.2))
  | .ref i, v => ∃ a, v = .ref a ∧ ι[i]? = some a
  | .glb a, v => v = .ref a
def RepL : List D → List V → Prop
  | [], vs => vs = []
  | d :: ds, vs => ∃ v r, vs = v :: r ∧ Rep d v ∧ RepL ds r
end
def RepO (H : Hp) (a : Addr) : DO → Prop
  | .lst xs => ∃ vs, H a = some (.lst vs) ∧ RepL K ι F xs vs
  | .dic kvs => ∃ vs, H a = some (.dK vs) ∧ vs.map (·.1) = kvs.map (·.1) ∧ RepL K ι F (kvs.map (·.2)) (vs.map (·.2))
  | .ins c fs => ∃ C ly dx vs, K.tb.ct[c]? = some (C, ly) ∧ H a = some (.ins C dx vs) ∧ (vs.map (·.1)).Nodup ∧ (∀ f ∈ vs.map (·.1), f ∈ ly) ∧ fs.length = ly.length ∧
      ∀ (j : Nat) f, ly[j]? = some f → ∀ d, fs[j]? = some (some d) → ∃ v, vs.lookup f = some v ∧ Rep K ι F d v
  | .dead => True
def DO.live : DO → Bool
  | .dead => false
  | _ => true
structure Rel (rs : List (Addr × HO)) (H : Hp) (M : Mem) : Prop where
  len : ι.length = M.length
  sub : ∀ b o, F b = some o → H b = some o
  obj : ∀ (i : Nat) o a, M[i]? = some o → ι[i]? = some a → o.live = true → F a = none ∧ RepO K ι F H a o
  inj : ∀ (i j : Nat) a, ι[i]? = some a → ι[j]? = some a → i = j
  there : ∀ (i : Nat) a, ι[i]? = some a → ∃ u, H a = some u
  rsv : ∀ p ∈ rs, H p.1 = some p.2 ∧ F p.1 = none ∧ ∀ i : Nat, ι[i]? ≠ some p.1
def RepS (s : List (Option D)) (σ : St) : Prop := σ.length = s.length ∧ ∀ (i : Nat) d, s[i]? = some (some d) → ∃ v, σ[i]? = some (some v) ∧ Rep K ι F d v
def RepX (x : Exn) (cls : Value) (dx : Option Addr) : Prop := K.tb.et[x.cls]? = some cls ∧ match x.fs, dx with
  | none, none => True
  | some fs, some d => ∃ vs, F d = some (.xd vs) ∧ vs.map (·.1) = fs.map (·.1) ∧ RepL K ι F (fs.map (·.2)) (vs.map (·.2))
  | _, _ => False
/-- what was a value stays one -/
def Le (ι' : List Addr) (F' : Hp) : Prop := ∀ d v, Rep K ι F d v → Rep K ι' F' d v
end

section
variable {K : KX} {ι ι' ι'' : List Addr} {F F' F'' H H' : Hp} {M M' : Mem} {rs : List (Addr × HO)}
theorem Le.refl : Le K ι F ι F := fun _ _ h => h
theorem Le.trans (a : Le K ι F ι' F') (b : Le K ι' F' ι'' F'') : Le K ι F ι'' F'' := fun d v h => b d v (a d v h)
theorem RepL.le (e : Le K ι F ι' F') : ∀ {ds : List D} {vs : List V}, RepL K ι F ds vs → RepL K ι' F' ds vs
  | [], vs, h => h
  | d :: ds, vs, h => by
    obtain ⟨v, r, e1, h1, h2⟩ := h
    exact ⟨v, r, e1, e d v h1, RepL.le e h2⟩
theorem RepS.le (e : Le K ι F ι' F') {s : List (Option D)} {σ : St} (h : RepS K ι F s σ) : RepS K ι' F' s σ :=
  ⟨h.1, fun i d q => by
    obtain ⟨v, h1, h2⟩ := h.2 i d q
    exact ⟨v, h1, e _ _ h2⟩⟩
theorem RepO.le (e : Le K ι F ι' F') {a : Addr} {o : DO} (h : RepO K ι F H a o) : RepO K ι' F' H a o := by
  cases o with
  | lst xs => obtain ⟨vs, h1, h2⟩ := h; exact ⟨vs, h1, h2.le e⟩
  | dic kvs => obtain ⟨vs, h1, h2, h3⟩ := h; exact ⟨vs, h1, h2, h3.le e⟩
  | ins C fs =>
    obtain ⟨C, ly, dx, vs, h0, h1, h2, h3, h4, h5⟩ := h
    refine ⟨C, ly, dx, vs, h0, h1, h2, h3, h4, fun j f e1 d e2 => ?_⟩
    obtain ⟨v, h6, h7⟩ := h5 j f e1 d e2
    exact ⟨v, h6, e _ _ h7⟩
  | dead => trivial
theorem RepO.at {a : Addr} {o : DO} (h : RepO K ι F H a o) (e : H' a = H a) : RepO K ι F H' a o := by
  cases o with
  | lst xs => obtain ⟨vs, h1, h2⟩ := h; exact ⟨vs, e.trans h1, h2⟩
  | dic kvs => obtain ⟨vs, h1, h2, h3⟩ := h; exact ⟨vs, e.trans h1, h2, h3⟩
  | ins C fs => obtain ⟨C, ly, dx, vs, h0, h1, h2, h3, h4⟩ := h; exact ⟨C, ly, dx, vs, h0, e.trans h1, h2, h3, h4⟩
  | dead => trivial
theorem RepO.some {a : Addr} {o : DO} (h : RepO K ι F H a o) (l : o.live = true) : ∃ u, H a = some u := by
  cases o with
  | lst xs => obtain ⟨vs, h1, h2⟩ := h; exact ⟨_, h1⟩
  | dic kvs => obtain ⟨vs, h1, h2, h3⟩ := h; exact ⟨_, h1⟩
  | ins C fs => obtain ⟨C, ly, dx, vs, h0, h1, _⟩ := h; exact ⟨_, h1⟩
  | dead => cases l
theorem RepL.length : ∀ {ds : List D} {vs : List V}, RepL K ι F ds vs → vs.length = ds.length
  | [], vs, h => by
    have e : vs = [] := h
    rw [e] <;> rfl
  | d :: ds, vs, h => by
    obtain ⟨v, r, e, h1, h2⟩ := h
    rw [e, List.length_cons, List.length_cons, h2.length]
theorem RepL.get : ∀ {ds : List D} {vs : List V} {i : Nat} {d : D}, RepL K ι F ds vs → ds[i]? = some d → ∃ v, vs[i]? = some v ∧ Rep K ι F d v
  | [], vs, i, d, h, e => by simp at e
  | d0 :: ds, vs, 0, d, h, e => by
    obtain ⟨v, r, e1, h1, h2⟩ := h
    have q : d0 = d := by simpa using e
    subst q
    exact ⟨v, by rw [e1] <;> rfl, h1⟩
  | d0 :: ds, vs, i + 1, d, h, e => by
    obtain ⟨v, r, e1, h1, h2⟩ := h
    obtain ⟨v', h3, h4⟩ := h2.get (i := i) (d := d) (by simpa using e)
    exact ⟨v', by rw [e1]; simpa using h3, h4⟩
theorem RepL.append : ∀ {ds es : List D} {vs us : List V}, RepL K ι F ds vs → RepL K ι F es us → RepL K ι F (ds ++ es) (vs ++ us)
  | [], es, vs, us, h, h' => by
    have e : vs = [] := h
    rw [e]; exact h'
  | d :: ds, es, vs, us, h, h' => by
    obtain ⟨v, r, e, h1, h2⟩ := h
    exact ⟨v, r ++ us, by rw [e] <;> rfl, h1, h2.append h'⟩
theorem RepL.one {d : D} {v : V} (h : Rep K ι F d v) : RepL K ι F [d] [v] := ⟨v, [], rfl, h, rfl⟩
theorem RepL.set : ∀ {ds : List D} {vs : List V} {i : Nat} {d : D} {v : V}, RepL K ι F ds vs → Rep K ι F d v → RepL K ι F (ds.set i d) (vs.set i v)
  | [], vs, i, d, v, h, _ => by
    have e : vs = [] := h
    rw [e]; exact rfl
  | d0 :: ds, vs, 0, d, v, h, h' => by
    obtain ⟨v0, r, e, h1, h2⟩ := h
    exact ⟨v, r, by rw [e] <;> rfl, h', h2⟩
  | d0 :: ds, vs, i + 1, d, v, h, h' => by
    obtain ⟨v0, r, e, h1, h2⟩ := h
    exact ⟨v0, r.set i v, by rw [e] <;> rfl, h1, h2.set h'⟩
theorem RepL.take : ∀ {ds : List D} {vs : List V} (n : Nat), RepL K ι F ds vs → RepL K ι F (ds.take n) (vs.take n)
  | ds, vs, 0, h => by
    show vs.take 0 = []
    simp
  | [], vs, n + 1, h => by
    have e : vs = [] := h
    rw [e]; exact rfl
  | d :: ds, vs, n + 1, h => by
    obtain ⟨v0, r, e, h1, h2⟩ := h
    exact ⟨v0, r.take n, by rw [e] <;> rfl, h1, h2.take n⟩
theorem RepL.drop : ∀ {ds : List D} {vs : List V} (n : Nat), RepL K ι F ds vs → RepL K ι F (ds.drop n) (vs.drop n)
  | ds, vs, 0, h => by simpa using h
  | [], vs, n + 1, h => by
    have e : vs = [] := h
    rw [e]; exact rfl
  | d :: ds, vs, n + 1, h => by
    obtain ⟨v0, r, e, h1, h2⟩ := h
    rw [e]
    exact h2.drop n
theorem RepL.reverse : ∀ {ds : List D} {vs : List V}, RepL K ι F ds vs → RepL K ι F ds.reverse vs.reverse
  | [], vs, h => by
    have e : vs = [] := h
    rw [e]; exact rfl
  | d :: ds, vs, h => by
    obtain ⟨v0, r, e, h1, h2⟩ := h
    rw [e, List.reverse_cons, List.reverse_cons]
    exact h2.reverse.append (.one h1)

/-- the known part grows (or what it knows is locked) and addresses are added -/
theorem Le.of (hF : ∀ b u, (∃ xs, u = HO.lst xs) ∨ (∃ xs, u = HO.tup xs) ∨ (∃ kvs, u = HO.dK kvs) → Rd F b u → Rd F' b u) (hi : ∀ (i : Nat) a, ι[i]? = some a → ι'[i]? = some a) : Le K ι F ι' F' := by
  have main : ∀ n, (∀ d v, sizeOf d < n → Rep K ι F d v → Rep K ι' F' d v) ∧ (∀ ds vs, sizeOf ds < n → RepL K ι F ds vs → RepL K ι' F' ds vs) := by
    intro n
    induction n with
    | zero => exact ⟨fun _ _ h => absurd h (Nat.not_lt_zero _), fun _ _ h => absurd h (Nat.not_lt_zero _)⟩
    | succ n ih =>
      refine ⟨fun d v hn h => ?_, fun ds vs hn h => ?_⟩
      · cases d with
        | non => exact h
        | bl b => exact h
        | int i => exact h
        | str x => exact h
        | ty n => exact h
        | glb a => exact h
        | ref i =>
          obtain ⟨a, e, q⟩ := h
          exact ⟨a, e, hi i a q⟩
        | lst xs =>
          obtain ⟨a, us, e, q, r⟩ := h
          refine ⟨a, us, e, ?_, ih.2 _ _ (by simp at hn; omega) r⟩
          rcases q with q | q
          · exact .inl (hF _ _ (.inl ⟨_, rfl⟩) q)
          · exact .inr q
        | tup xs =>
          obtain ⟨a, us, e, q, r⟩ := h
          refine ⟨a, us, e, ?_, ih.2 _ _ (by simp at hn; omega) r⟩
          rcases q with q | q
          · exact .inl (hF _ _ (.inr (.inl ⟨_, rfl⟩)) q)
          · exact .inr q
        | dic ks xs =>
          obtain ⟨a, us, e, q, e2, r⟩ := h
          exact ⟨a, us, e, hF _ _ (.inr (.inr ⟨_, rfl⟩)) q, e2, ih.2 _ _ (by simp at hn; omega) r⟩
      · cases ds with
        | nil => exact h
        | cons d ds =>
          obtain ⟨v, r, e, h1, h2⟩ := h
          exact ⟨v, r, e, ih.1 _ _ (by simp at hn; omega) h1, ih.2 _ _ (by simp at hn; omega) h2⟩
  exact fun d v h => (main (sizeOf d + 1)).1 d v (Nat.lt_succ_self _) h
theorem Le.grow (hF : ∀ b o, F b = some o → F' b = some o) : Le K ι F ι F' := Le.of (fun b u _ h => by
  rcases h with h | ⟨o, h⟩
  · exact .inl (hF _ _ h)
  · exact .inr ⟨o, hF _ _ h⟩) fun _ _ h => h
theorem Le.new {p : Addr} {o : HO} (h : F p = none) : Le K ι F ι (upd F p o) := Le.grow fun b u e => by
  rw [upd_ne (ne_of_none e h)]; exact e
theorem Le.push {a : Addr} : Le K ι F (ι ++ [a]) F := Le.of (fun _ _ _ h => h) fun i b h => by
  rw [List.getElem?_append_left (List.getElem?_eq_some_iff.mp h).1]; exact h
theorem Rel.free (r : Rel K ι F rs H M) {p : Addr} (h : H p = none) : F p = none := by
  cases e : F p with
  | none => rfl
  | some o =>
    rw [r.sub _ _ e] at h
    cases h
theorem Rel.le (r : Rel K ι F rs H M) (e : Le K ι F ι F') (hs : ∀ b o, F' b = some o → H b = some o) (hn : ∀ (i : Nat) o a, M[i]? = some o → ι[i]? = some a → o.live = true → F' a = none) (hr : ∀ p ∈ rs, F' p.1 = none) : Rel K ι F' rs H M :=
  ⟨r.len, hs, fun i o a h1 h2 h3 => ⟨hn i o a h1 h2 h3, (r.obj i o a h1 h2 h3).2.le e⟩, r.inj, r.there, fun p hp => ⟨(r.rsv p hp).1, hr p hp, (r.rsv p hp).2.2⟩⟩
/-- a new object that will not change -/
theorem Rel.frozen (r : Rel K ι F rs H M) {p : Addr} {o : HO} (h : H p = none) : Rel K ι (upd F p o) rs (upd H p o) M where
  len := r.len
  sub := fun b u e => by
    by_cases hb : b = p
    · subst hb; rw [upd_same] at e ⊢; exact e
    · rw [upd_ne hb] at e ⊢; exact r.sub _ _ e
  obj := fun i u a h1 h2 h3 => by
    obtain ⟨f0, ro⟩ := r.obj i u a h1 h2 h3
    have hap : a ≠ p := fun e => by
      obtain ⟨x, hx⟩ := ro.some h3
      rw [e, h] at hx
      cases hx
    refine ⟨by rw [upd_ne hap]; exact f0, (ro.le (Le.new (r.free h))).at (upd_ne hap)⟩
  inj := r.inj
  there := fun i a e => by
    obtain ⟨x, hx⟩ := r.there i a e
    exact ⟨x, by rw [upd_ne (ne_of_none hx h)]; exact hx⟩
  rsv := fun q hq => by
    obtain ⟨r1, r2, r3⟩ := r.rsv q hq
    have ne := ne_of_none r1 h
    exact ⟨by rw [upd_ne ne]; exact r1, by rw [upd_ne ne]; exact r2, r3⟩
/-- a new object that may change -/
theorem Rel.fresh (r : Rel K ι F rs H M) {p : Addr} {o : HO} {u : DO} (h : H p = none) (hu : u.live = true) (ho : RepO K (ι ++ [p]) F (upd H p o) p u) : Rel K (ι ++ [p]) F rs (upd H p o) (M ++ [u]) where
  len := by rw [List.length_append, List.length_append, r.len] <;> rfl
  sub := fun b v e => by
    have hb : b ≠ p := ne_of_none (r.sub _ _ e) h
    rw [upd_ne hb]; exact r.sub _ _ e
  obj := fun i v a h1 h2 h3 => by
    by_cases hi : i < M.length
    · rw [List.getElem?_append_left hi] at h1
      rw [List.getElem?_append_left (by rw [r.len]; exact hi)] at h2
      obtain ⟨f0, ro⟩ := r.obj i v a h1 h2 h3
      have hap : a ≠ p := fun e => by
        obtain ⟨x, hx⟩ := ro.some h3
        rw [e, h] at hx
        cases hx
      exact ⟨f0, (ro.le Le.push).at (upd_ne hap)⟩
    · have hl : i < (M ++ [u]).length := (List.getElem?_eq_some_iff.mp h1).1
      have hi' : i = M.length := by rw [List.length_append, List.length_singleton] at hl; omega
      subst hi'
      have e1 : u = v := by simpa using h1
      rw [← r.len] at h2
      have e2 : p = a := by simpa using h2
      subst e1; subst e2
      exact ⟨r.free h, ho⟩
  inj := fun i j a h1 h2 => by
    have old : ∀ (k : Nat), k < M.length → (ι ++ [p])[k]? = some a → ι[k]? = some a ∧ a ≠ p := fun k hk q => by
      rw [List.getElem?_append_left (by rw [r.len]; exact hk)] at q
      obtain ⟨x, hx⟩ := r.there k a q
      exact ⟨q, ne_of_none hx h⟩
    have last : ∀ (k : Nat), ¬ k < M.length → (ι ++ [p])[k]? = some a → k = M.length ∧ a = p := fun k hk q => by
      have hl : k < (ι ++ [p]).length := (List.getElem?_eq_some_iff.mp q).1
      have hk' : k = M.length := by rw [List.length_append, List.length_singleton, r.len] at hl; omega
      rw [hk', ← r.len] at q
      have q' : p = a := by simpa using q
      exact ⟨hk', q'.symm⟩
    by_cases hi : i < M.length
    · obtain ⟨q1, na⟩ := old i hi h1
      by_cases hj : j < M.length
      · exact r.inj i j a q1 (old j hj h2).1
      · exact absurd (last j hj h2).2 na
    · obtain ⟨ei, ea⟩ := last i hi h1
      by_cases hj : j < M.length
      · exact absurd ea (old j hj h2).2
      · rw [ei, (last j hj h2).1]
  there := fun i a e => by
    by_cases hi : i < M.length
    · rw [List.getElem?_append_left (by rw [r.len]; exact hi)] at e
      obtain ⟨x, hx⟩ := r.there i a e
      exact ⟨x, by rw [upd_ne (ne_of_none hx h)]; exact hx⟩
    · have hl : i < (ι ++ [p]).length := (List.getElem?_eq_some_iff.mp e).1
      have hk' : i = M.length := by rw [List.length_append, List.length_singleton, r.len] at hl; omega
      rw [hk', ← r.len] at e
      have q' : p = a := by simpa using e
      exact ⟨o, by rw [← q', upd_same]⟩
  rsv := fun q hq => by
    obtain ⟨r1, r2, r3⟩ := r.rsv q hq
    have ne := ne_of_none r1 h
    refine ⟨by rw [upd_ne ne]; exact r1, r2, fun i e => ?_⟩
    by_cases hi : i < M.length
    · rw [List.getElem?_append_left (by rw [r.len]; exact hi)] at e
      exact r3 i e
    · have hl : i < (ι ++ [p]).length := (List.getElem?_eq_some_iff.mp e).1
      have hk' : i = M.length := by rw [List.length_append, List.length_singleton, r.len] at hl; omega
      rw [hk', ← r.len] at e
      have q' : p = q.1 := by simpa using e
      exact ne q'.symm
/-- an object that may change is changed -/
theorem Rel.write (r : Rel K ι F rs H M) {i : Nat} {a : Addr} {u v : DO} {o : HO} (hM : M[i]? = some u) (hi : ι[i]? = some a) (hu : u.live = true) (ho : RepO K ι F (upd H a o) a v) : Rel K ι F rs (upd H a o) (M.set i v) where
  len := by rw [List.length_set]; exact r.len
  sub := fun b x e => by
    have hb : b ≠ a := fun q => by
      rw [q, (r.obj i u a hM hi hu).1] at e
      cases e
    rw [upd_ne hb]; exact r.sub _ _ e
  obj := fun j x c h1 h2 h3 => by
    by_cases hj : i = j
    · subst hj
      rw [hi] at h2
      cases h2
      have hl : i < M.length := (List.getElem?_eq_some_iff.mp hM).1
      rw [List.getElem?_set_self hl] at h1
      cases h1
      exact ⟨(r.obj i u a hM hi hu).1, ho⟩
    · rw [List.getElem?_set_ne hj] at h1
      obtain ⟨f0, ro⟩ := r.obj j x c h1 h2 h3
      have hc : c ≠ a := fun q => hj (r.inj i j a hi (by rw [← q]; exact h2))
      exact ⟨f0, ro.at (upd_ne hc)⟩
  inj := r.inj
  there := fun j c e => by
    by_cases hc : c = a
    · exact ⟨o, by rw [hc, upd_same]⟩
    · obtain ⟨x, hx⟩ := r.there j c e
      exact ⟨x, by rw [upd_ne hc]; exact hx⟩
  rsv := fun q hq => by
    obtain ⟨r1, r2, r3⟩ := r.rsv q hq
    have ne : q.1 ≠ a := fun z => r3 i (by rw [z]; exact hi)
    exact ⟨by rw [upd_ne ne]; exact r1, r2, r3⟩
/-- an object that may change is known from now on as it stands -/
theorem Rel.freeze (r : Rel K ι F rs H M) {i : Nat} {a : Addr} {u : DO} {o : HO} (hM : M[i]? = some u) (hi : ι[i]? = some a) (hu : u.live = true) (ho : H a = some o) : Rel K ι (upd F a o) rs H (M.set i .dead) where
  len := by rw [List.length_set]; exact r.len
  sub := fun b x e => by
    by_cases hb : b = a
    · rw [hb, upd_same] at e
      rw [hb, ho, e]
    · rw [upd_ne hb] at e
      exact r.sub _ _ e
  obj := fun j x c h1 h2 h3 => by
    by_cases hj : i = j
    · subst hj
      have hl : i < M.length := (List.getElem?_eq_some_iff.mp hM).1
      rw [List.getElem?_set_self hl] at h1
      cases h1
      cases h3
    · rw [List.getElem?_set_ne hj] at h1
      obtain ⟨f0, ro⟩ := r.obj j x c h1 h2 h3
      have hc : c ≠ a := fun q => hj (r.inj i j a hi (by rw [← q]; exact h2))
      exact ⟨by rw [upd_ne hc]; exact f0, ro.le (Le.new (r.obj i u a hM hi hu).1)⟩
  inj := r.inj
  there := r.there
  rsv := fun q hq => by
    obtain ⟨r1, r2, r3⟩ := r.rsv q hq
    have ne : q.1 ≠ a := fun z => r3 i (by rw [z]; exact hi)
    exact ⟨r1, by rw [upd_ne ne]; exact r2, r3⟩
/-! ### what follows -/
def Post {α β : Type} (K : KX) (rs : List (Addr × HO)) (rep : List Addr → Hp → α → β → Prop) (ι : List Addr) (F : Hp) (W : Value → Option Addr → Hp → Prop) (Q : β → Hp → Prop) : R α → Prop
  | .ok a M' => ∀ ι' F' H' v, Le K ι F ι' F' → Rel K ι' F' rs H' M' → rep ι' F' a v → Q v H'
  | .er x M' => ∀ ι' F' H' cls dx, Le K ι F ι' F' → Rel K ι' F' rs H' M' → RepX K ι' F' x cls dx → W cls dx H'
  | .bad => False
theorem Post.le {α β : Type} {rep : List Addr → Hp → α → β → Prop} {W : Value → Option Addr → Hp → Prop} {Q : β → Hp → Prop} {r : R α} (e : Le K ι F ι' F') (h : Post K rs rep ι F W Q r) : Post K rs rep ι' F' W Q r := by
  cases r with
  | ok a M' => exact fun ι2 F2 H2 v l => h ι2 F2 H2 v (e.trans l)
  | er x M' => exact fun ι2 F2 H2 c d l => h ι2 F2 H2 c d (e.trans l)
  | bad => exact h
abbrev repD (K : KX) : List Addr → Hp → D → V → Prop := fun ι F d v => Rep K ι F d v
abbrev repA (K : KX) : List Addr → Hp → List D → List V → Prop := fun ι F d v => RepL K ι F d v
abbrev repB : List Addr → Hp → Bool → Bool → Prop := fun _ _ a b => b = a
abbrev DS := List (Option D)
abbrev Sem1 (α : Type) := DS → Mem → R α
/-- the reading of a semantics -/
def LG {α β : Type} (K : KX) (rs : List (Addr × HO)) (rep : List Addr → Hp → α → β → Prop) (W : WX) (φ : Sem1 α) : St → Hp → (β → Hp → Prop) → Prop := fun σ H Q =>
  ∃ ι F s M, Rel K ι F rs H M ∧ RepS K ι F s σ ∧ Post K rs rep ι F (fun c d => W c d σ) Q (φ s M)
abbrev LE (K : KX) (rs : List (Addr × HO)) (W : WX) (φ : Sem1 D) : TE := LG K rs (repD K) W φ
abbrev LA (K : KX) (rs : List (Addr × HO)) (W : WX) (φ : Sem1 (List D)) : TA := LG K rs (repA K) W φ
abbrev LT (K : KX) (rs : List (Addr × HO)) (W : WX) (φ : Sem1 Bool) : TT := LG K rs repB W φ
/-- first this, then that -/
theorem LG.bind {α β γ δ : Type} {rep : List Addr → Hp → α → β → Prop} {rep2 : List Addr → Hp → γ → δ → Prop} {W : WX} {φ : Sem1 α} {f : α → Sem1 γ} {σ : St} {Q : δ → Hp → Prop}
    (h : LG K rs rep2 W (fun s M => (φ s M).bind fun a M1 => f a s M1) σ H Q) : LG K rs rep W φ σ H fun v H1 => ∃ ι F s M a, Rel K ι F rs H1 M ∧ RepS K ι F s σ ∧ rep ι F a v ∧ Post K rs rep2 ι F (fun c d => W c d σ) Q (f a s M) := by
  obtain ⟨ι, F, s, M, r, rs, p⟩ := h
  refine ⟨ι, F, s, M, r, rs, ?_⟩
  dsimp only at p
  cases e : φ s M with
  | ok a M1 =>
    rw [e] at p
    exact fun ι1 F1 H1 v l r1 ra => ⟨ι1, F1, s, M1, a, r1, rs.le l, ra, p.le l⟩
  | er x M1 =>
    rw [e] at p
    exact p
  | bad =>
    rw [e] at p
    exact p
theorem LG.imp {α β : Type} {rep : List Addr → Hp → α → β → Prop} {W : WX} {φ : Sem1 α} {σ : St} {Q Q' : β → Hp → Prop} (h : LG K rs rep W φ σ H Q) (hq : ∀ v H', Q v H' → Q' v H') : LG K rs rep W φ σ H Q' := by
  obtain ⟨ι, F, s, M, r, rs, p⟩ := h
  refine ⟨ι, F, s, M, r, rs, ?_⟩
  cases e : φ s M with
  | ok a M1 =>
    rw [e] at p
    exact fun ι1 F1 H1 v l r1 ra => hq _ _ (p ι1 F1 H1 v l r1 ra)
  | er x M1 =>
    rw [e] at p
    exact p
  | bad =>
    rw [e] at p
    exact p
end
end LD
namespace LD
open PySem PySem.Spec PyProof.Rows L2

/-! ### plain functions on values -/
abbrev O1 := D → Mem → Option (D × Mem)
abbrev O2 := D → D → Mem → Option (D × Mem)
def LINE : Nat := 16777216
def lsOf (M : Mem) : D → Option (List D)
  | .lst xs => some xs
  | .ref i => match M[i]? with
    | some (.lst xs) => some xs
    | _ => none
  | _ => none
def dcOf (M : Mem) : D → Option (List (Key × D))
  | .dic ks vs => if ks.length = vs.length then some (ks.zip vs) else none
  | .ref i => match M[i]? with
    | some (.dic kvs) => some kvs
    | _ => none
  | _ => none
def truD (M : Mem) : D → Option Bool
  | .non => some false
  | .bl b => some b
  | .int i => some (i != 0)
  | .str x => if x.length ≤ LINE then some ((x.length : Int) != 0) else none
  | .lst xs => some (!xs.isEmpty)
  | .tup xs => some (!xs.isEmpty)
  | .dic ks _ => none
  | .ref i => match M[i]? with
    | some (.lst xs) => some (!xs.isEmpty)
    | some (.dic kvs) => some (!kvs.isEmpty)
    | _ => none
  | _ => none
mutual
def pyD : D → Option PyData
  | .non => some .none
  | .bl b => some (.bool b)
  | .int i => some (.int i)
  | .str x => some (.str x)
  | .lst xs => (pyL xs).map .list
  | .tup xs => (pyL xs).map .tuple
  | _ => none
def pyL : List D → Option (List PyData)
  | [] => some []
  | d :: ds => (pyD d).bind fun p => (pyL ds).map fun ps => p :: ps
end
def pyOf (M : Mem) (d : D) : Option PyData := match d with
  | .ref i => match M[i]? with
    | some (.lst xs) => (pyL xs).map .list
    | _ => none
  | d => pyD d
def isF : D → Bool
  | .non => true | .bl _ => true | .int _ => true | .str _ => true | _ => false
def eqF : D → D → Bool
  | .non, .non => true
  | .bl a, .bl b => a == b
  | .bl a, .int b => (if a then 1 else 0) == b
  | .int a, .bl b => a == (if b then 1 else 0)
  | .int a, .int b => a == b
  | .str a, .str b => a == b
  | _, _ => false
def eqD (M : Mem) (x y : D) : Option Bool :=
  if isF x && isF y then some (eqF x y)
  else (pyOf M x).bind fun p => (pyOf M y).bind fun q => if SeqAt.shaped p && SeqAt.shaped q then some (PyData.eqv p q) else none
def keyOf : D → Option Key
  | .int i => some (.inl i)
  | .str x => some (.inr x)
  | _ => none
def getK {α : Type} (kvs : List (Key × α)) (k : Key) : Option α := (kvs.find? fun kv => decide (kv.1 = k)).map (·.2)
def inD (M : Mem) (x y : D) : Option Bool :=
  match dcOf M y with
  | some kvs => (keyOf x).map fun k => (getK kvs k).isSome
  | none => match y with
    | .str b => match x with
      | .str a => some (!(Builtin.Str.occurrences b a 0 b.length 1).isEmpty)
      | _ => none
    | .tup xs => if isF x && xs.all isF then some (xs.any fun z => eqF z x) else none
    | y => match lsOf M y with
      | some xs => if isF x && xs.all isF then some (xs.any fun z => eqF z x)
        else (pyOf M x).bind fun p => (pyL xs).bind fun ps => if SeqAt.shaped p && SeqAt.shaped (.list ps) then some (ps.any fun z => PyData.eqv z p) else none
      | none => none
/-! ### readings of operators -/
def RO1 (K : KX) (rs : List (Addr × HO)) (g : O1) : V → Hp → VK → Prop := fun v H Q => ∃ ι F M x z M', Rel K ι F rs H M ∧ Rep K ι F x v ∧ g x M = some (z, M') ∧ ∀ ι' F' H' u, Le K ι F ι' F' → Rel K ι' F' rs H' M' → Rep K ι' F' z u → Q u H'
def RO2 (K : KX) (rs : List (Addr × HO)) (g : O2) : R2 := fun v w H Q => ∃ ι F M x y z M', Rel K ι F rs H M ∧ Rep K ι F x v ∧ Rep K ι F y w ∧ g x y M = some (z, M') ∧ ∀ ι' F' H' u, Le K ι F ι' F' → Rel K ι' F' rs H' M' → Rep K ι' F' z u → Q u H'

section
variable {K : KX} {ι ι' : List Addr} {F F' H H' : Hp} {M M' : Mem} {d x y : D} {v w : V} {rs : List (Addr × HO)}
theorem rd_sub (r : Rel K ι F rs H M) {a : Addr} {u : HO} (h : Rd F a u) : Rd H a u := by
  rcases h with h | ⟨o, h⟩
  · exact .inl (r.sub _ _ h)
  · exact .inr ⟨o, r.sub _ _ h⟩
theorem sql_sub (r : Rel K ι F rs H M) {a : Addr} {xs : List V} (h : SqL K.fr F a xs) : SqL K.fr H a xs := by
  rcases h with h | h
  · exact .inl (rd_sub r h)
  · exact .inr h
theorem sqt_sub (r : Rel K ι F rs H M) {a : Addr} {xs : List V} (h : SqT K.fr F a xs) : SqT K.fr H a xs := by
  rcases h with h | h
  · exact .inl (rd_sub r h)
  · exact .inr h
theorem lsOf_at {xs : List D} (r : Rel K ι F rs H M) (e : lsOf M d = some xs) (h : Rep K ι F d v) : ∃ a vs, v = .ref a ∧ SqL K.fr H a vs ∧ RepL K ι F xs vs := by
  cases d with
  | lst ys =>
    have q : ys = xs := Option.some.inj e
    subst q
    obtain ⟨a, vs, e1, h1, h2⟩ := h
    exact ⟨a, vs, e1, sql_sub r h1, h2⟩
  | ref i =>
    obtain ⟨a, e1, h1⟩ := h
    simp only [lsOf] at e
    split at e
    · rename_i ys hM
      cases e
      obtain ⟨_, vs, h2, h3⟩ := r.obj i _ a hM h1 rfl
      exact ⟨a, vs, e1, .inl (.inl h2), h3⟩
    · cases e
  | _ => cases e
theorem dcOf_at {kvs : List (Key × D)} (r : Rel K ι F rs H M) (e : dcOf M d = some kvs) (h : Rep K ι F d v) : ∃ a vs, v = .ref a ∧ Rd H a (.dK vs) ∧ vs.map (·.1) = kvs.map (·.1) ∧ RepL K ι F (kvs.map (·.2)) (vs.map (·.2)) := by
  cases d with
  | dic ks ds =>
    simp only [dcOf] at e
    split at e
    · rename_i hl
      cases e
      obtain ⟨a, vs, e1, h1, h2, h3⟩ := h
      refine ⟨a, vs, e1, rd_sub r h1, ?_, ?_⟩
      · rw [h2, List.map_fst_zip (Nat.le_of_eq hl)]
      · rw [List.map_snd_zip (Nat.le_of_eq hl.symm)]; exact h3
    · cases e
  | ref i =>
    obtain ⟨a, e1, h1⟩ := h
    simp only [dcOf] at e
    split at e
    · rename_i ys hM
      cases e
      obtain ⟨_, vs, h2, h3, h4⟩ := r.obj i _ a hM h1 rfl
      exact ⟨a, vs, e1, .inl h2, h3, h4⟩
    · cases e
  | _ => cases e
theorem valV_rep {k : Key} : ∀ {kvs : List (Key × D)} {vs : List (Key × V)}, vs.map (·.1) = kvs.map (·.1) → RepL K ι F (kvs.map (·.2)) (vs.map (·.2)) →
    match getK kvs k with
    | some d => ∃ u, valV vs k = some u ∧ Rep K ι F d u
    | none => valV vs k = none
  | [], [], _, _ => rfl
  | [], _ :: _, e, _ => by cases e
  | _ :: _, [], e, _ => by cases e
  | (k1, d1) :: kvs, (k2, v2) :: vs, e, h => by
    obtain ⟨v, r, e1, h1, h2⟩ := h
    have e' : k2 = k1 ∧ vs.map (·.1) = kvs.map (·.1) := List.cons.inj e
    obtain ⟨rfl, e2⟩ := e'
    have e3 : v2 = v ∧ vs.map (·.2) = r := List.cons.inj e1
    obtain ⟨rfl, rfl⟩ := e3
    unfold getK valV
    by_cases hk : k2 = k
    · rw [List.find?_cons_of_pos (by simpa using hk), List.find?_cons_of_pos (by simpa using hk)]
      exact ⟨v2, rfl, h1⟩
    · rw [List.find?_cons_of_neg (by simpa using hk), List.find?_cons_of_neg (by simpa using hk)]
      exact valV_rep e2 h2
theorem rep_flat (hf : isF d = true) (h : Rep K ι F d v) : flatV v = true ∧ ∀ {e : D} {w : V}, isF e = true → Rep K ι F e w → eqV v w = eqF d e := by
  cases d with
  | non =>
    cases h
    refine ⟨rfl, fun {e w} he hw => ?_⟩
    cases e <;> first | (cases hw; rfl) | cases he
  | bl b =>
    cases h
    refine ⟨rfl, fun {e w} he hw => ?_⟩
    cases e <;> first | (cases hw; rfl) | cases he
  | int b =>
    cases h
    refine ⟨rfl, fun {e w} he hw => ?_⟩
    cases e <;> first | (cases hw; rfl) | cases he
  | str b =>
    cases h
    refine ⟨rfl, fun {e w} he hw => ?_⟩
    cases e <;> first | (cases hw; rfl) | cases he
  | _ => cases hf
theorem rep_flats : ∀ {ds : List D} {vs : List V}, ds.all isF = true → RepL K ι F ds vs → vs.all flatV = true ∧ ∀ {e : D} {w : V}, isF e = true → Rep K ι F e w → inV w vs = ds.any fun z => eqF z e
  | [], vs, _, h => by
    have e : vs = [] := h
    rw [e]
    exact ⟨rfl, fun _ _ => rfl⟩
  | d :: ds, vs, hf, h => by
    obtain ⟨v, r, e1, h1, h2⟩ := h
    rw [List.all_cons, Bool.and_eq_true] at hf
    obtain ⟨a1, a2⟩ := rep_flat hf.1 h1
    obtain ⟨b1, b2⟩ := rep_flats hf.2 h2
    subst e1
    refine ⟨by rw [List.all_cons, a1, b1] <;> rfl, fun {e w} he hw => ?_⟩
    unfold inV at b2 ⊢
    rw [List.any_cons, List.any_cons, a2 he hw, b2 he hw]
mutual
theorem pyD_dp (r : Rel K ι F rs H M) : ∀ (d : D) (p : PyData) (v : V), pyD d = some p → Rep K ι F d v → Dp K.fr H v p
  | .non, p, v, e, h => by
    have e' : PyData.none = p := Option.some.inj (by simpa only [pyD] using e)
    cases h; subst e'; exact .non
  | .bl b, p, v, e, h => by
    have e' : PyData.bool b = p := Option.some.inj (by simpa only [pyD] using e)
    cases h; subst e'; exact .bl b
  | .int b, p, v, e, h => by
    have e' : PyData.int b = p := Option.some.inj (by simpa only [pyD] using e)
    cases h; subst e'; exact .int b
  | .str b, p, v, e, h => by
    have e' : PyData.str b = p := Option.some.inj (by simpa only [pyD] using e)
    cases h; subst e'; exact .str b
  | .lst xs, p, v, e, h => by
    rw [pyD] at e
    obtain ⟨ps, h1, rfl⟩ := Option.map_eq_some_iff.mp e
    obtain ⟨a, vs, rfl, h2, h3⟩ := h
    exact .lst (sql_sub r h2) (pyL_dp r xs ps vs h1 h3)
  | .tup xs, p, v, e, h => by
    rw [pyD] at e
    obtain ⟨ps, h1, rfl⟩ := Option.map_eq_some_iff.mp e
    obtain ⟨a, vs, rfl, h2, h3⟩ := h
    exact .tup (sqt_sub r h2) (pyL_dp r xs ps vs h1 h3)
  | .ty _, p, v, e, h => by rw [pyD] at e <;> first | cases e | (intros; intro q; cases q)
  | .dic _ _, p, v, e, h => by rw [pyD] at e <;> first | cases e | (intros; intro q; cases q)
  | .ref _, p, v, e, h => by rw [pyD] at e <;> first | cases e | (intros; intro q; cases q)
  | .glb _, p, v, e, h => by rw [pyD] at e <;> first | cases e | (intros; intro q; cases q)
theorem pyL_dp (r : Rel K ι F rs H M) : ∀ (ds : List D) (ps : List PyData) (vs : List V), pyL ds = some ps → RepL K ι F ds vs → DpAll K.fr H vs ps
  | [], ps, vs, e, h => by
    have e' : [] = ps := Option.some.inj (by simpa only [pyL] using e)
    have e2 : vs = [] := h
    subst e'; subst e2; exact .nil
  | d :: ds, ps, vs, e, h => by
    rw [pyL] at e
    obtain ⟨p, h1, e⟩ := Option.bind_eq_some_iff.mp e
    obtain ⟨qs, h2, rfl⟩ := Option.map_eq_some_iff.mp e
    obtain ⟨v, us, rfl, h3, h4⟩ := h
    exact .cons (pyD_dp r d p v h1 h3) (pyL_dp r ds qs us h2 h4)
end
theorem pyOf_dp {p : PyData} (r : Rel K ι F rs H M) (e : pyOf M d = some p) (h : Rep K ι F d v) : Dp K.fr H v p := by
  unfold pyOf at e
  split at e
  · rename_i i
    obtain ⟨a, rfl, h1⟩ := h
    split at e
    · rename_i xs hM
      obtain ⟨ps, h2, rfl⟩ := Option.map_eq_some_iff.mp e
      obtain ⟨_, vs, h3, h4⟩ := r.obj i _ a hM h1 rfl
      exact .lst (.inl (.inl h3)) (pyL_dp r _ _ _ h2 h4)
    · cases e
  · exact pyD_dp r _ _ _ e h
end
end LD
namespace LD
open PySem PySem.Spec PyProof.Rows L2

def ofO {α : Type} : Option (α × Mem) → R α
  | some (a, M) => .ok a M
  | none => .bad
theorem Post.step {α β γ δ : Type} {K : KX} {rs : List (Addr × HO)} {rep : List Addr → Hp → α → β → Prop} {rep2 : List Addr → Hp → γ → δ → Prop} {ι : List Addr} {F : Hp} {W : Value → Option Addr → Hp → Prop} {Q : δ → Hp → Prop} {Q' : β → Hp → Prop} {r : R α} {f : α → Mem → R γ}
    (h : Post K rs rep2 ι F W Q (r.bind f)) (k : ∀ v H' ι' F' M' a, Le K ι F ι' F' → Rel K ι' F' rs H' M' → rep ι' F' a v → Post K rs rep2 ι' F' W Q (f a M') → Q' v H') : Post K rs rep ι F W Q' r := by
  cases r with
  | ok a M1 => exact fun ι1 F1 H1 v l r1 ra => k v H1 ι1 F1 M1 a l r1 ra (Post.le l h)
  | er x M1 => exact h
  | bad => exact h
theorem Post.stepE {α β γ δ : Type} {K : KX} {rs : List (Addr × HO)} {rep : List Addr → Hp → α → β → Prop} {rep2 : List Addr → Hp → γ → δ → Prop} {ι : List Addr} {F : Hp} {W : Value → Option Addr → Hp → Prop} {Q : δ → Hp → Prop} {Q' : β → Hp → Prop} {r : R α} {f : α → Mem → R γ}
    (h : Post K rs rep2 ι F W Q (r.bind f)) (k : ∀ v H' ι' F' M' a, r = .ok a M' → Le K ι F ι' F' → Rel K ι' F' rs H' M' → rep ι' F' a v → Post K rs rep2 ι' F' W Q (f a M') → Q' v H') : Post K rs rep ι F W Q' r := by
  cases r with
  | ok a M1 => exact fun ι1 F1 H1 v l r1 ra => k v H1 ι1 F1 M1 a rfl l r1 ra (Post.le l h)
  | er x M1 => exact h
  | bad => exact h
theorem Post.fin {α β : Type} {K : KX} {rs : List (Addr × HO)} {rep : List Addr → Hp → α → β → Prop} {ι : List Addr} {F H : Hp} {W : Value → Option Addr → Hp → Prop} {Q : β → Hp → Prop} {a : α} {M : Mem} {v : β} (h : Post K rs rep ι F W Q (.ok a M)) (r : Rel K ι F rs H M) (q : rep ι F a v) : Q v H := h ι F H v Le.refl r q

abbrev kx (X : Cx) (T : Tab) : KX := ⟨X.K, T⟩
def KE (X : Cx) (T : Tab) (W : WX) (e : Expr) (φ : Sem1 D) : Prop := ∀ rs, PE X e (LE (kx X T) rs W φ)
def KT (X : Cx) (T : Tab) (W : WX) (e : Expr) (φ : Sem1 Bool) : Prop := ∀ rs, PT X e (LT (kx X T) rs W φ)
def KWt (X : Cx) (T : Tab) (W : WX) (e : Expr) (φ : Sem1 Bool) : Prop := ∀ rs, PW X e (LT (kx X T) rs W φ)
/-- the lists that it gives have this length -/
def AL (φ : Sem1 (List D)) (n : Nat) : Prop := ∀ s M xs M', φ s M = .ok xs M' → xs.length = n
structure KA (X : Cx) (T : Tab) (W : WX) (es : List Expr) (φ : Sem1 (List D)) : Prop where
  pa : ∀ rs, PA X es (LA (kx X T) rs W φ)
  al : AL φ es.length
theorem PE.imp {X : Cx} {e : Expr} {t t' : TE} (h : PE X e t) (i : ∀ σ H Q, t' σ H Q → t σ H Q) : PE X e t' := ⟨fun pins s σ H Q I q => h.run pins s σ H Q I (i σ H Q q)⟩
theorem PT.imp {X : Cx} {e : Expr} {t t' : TT} (h : PT X e t) (i : ∀ σ H Q, t' σ H Q → t σ H Q) : PT X e t' := ⟨fun pins s σ H Q I q => h.run pins s σ H Q I (i σ H Q q)⟩
theorem PW.imp {X : Cx} {e : Expr} {t t' : TT} (h : PW X e t) (i : ∀ σ H Q, t' σ H Q → t σ H Q) : PW X e t' := ⟨fun w pins s σ H Q I q => h.run w pins s σ H Q I (i σ H Q q)⟩
theorem PA.imp {X : Cx} {e : List Expr} {t t' : TA} (h : PA X e t) (i : ∀ σ H Q, t' σ H Q → t σ H Q) : PA X e t' := ⟨fun p pins s σ H Q I q => h.run p pins s σ H Q I (i σ H Q q)⟩
theorem PS.imp {X : Cx} {e : Stmt} {t t' : TS} (h : PS X e t) (i : ∀ D σ H, t' D σ H → t D σ H) : PS X e t' := ⟨fun pins s σ H Q I q => h.run pins s σ H Q I (i Q σ H q)⟩
theorem PSs.imp {X : Cx} {e : List Stmt} {t t' : TS} (h : PSs X e t) (i : ∀ D σ H, t' D σ H → t D σ H) : PSs X e t' := ⟨fun pins s σ H Q I q => h.run pins s σ H Q I (i Q σ H q)⟩

/-! ### the semantics of expressions -/
def eC (d : D) : Sem1 D := fun _ M => .ok d M
def eVar (i : Nat) : Sem1 D := fun s M => match s[i]? with
  | some (some d) => .ok d M
  | _ => .bad
def eBin (g : O2) (a b : Sem1 D) : Sem1 D := fun s M => (a s M).bind fun x M1 => (b s M1).bind fun y M2 => ofO (g x y M2)
def eUn (g : O1) (a : Sem1 D) : Sem1 D := fun s M => (a s M).bind fun x M1 => ofO (g x M1)
def eOf (t : Sem1 Bool) : Sem1 D := fun s M => (t s M).bind fun b M1 => .ok (.bl b) M1
def tOf (a : Sem1 D) : Sem1 Bool := fun s M => (a s M).bind fun x M1 => match truD M1 x with
  | some b => .ok b M1
  | none => .bad
def tCmp (g : O2) (a b : Sem1 D) : Sem1 Bool := fun s M => (eBin g a b s M).bind fun z M1 => match z with
  | .bl k => .ok k M1
  | _ => .bad
def tAnd (a b : Sem1 Bool) : Sem1 Bool := fun s M => (a s M).bind fun k M1 => if k then b s M1 else .ok false M1
def tOr (a b : Sem1 Bool) : Sem1 Bool := fun s M => (a s M).bind fun k M1 => if k then .ok true M1 else b s M1
def tNot (a : Sem1 Bool) : Sem1 Bool := fun s M => (a s M).bind fun k M1 => .ok (!k) M1
def eAnd (a b : Sem1 D) : Sem1 D := fun s M => (a s M).bind fun x M1 => match truD M1 x with
  | some k => if k then b s M1 else .ok x M1
  | none => .bad
def eOr (a b : Sem1 D) : Sem1 D := fun s M => (a s M).bind fun x M1 => match truD M1 x with
  | some k => if k then .ok x M1 else b s M1
  | none => .bad
def eNot (a : Sem1 D) : Sem1 D := fun s M => (a s M).bind fun x M1 => match truD M1 x with
  | some k => .ok (.bl (!k)) M1
  | none => .bad
def eIf (t : Sem1 Bool) (a b : Sem1 D) : Sem1 D := fun s M => (t s M).bind fun k M1 => if k then a s M1 else b s M1
def aNil : Sem1 (List D) := fun _ M => .ok [] M
def aCons (a : Sem1 D) (r : Sem1 (List D)) : Sem1 (List D) := fun s M => (a s M).bind fun x M1 => (r s M1).bind fun xs M2 => .ok (x :: xs) M2
def eTup (a : Sem1 (List D)) : Sem1 D := fun s M => (a s M).bind fun xs M1 => if xs.length ≤ LINE then .ok (.tup xs) M1 else .bad
/-- a new list: one that will not change, or one that may -/
def eLst (mu : Bool) (a : Sem1 (List D)) : Sem1 D := fun s M => (a s M).bind fun xs M1 => if xs.length ≤ LINE then (if mu then .ok (.ref M1.length) (M1 ++ [.lst xs]) else .ok (.lst xs) M1) else .bad
def eChain (g g' : O2) (a b c : Sem1 D) : Sem1 D := fun s M => (a s M).bind fun x M1 => (b s M1).bind fun y M2 => (ofO (g x y M2)).bind fun z M3 => match z with
  | .bl true => (c s M3).bind fun w M4 => ofO (g' y w M4)
  | .bl false => .ok (.bl false) M3
  | _ => .bad

section
variable {X : Cx} {T : Tab} {W : WX} {a b c : Expr} {rest : List Expr} {pos : Pos} {φ ψ χ : Sem1 D} {τ υ : Sem1 Bool}
theorem line_eq : LINE = sizeLine := by rw [sizeLine_eq] <;> rfl
theorem d_c_int {i : Int} {j : Nat} : KE X T W (.Constant (.int i) j pos) (eC (.int i)) := fun rs => PE.imp pe_int fun σ H Q h => by
  obtain ⟨ι, F, s, M, r, rS, p⟩ := h
  exact p.fin r rfl
theorem d_c_str {i : Str} {j : Nat} : KE X T W (.Constant (.str i) j pos) (eC (.str i)) := fun rs => PE.imp pe_str fun σ H Q h => by
  obtain ⟨ι, F, s, M, r, rS, p⟩ := h
  exact p.fin r rfl
theorem d_c_bl {i : Bool} {j : Nat} : KE X T W (.Constant (.bool i) j pos) (eC (.bl i)) := fun rs => PE.imp pe_bl fun σ H Q h => by
  obtain ⟨ι, F, s, M, r, rS, p⟩ := h
  exact p.fin r rfl
theorem d_c_non {j : Nat} : KE X T W (.Constant .none j pos) (eC .non) := fun rs => PE.imp pe_non fun σ H Q h => by
  obtain ⟨ι, F, s, M, r, rS, p⟩ := h
  exact p.fin r rfl
theorem d_var {i : Nat} {x : Str} (hN : X.N[i]? = some x) (hv : Vis X.env.scope x) (hd : (x == ("__debug__" : Str)) = false) (hcd : (x == ("__classdict__" : Str)) = false) : KE X T W (.Name x pos) (eVar i) := fun rs => PE.imp (pe_var hN hv hd hcd) fun σ H Q h => by
  obtain ⟨ι, F, s, M, r, rS, p⟩ := h
  unfold eVar at p
  split at p
  · rename_i d e
    obtain ⟨v, h1, h2⟩ := rS.2 i d e
    exact ⟨v, h1, p.fin r h2⟩
  · exact p.elim
/-- a name of the module whose value is known -/
theorem d_glob {x : Str} {v : V} {u : Value} {d : D} (hg : Gl X x) (hm : X.mg x = some u) (rv : RelV v u) (hd : (x == ("__debug__" : Str)) = false) (hr : ∀ ι F, Rep (kx X T) ι F d v) : KE X T W (.Name x pos) (eC d) := fun rs => PE.imp (pe_glob hg hm rv hd) fun σ H Q h => by
  obtain ⟨ι, F, s, M, r, rS, p⟩ := h
  exact p.fin r (hr ι F)
theorem ro2 {σ : L2.St} {H : Hp} {Q : VK} {g : O2} {x y : D} {v w : V} {ι : List Addr} {F : Hp} {M : Mem} {K : KX} {rs : List (Addr × HO)} {W' : Value → Option Addr → Hp → Prop} (r : Rel K ι F rs H M) (h1 : Rep K ι F x v) (h2 : Rep K ι F y w) (p : Post K rs (repD K) ι F W' Q (ofO (g x y M))) : RO2 K rs g v w H Q := by
  cases e : g x y M with
  | none => rw [e] at p; exact p.elim
  | some z =>
    obtain ⟨z, M'⟩ := z
    rw [e] at p
    exact ⟨ι, F, M, x, y, z, M', r, h1, h2, e, p⟩
theorem ro1 {σ : L2.St} {H : Hp} {Q : VK} {g : O1} {x : D} {v : V} {ι : List Addr} {F : Hp} {M : Mem} {K : KX} {rs : List (Addr × HO)} {W' : Value → Option Addr → Hp → Prop} (r : Rel K ι F rs H M) (h1 : Rep K ι F x v) (p : Post K rs (repD K) ι F W' Q (ofO (g x M))) : RO1 K rs g v H Q := by
  cases e : g x M with
  | none => rw [e] at p; exact p.elim
  | some z =>
    obtain ⟨z, M'⟩ := z
    rw [e] at p
    exact ⟨ι, F, M, x, z, M', r, h1, e, p⟩
theorem lg_op {rs : List (Addr × HO)} {g : O2} {σ : L2.St} {H : Hp} {Q : VK} (h : LE (kx X T) rs W (eBin g φ ψ) σ H Q) : tOp (RO2 (kx X T) rs g) (LE (kx X T) rs W φ) (LE (kx X T) rs W ψ) σ H Q := by
  obtain ⟨ι, F, s, M, r, rS, p⟩ := h
  refine ⟨ι, F, s, M, r, rS, p.step fun v H1 ι1 F1 M1 x l1 r1 rv p1 => ?_⟩
  refine ⟨ι1, F1, s, M1, r1, rS.le l1, p1.step fun w H2 ι2 F2 M2 y l2 r2 rw2 p2 => ?_⟩
  exact ro2 (σ := σ) r2 (l2 _ _ rv) rw2 p2
theorem d_bin {op : Operator} {g : O2} (ho : ∀ rs, OpR X (binaryOp op) (RO2 (kx X T) rs g)) (ha : KE X T W a φ) (hb : KE X T W b ψ) : KE X T W (.BinOp a op b pos) (eBin g φ ψ) := fun rs => PE.imp (pe_op (ho rs) (ha rs) (hb rs)) fun _ _ _ h => lg_op h
theorem d_un {op : UnaryOp} {g : O1} (ho : ∀ rs, UnR X (unaryOp op) (RO1 (kx X T) rs g)) (ha : KE X T W a φ) : KE X T W (.UnaryOp op a pos) (eUn g φ) := fun rs => PE.imp (pe_un (ho rs) (ha rs)) fun σ H Q h => by
  obtain ⟨ι, F, s, M, r, rS, p⟩ := h
  exact ⟨ι, F, s, M, r, rS, p.step fun v H1 ι1 F1 M1 x l1 r1 rv p1 => ro1 (σ := σ) r1 rv p1⟩
theorem d_cmp {op : CmpOp} {g : O2} (ho : ∀ rs, OpR X (compareOp op) (RO2 (kx X T) rs g)) (ha : KE X T W a φ) (hb : KE X T W b ψ) (hm : behindInMarks op b = false) : KE X T W (.Compare a [op] [b] pos) (eBin g φ ψ) := fun rs => PE.imp (pe_cmpR (ho rs) (ha rs) (hb rs) hm) fun _ _ _ h => lg_op h
theorem t_cmp {op : CmpOp} {g : O2} (ho : ∀ rs, OpR X (compareOp op) (RO2 (kx X T) rs g)) (ha : KE X T W a φ) (hb : KE X T W b ψ) (hm : behindInMarks op b = false) : KT X T W (.Compare a [op] [b] pos) (tCmp g φ ψ) := fun rs => PT.imp (pt_cmpR (ho rs) (ha rs) (hb rs) hm) fun σ H Q h => by
  refine lg_op (rs := rs) (W := W) (φ := φ) (ψ := ψ) (g := g) ?_
  obtain ⟨ι, F, s, M, r, rS, p⟩ := h
  refine ⟨ι, F, s, M, r, rS, p.step fun v H1 ι1 F1 M1 z l1 r1 rv p1 => ?_⟩
  cases z with
  | bl k => exact ⟨k, rv, p1.fin r1 rfl⟩
  | _ => exact p1.elim
theorem d_chain {op op' : CmpOp} {g g' : O2} (ho : ∀ rs, OpR X (compareOp op) (RO2 (kx X T) rs g)) (ho' : ∀ rs, OpR X (compareOp op') (RO2 (kx X T) rs g')) (ha : KE X T W a φ) (hb : KE X T W b ψ) (hc : KE X T W c χ) (hm : lastMarks [op, op'] [b, c] = false) :
    KE X T W (.Compare a [op, op'] [b, c] pos) (eChain g g' φ ψ χ) := fun rs => PE.imp (pe_chain (ho rs) (ho' rs) (ha rs) (hb rs) (hc rs) hm) fun σ H Q h => by
  obtain ⟨ι, F, s, M, r, rS, p⟩ := h
  refine ⟨ι, F, s, M, r, rS, p.step fun v H1 ι1 F1 M1 x l1 r1 rv p1 => ?_⟩
  refine ⟨ι1, F1, s, M1, r1, rS.le l1, p1.step fun w H2 ι2 F2 M2 y l2 r2 rw2 p2 => ?_⟩
  refine ro2 (σ := σ) (W' := fun c d => W c d σ) (g := g) (M := M2) r2 (l2 _ _ rv) rw2 (p2.step fun u H3 ι3 F3 M3 z l3 r3 ru p3 => ?_)
  cases z with
  | bl k =>
    refine ⟨k, ru, ?_⟩
    cases k with
    | true => exact iteT ⟨ι3, F3, s, M3, r3, ((rS.le l1).le l2).le l3, p3.step fun u2 H4 ι4 F4 M4 z2 l4 r4 ru2 p4 => ro2 (σ := σ) r4 (l4 _ _ (l3 _ _ rw2)) ru2 p4⟩
    | false => exact iteF (p3.fin r3 rfl)
  | _ => exact p3.elim
theorem truD_at {M : Mem} {x : D} {v : V} {k : Bool} {ι : List Addr} {F H : Hp} {K : KX} {rs : List (Addr × HO)} (r : Rel K ι F rs H M) (h : Rep K ι F x v) (e : truD M x = some k) : TruV K.fr v H k := by
  have emp : ∀ {ds : List D} {vs : List V}, RepL K ι F ds vs → (!ds.isEmpty) = !vs.isEmpty := fun {ds vs} q => by
    cases ds with
    | nil => have e : vs = [] := q; rw [e] <;> rfl
    | cons d ds => obtain ⟨v, u, e, _⟩ := q; rw [e] <;> rfl
  cases x with
  | non => cases h; exact (Option.some.inj e).symm
  | bl b => cases h; exact (Option.some.inj e).symm
  | int i => cases h; exact (Option.some.inj e).symm
  | str x =>
    cases h
    simp only [truD] at e
    split at e
    · rename_i hl
      exact ⟨by rw [← line_eq]; exact hl, (Option.some.inj e).symm⟩
    · cases e
  | lst xs =>
    obtain ⟨a, vs, rfl, h1, h2⟩ := h
    exact .inl ⟨vs, sql_sub r h1, by rw [← emp h2]; exact (Option.some.inj e).symm⟩
  | tup xs =>
    obtain ⟨a, vs, rfl, h1, h2⟩ := h
    exact .inr (.inl ⟨vs, sqt_sub r h1, by rw [← emp h2]; exact (Option.some.inj e).symm⟩)
  | ref i =>
    obtain ⟨a, rfl, h1⟩ := h
    simp only [truD] at e
    split at e
    · rename_i xs hM
      obtain ⟨_, vs, h2, h3⟩ := r.obj i _ a hM h1 rfl
      exact .inl ⟨vs, .inl (.inl h2), by rw [← emp h3]; exact (Option.some.inj e).symm⟩
    · rename_i kvs hM
      obtain ⟨_, vs, h2, h3, h4⟩ := r.obj i _ a hM h1 rfl
      refine .inr (.inr ⟨vs, h2, ?_⟩)
      have q := congrArg List.isEmpty h3
      cases vs <;> cases kvs <;> first | exact (Option.some.inj e).symm | cases q
    · cases e
  | _ => cases e
theorem t_val (ha : KE X T W a φ) (he : ∀ whole, isTrue a X.env whole = (do let v ← whole; standAt a.pos; holding [v] (truthy v))) : KT X T W a (tOf φ) := fun rs => PT.imp (pt_truth (ha rs) he) fun σ H Q h => by
  obtain ⟨ι, F, s, M, r, rS, p⟩ := h
  refine ⟨ι, F, s, M, r, rS, p.step fun v H1 ι1 F1 M1 x l1 r1 rv p1 => ?_⟩
  cases e : truD M1 x with
  | none => rw [e] at p1; exact p1.elim
  | some k => rw [e] at p1; exact ⟨k, truD_at r1 rv e, p1.fin r1 rfl⟩
theorem t_and1 (ha : KT X T W a τ) : KWt X T W (.BoolOp .And [a] pos) τ := fun rs => pw_and1 (ha rs)
theorem t_or1 (ha : KT X T W a τ) : KWt X T W (.BoolOp .Or [a] pos) τ := fun rs => pw_or1 (ha rs)
theorem t_and (ha : KT X T W a τ) (hb : KWt X T W (.BoolOp .And (b :: rest) pos) υ) : KWt X T W (.BoolOp .And (a :: b :: rest) pos) (tAnd τ υ) := fun rs => PW.imp (pw_and (ha rs) (hb rs)) fun σ H Q h => by
  obtain ⟨ι, F, s, M, r, rS, p⟩ := h
  refine ⟨ι, F, s, M, r, rS, p.step fun v H1 ι1 F1 M1 k l1 r1 rv p1 => ?_⟩
  have rv' : v = k := rv
  subst rv'
  cases v with
  | true => exact iteT ⟨ι1, F1, s, M1, r1, rS.le l1, p1⟩
  | false => exact iteF (p1.fin r1 rfl)
theorem t_or (ha : KT X T W a τ) (hb : KWt X T W (.BoolOp .Or (b :: rest) pos) υ) : KWt X T W (.BoolOp .Or (a :: b :: rest) pos) (tOr τ υ) := fun rs => PW.imp (pw_or (ha rs) (hb rs)) fun σ H Q h => by
  obtain ⟨ι, F, s, M, r, rS, p⟩ := h
  refine ⟨ι, F, s, M, r, rS, p.step fun v H1 ι1 F1 M1 k l1 r1 rv p1 => ?_⟩
  have rv' : v = k := rv
  subst rv'
  cases v with
  | false => exact iteF ⟨ι1, F1, s, M1, r1, rS.le l1, p1⟩
  | true => exact iteT (p1.fin r1 rfl)
theorem t_not (ha : KT X T W a τ) : KT X T W (.UnaryOp .Not a pos) (tNot τ) := fun rs => PT.imp (pt_not (ha rs)) fun σ H Q h => by
  obtain ⟨ι, F, s, M, r, rS, p⟩ := h
  refine ⟨ι, F, s, M, r, rS, p.step fun v H1 ι1 F1 M1 k l1 r1 rv p1 => ?_⟩
  have rv' : v = k := rv
  subst rv'
  exact p1.fin r1 rfl
theorem d_one {op : BoolOp} (h : KE X T W a φ) : KE X T W (.BoolOp op [a] pos) φ := fun rs => pe_one (h rs)
theorem d_and (ha : KE X T W a φ) (hb : KE X T W (.BoolOp .And (b :: rest) pos) ψ) : KE X T W (.BoolOp .And (a :: b :: rest) pos) (eAnd φ ψ) := fun rs => PE.imp (pe_andT (ha rs) (hb rs)) fun σ H Q h => by
  obtain ⟨ι, F, s, M, r, rS, p⟩ := h
  refine ⟨ι, F, s, M, r, rS, p.step fun v H1 ι1 F1 M1 x l1 r1 rv p1 => ?_⟩
  cases e : truD M1 x with
  | none => rw [e] at p1; exact p1.elim
  | some k =>
    rw [e] at p1
    refine ⟨k, truD_at r1 rv e, ?_⟩
    cases k with
    | true => exact iteT ⟨ι1, F1, s, M1, r1, rS.le l1, p1⟩
    | false => exact iteF (p1.fin r1 rv)
theorem d_or (ha : KE X T W a φ) (hb : KE X T W (.BoolOp .Or (b :: rest) pos) ψ) : KE X T W (.BoolOp .Or (a :: b :: rest) pos) (eOr φ ψ) := fun rs => PE.imp (pe_orT (ha rs) (hb rs)) fun σ H Q h => by
  obtain ⟨ι, F, s, M, r, rS, p⟩ := h
  refine ⟨ι, F, s, M, r, rS, p.step fun v H1 ι1 F1 M1 x l1 r1 rv p1 => ?_⟩
  cases e : truD M1 x with
  | none => rw [e] at p1; exact p1.elim
  | some k =>
    rw [e] at p1
    refine ⟨k, truD_at r1 rv e, ?_⟩
    cases k with
    | false => exact iteF ⟨ι1, F1, s, M1, r1, rS.le l1, p1⟩
    | true => exact iteT (p1.fin r1 rv)
theorem d_not (ha : KE X T W a φ) : KE X T W (.UnaryOp .Not a pos) (eNot φ) := fun rs => PE.imp (pe_notT (ha rs)) fun σ H Q h => by
  obtain ⟨ι, F, s, M, r, rS, p⟩ := h
  refine ⟨ι, F, s, M, r, rS, p.step fun v H1 ι1 F1 M1 x l1 r1 rv p1 => ?_⟩
  cases e : truD M1 x with
  | none => rw [e] at p1; exact p1.elim
  | some k =>
    rw [e] at p1
    exact ⟨k, truD_at r1 rv e, p1.fin r1 rfl⟩
theorem d_if (hc : KT X T W c τ) (ha : KE X T W a φ) (hb : KE X T W b ψ) : KE X T W (.IfExp c a b pos) (eIf τ φ ψ) := fun rs => PE.imp (pe_ifExp (hc rs) (ha rs) (hb rs)) fun σ H Q h => by
  obtain ⟨ι, F, s, M, r, rS, p⟩ := h
  refine ⟨ι, F, s, M, r, rS, p.step fun v H1 ι1 F1 M1 k l1 r1 rv p1 => ?_⟩
  have rv' : v = k := rv
  subst rv'
  cases v with
  | true => exact iteT ⟨ι1, F1, s, M1, r1, rS.le l1, p1⟩
  | false => exact iteF ⟨ι1, F1, s, M1, r1, rS.le l1, p1⟩
theorem R.bind_eq_ok {α β : Type} {r : R α} {f : α → Mem → R β} {b : β} {M : Mem} (h : r.bind f = .ok b M) : ∃ a M1, r = .ok a M1 ∧ f a M1 = .ok b M := by
  cases r with
  | ok a M1 => exact ⟨a, M1, rfl, h⟩
  | er x M1 => cases h
  | bad => cases h
theorem al_nil : AL aNil 0 := fun s M xs M' h => by
  cases h; rfl
theorem al_cons {φ : Sem1 D} {α : Sem1 (List D)} {n : Nat} (h : AL α n) : AL (aCons φ α) (n + 1) := fun s M xs M' e => by
  obtain ⟨x, M1, e1, e⟩ := R.bind_eq_ok e
  obtain ⟨ys, M2, e2, e⟩ := R.bind_eq_ok e
  cases e
  rw [List.length_cons, h _ _ _ _ e2]
theorem a_nil : KA X T W [] aNil := ⟨fun rs => PA.imp pa_nil fun σ H Q h => by
  obtain ⟨ι, F, s, M, r, rS, p⟩ := h
  exact p.fin r rfl, al_nil⟩
theorem a_cons {α : Sem1 (List D)} (ha : KE X T W a φ) (hr : KA X T W rest α) (hs : starEach (a :: rest) X.env = (false, eval a X.env) :: starEach rest X.env) : KA X T W (a :: rest) (aCons φ α) := ⟨fun rs => PA.imp (pa_cons (ha rs) (hr.pa rs) hs) fun σ H Q h => by
  obtain ⟨ι, F, s, M, r, rS, p⟩ := h
  refine ⟨ι, F, s, M, r, rS, p.step fun v H1 ι1 F1 M1 x l1 r1 rv p1 => ?_⟩
  refine ⟨ι1, F1, s, M1, r1, rS.le l1, p1.step fun ws H2 ι2 F2 M2 xs l2 r2 rw2 p2 => ?_⟩
  exact p2.fin r2 ⟨v, ws, rfl, l2 _ _ rv, rw2⟩, al_cons hr.al⟩
theorem d_tup {k : Nat} {α : Sem1 (List D)} (h : KA X T W rest α) : KE X T W (.Tuple rest k pos) (eTup α) := fun rs => PE.imp (pe_tup (h.pa rs)) fun σ H Q h => by
  obtain ⟨ι, F, s, M, r, rS, p⟩ := h
  refine ⟨ι, F, s, M, r, rS, p.step fun vs H1 ι1 F1 M1 xs l1 r1 rv p1 => ?_⟩
  have hl : vs.length = xs.length := RepL.length rv
  by_cases hz : xs.length ≤ LINE
  · rw [if_pos hz] at p1
    refine ⟨by rw [hl, ← line_eq]; exact hz, fun q hq => ?_⟩
    exact p1 ι1 (upd F1 q (.tup vs)) _ _ (Le.new (r1.free hq)) (r1.frozen hq) ⟨q, vs, rfl, .inl (.inl upd_same), RepL.le (Le.new (r1.free hq)) rv⟩
  · rw [if_neg hz] at p1; exact p1.elim
theorem newList {mu : Bool} {xs : List D} {vs : List V} {ι : List Addr} {F H : Hp} {M : Mem} {K : KX} {rs : List (Addr × HO)} {Q : VK} {W' : Value → Option Addr → Hp → Prop} (r : Rel K ι F rs H M) (rv : RepL K ι F xs vs)
    (p : Post K rs (repD K) ι F W' Q (if mu then .ok (.ref M.length) (M ++ [.lst xs]) else .ok (.lst xs) M)) : ∀ q, H q = none → Q (.ref q) (upd H q (.lst vs)) := fun q hq => by
  cases mu with
  | true =>
    exact p (ι ++ [q]) F _ _ Le.push (r.fresh hq rfl ⟨vs, upd_same, RepL.le Le.push rv⟩) ⟨q, rfl, by rw [← r.len]; simp⟩
  | false =>
    exact p ι (upd F q (.lst vs)) _ _ (Le.new (r.free hq)) (r.frozen hq) ⟨q, vs, rfl, .inl (.inl upd_same), RepL.le (Le.new (r.free hq)) rv⟩
theorem d_lst {mu : Bool} {α : Sem1 (List D)} (h : KA X T W rest α) : KE X T W (.List rest pos) (eLst mu α) := fun rs => PE.imp (pe_lst (h.pa rs)) fun σ H Q h => by
  obtain ⟨ι, F, s, M, r, rS, p⟩ := h
  refine ⟨ι, F, s, M, r, rS, p.step fun vs H1 ι1 F1 M1 xs l1 r1 rv p1 => ?_⟩
  have hl : vs.length = xs.length := RepL.length rv
  by_cases hz : xs.length ≤ LINE
  · rw [if_pos hz] at p1
    exact ⟨by rw [hl, ← line_eq]; exact hz, newList r1 rv p1⟩
  · rw [if_neg hz] at p1; exact p1.elim
end
end LD
namespace LD
open PySem PySem.Spec PyProof.Rows L2

/-! ### the operators on values -/
def addD : O2 := fun x y M => match x, y with
  | .int i, .int j => some (.int (i + j), M)
  | .str a, .str b => if a.length + b.length ≤ LINE then some (.str (a ++ b), M) else none
  | .tup a, .tup b => if a.length + b.length ≤ LINE then some (.tup (a ++ b), M) else none
  | x, y => match lsOf M x, lsOf M y with
    | some a, some b => if a.length + b.length ≤ LINE then some (.lst (a ++ b), M) else none
    | _, _ => none
def intD (c : Int → Int → Bool) (f : Int → Int → Int) : O2 := fun x y M => match x, y with
  | .int i, .int j => if c i j then some (.int (f i j), M) else none
  | _, _ => none
/-- written so that the kernel stops at a variable -/
def small (i : Int) : Bool := Nat.ble (i.natAbs + 1) 18446744073709551616
theorem small_iff {i : Int} : small i = true ↔ -(2 ^ 64) < i ∧ i < 2 ^ 64 := by
  unfold small
  rw [Nat.ble_eq]
  omega
def subD : O2 := intD (fun _ _ => true) (· - ·)
def mulD : O2 := intD (fun i j => small i || small j) (· * ·)
def fdok (j : Int) : Bool := match j with
  | .ofNat n => Nat.ble 1 n && Nat.ble (n + 1) 1073741824
  | .negSucc _ => false
theorem fdok_iff {j : Int} : fdok j = true ↔ 0 < j ∧ j < 1073741824 := by
  unfold fdok
  cases j with
  | ofNat n =>
    simp only [Bool.and_eq_true, Nat.ble_eq, Int.ofNat_eq_natCast]
    omega
  | negSucc n =>
    simp only [Int.negSucc_eq]
    constructor
    · intro h; cases h
    · intro h; omega
def fdivD : O2 := intD (fun _ j => fdok j) (· / ·)
def modD : O2 := intD (fun _ j => decide (0 < j)) (· % ·)
def powD : O2 := intD (fun i j => decide (0 ≤ j) && decide (j ≤ 1000000) && decide (i.natAbs < 2 ^ 64)) fun i j => i ^ j.toNat
def negD : O1 := fun x M => match x with
  | .int i => some (.int (-i), M)
  | _ => none
def boD (f : Mem → D → D → Option Bool) : O2 := fun x y M => (f M x y).map fun k => (.bl k, M)
def intsOf : List D → Option (List Int)
  | [] => some []
  | .int i :: r => (intsOf r).map fun is => i :: is
  | _ => none
def ltB : Mem → D → D → Option Bool := fun _ x y => match x, y with
  | .int i, .int j => some (decide (i < j))
  | .str a, .str b => some (decide (a.cps.toList < b.cps.toList))
  | .tup xs, .tup ys => (intsOf xs).bind fun ns => (intsOf ys).map fun ms => HT.lexLt ns ms
  | _, _ => none
def leB : Mem → D → D → Option Bool := fun _ x y => match x, y with
  | .int i, .int j => some (decide (i ≤ j))
  | .str a, .str b => some (!decide (b.cps.toList < a.cps.toList))
  | _, _ => none
def gtB : Mem → D → D → Option Bool := fun _ x y => match x, y with
  | .int i, .int j => some (decide (j < i))
  | .str a, .str b => some (decide (b.cps.toList < a.cps.toList))
  | _, _ => none
def geB : Mem → D → D → Option Bool := fun _ x y => match x, y with
  | .int i, .int j => some (decide (j ≤ i))
  | .str a, .str b => some (!decide (a.cps.toList < b.cps.toList))
  | _, _ => none
def isNon : D → Bool
  | .non => true
  | _ => false
def isB : Mem → D → D → Option Bool := fun _ x y => match y with
  | .non => some (isNon x)
  | .bl b => match x with
    | .bl a => some (a == b)
    | _ => none
  | _ => none
def notB (f : Mem → D → D → Option Bool) : Mem → D → D → Option Bool := fun M x y => (f M x y).map fun k => !k
/-- an item -/
def ixD : O2 := fun x y M => match x with
  | .str z => match y with
    | .int i => if z.length ≤ LINE then (atI z.cps.toList i).map fun c => (.str ⟨#[c]⟩, M) else none
    | _ => none
  | .tup xs => match y with
    | .int i => (atI xs i).map fun d => (d, M)
    | _ => none
  | x => match dcOf M x with
    | some kvs => (keyOf y).bind fun k => (getK kvs k).map fun d => (d, M)
    | none => match lsOf M x with
      | some xs => match y with
        | .int i => (atI xs i).map fun d => (d, M)
        | _ => none
      | none => none

section
variable {X : Cx} {T : Tab} {rs : List (Addr × HO)}
theorem OpR.imp {f : Value → Value → Sem Value} {r r' : R2} (h : OpR X f r) (i : ∀ x y H Q, r' x y H Q → r x y H Q) : OpR X f r' :=
  fun pins s σ H x y v u Q I rx ry q => h pins s σ H x y v u Q I rx ry (i _ _ _ _ q)
theorem IxR.imp {r r' : R2} (h : IxR X r) (i : ∀ x y H Q, r' x y H Q → r x y H Q) : IxR X r' :=
  fun va sl pins s σ H x y v u Q I rx ry q hs => h va sl pins s σ H x y v u Q I rx ry (i _ _ _ _ q) hs
theorem RO2.int {K : KX} {c : Int → Int → Bool} {f : Int → Int → Int} {x y : V} {H : Hp} {Q : VK} (h : RO2 K rs (intD c f) x y H Q) : ∃ i j, x = .int i ∧ y = .int j ∧ c i j = true ∧ Q (.int (f i j)) H := by
  obtain ⟨ι, F, M, d, e, z, M', r, h1, h2, g, q⟩ := h
  unfold intD at g
  split at g
  · rename_i i j
    split at g
    · rename_i hc
      cases g
      exact ⟨i, j, h1, h2, hc, q ι F H _ Le.refl r rfl⟩
    · cases g
  · cases g
theorem o_sub : OpR X (binaryOp .Sub) (RO2 (kx X T) rs subD) := OpR.imp op_sub fun x y H Q h => by
  obtain ⟨i, j, e1, e2, _, q⟩ := h.int
  exact ⟨i, j, e1, e2, q⟩
theorem o_mul : OpR X (binaryOp .Mult) (RO2 (kx X T) rs mulD) := OpR.imp op_mul fun x y H Q h => by
  obtain ⟨i, j, e1, e2, hc, q⟩ := h.int
  refine ⟨i, j, e1, e2, ?_, q⟩
  simp only [small_iff, Bool.or_eq_true] at hc
  exact hc
theorem o_fdiv : OpR X (binaryOp .FloorDiv) (RO2 (kx X T) rs fdivD) := OpR.imp op_fdiv fun x y H Q h => by
  obtain ⟨i, j, e1, e2, hc, q⟩ := h.int
  refine ⟨i, j, e1, e2, ?_, q⟩
  rw [fdok_iff] at hc
  exact hc
theorem o_mod : OpR X (binaryOp .Mod) (RO2 (kx X T) rs modD) := OpR.imp op_mod fun x y H Q h => by
  obtain ⟨i, j, e1, e2, hc, q⟩ := h.int
  exact ⟨i, j, e1, e2, of_decide_eq_true hc, q⟩
theorem o_pow : OpR X (binaryOp .Pow) (RO2 (kx X T) rs powD) := OpR.imp op_pow fun x y H Q h => by
  obtain ⟨i, j, e1, e2, hc, q⟩ := h.int
  refine ⟨i, j, e1, e2, ?_, q⟩
  simp only [Bool.and_eq_true, decide_eq_true_eq] at hc
  exact ⟨hc.1.1, hc.1.2, hc.2⟩
theorem o_neg : UnR X (unaryOp .USub) (RO1 (kx X T) rs negD) := fun pins s σ H x v Q I rx h => un_neg pins s σ H x v Q I rx (by
  obtain ⟨ι, F, M, d, z, M', r, h1, g, q⟩ := h
  unfold negD at g
  split at g
  · cases g
    exact ⟨_, h1, q ι F H _ Le.refl r rfl⟩
  · cases g)
/-- list + list, whatever is known of them -/
theorem op_catS : OpR X (binaryOp .Add) (fun x y H Q => ∃ a b xs ys, x = .ref a ∧ y = .ref b ∧ SqL X.K H a xs ∧ SqL X.K H b ys ∧ xs.length + ys.length ≤ sizeLine ∧ ∀ p, H p = none → Q (.ref p) (upd H p (.lst (xs ++ ys)))) := by
  intro pins s σ H x y v u Q I rx ry h
  obtain ⟨l, b, xs, ys, rfl, rfl, hx, hy, hz, q⟩ := h
  cases rx
  cases ry
  obtain ⟨vs, r1, p1, _⟩ := I.list hx
  obtain ⟨ws, r2, p2, _⟩ := I.list hy
  have l1 := r1.length
  have l2 := r2.length
  obtain ⟨⟨cls, dd, data, sl⟩, ho, hc, n, hd⟩ := p1.isList
  obtain ⟨⟨cls2, dd2, data2, sl2⟩, ho2, hc2, n2, hd2⟩ := p2.isList
  simp only at hc hd hc2 hd2
  subst hc hd hc2 hd2
  have e : vs.toArray ++ ws.toArray = (vs ++ ws).toArray := by simp
  refine concat_meets ⟨_, ho, rfl⟩ ⟨_, ho2, rfl⟩ noFill_list_add seq_list_add PySem.F.slot_list_add PySem.F.entry_list_add (PySem.F.args_list_add_2 _ _) (list_addW l b vs.toArray ws.toArray n n2 dd dd2 sl sl2 (by simp; omega)) ⟨ho, ho2, ?_⟩
  rw [e]
  refine ⟨.ref s.heap.objs.size, _, I.laid (t' := s.toks) (o := .lst (xs ++ ys)) (fun b ob q => Heap.get?_push_of_some _ q) (Nat.le_refl _) ?_, rfl, q _ (I.hok.fresh (Nat.le_refl _))⟩
  exact ⟨by rw [List.length_append]; exact hz, _, 0, r1.append r2, Heap.get?_push_size _ rfl⟩
theorem o_add : OpR X (binaryOp .Add) (RO2 (kx X T) rs addD) := OpR.imp (OpR.or op_add (OpR.or op_add_str (OpR.or op_catA op_catS))) fun x y H Q h => by
  obtain ⟨ι, F, M, d, e, z, M', r, h1, h2, g, q⟩ := h
  unfold addD at g
  split at g
  · cases g
    exact .inl ⟨_, _, h1, h2, q ι F H _ Le.refl r rfl⟩
  · split at g
    · rename_i hz
      cases g
      exact .inr (.inl ⟨_, _, h1, h2, by rw [← line_eq]; exact hz, q ι F H _ Le.refl r rfl⟩)
    · cases g
  · split at g
    · rename_i xs ys hz
      cases g
      obtain ⟨a, vs, rfl, s1, l1⟩ := h1
      obtain ⟨b, ws, rfl, s2, l2⟩ := h2
      refine .inr (.inr (.inl ⟨a, b, vs, ws, rfl, rfl, sqt_sub r s1, sqt_sub r s2, by rw [l1.length, l2.length, ← line_eq]; exact hz, fun e => ?_, fun _ e => ?_, fun _ _ p hp => ?_⟩))
      · subst e
        refine q ι F H _ Le.refl r ⟨b, ws, rfl, s2, ?_⟩
        cases xs with
        | nil => exact l2
        | cons d ds => obtain ⟨_, _, e, _⟩ := l1; cases e
      · subst e
        refine q ι F H _ Le.refl r ⟨a, vs, rfl, s1, ?_⟩
        cases ys with
        | nil => rw [List.append_nil]; exact l1
        | cons d ds => obtain ⟨_, _, e, _⟩ := l2; cases e
      · exact q ι (upd F p (.tup (vs ++ ws))) _ _ (Le.new (r.free hp)) (r.frozen hp) ⟨p, _, rfl, .inl (.inl upd_same), RepL.le (Le.new (r.free hp)) (l1.append l2)⟩
    · cases g
  · split at g
    · rename_i xs ys e1 e2
      split at g
      · rename_i hz
        cases g
        obtain ⟨a, vs, rfl, s1, l1⟩ := lsOf_at r e1 h1
        obtain ⟨b, ws, rfl, s2, l2⟩ := lsOf_at r e2 h2
        refine .inr (.inr (.inr ⟨a, b, vs, ws, rfl, rfl, s1, s2, by rw [l1.length, l2.length, ← line_eq]; exact hz, fun p hp => ?_⟩))
        exact q ι (upd F p (.lst (vs ++ ws))) _ _ (Le.new (r.free hp)) (r.frozen hp) ⟨p, _, rfl, .inl (.inl upd_same), RepL.le (Le.new (r.free hp)) (l1.append l2)⟩
      · cases g
    · cases g

theorem RO2.bo {K : KX} {f : Mem → D → D → Option Bool} {x y : V} {H : Hp} {Q : VK} (h : RO2 K rs (boD f) x y H Q) : ∃ ι F M d e k, Rel K ι F rs H M ∧ Rep K ι F d x ∧ Rep K ι F e y ∧ f M d e = some k ∧ Q (.bl k) H := by
  obtain ⟨ι, F, M, d, e, z, M', r, h1, h2, g, q⟩ := h
  unfold boD at g
  obtain ⟨k, g1, g2⟩ := Option.map_eq_some_iff.mp g
  cases g2
  exact ⟨ι, F, M, d, e, k, r, h1, h2, g1, q ι F H _ Le.refl r rfl⟩
theorem pyOf_flat {M : Mem} {d : D} (h : isF d = true) : pyOf M d = pyD d := by
  cases d <;> first | rfl | cases h
/-- what == comes to -/
theorem eqD_at {M : Mem} {d e : D} {k : Bool} {x y : V} {ι : List Addr} {F H : Hp} {K : KX} (r : Rel K ι F rs H M) (h1 : Rep K ι F d x) (h2 : Rep K ι F e y) (g : eqD M d e = some k) :
    (scal x y = true ∧ decide (x = y) = k) ∨ ∃ p q, Dp K.fr H x p ∧ Dp K.fr H y q ∧ SeqAt.shaped p = true ∧ SeqAt.shaped q = true ∧ PyData.eqv p q = k := by
  unfold eqD at g
  split at g
  · rename_i hf
    rw [Bool.and_eq_true] at hf
    obtain ⟨f1, f2⟩ := hf
    have g' : eqF d e = k := Option.some.inj g
    subst g'
    cases d <;> first
      | (cases f1; done)
      | (cases h1; cases e <;> first
        | (cases f2; done)
        | (cases h2; exact .inl ⟨rfl, by first | rfl | exact dec_int | exact dec_str | exact dec_bl⟩)
        | (cases h2; exact .inr ⟨_, _, .bl _, .int _, rfl, rfl, rfl⟩)
        | (cases h2; exact .inr ⟨_, _, .int _, .bl _, rfl, rfl, rfl⟩))
  · obtain ⟨p, p1, g⟩ := Option.bind_eq_some_iff.mp g
    obtain ⟨q, q1, g⟩ := Option.bind_eq_some_iff.mp g
    split at g
    · rename_i hs
      rw [Bool.and_eq_true] at hs
      exact .inr ⟨p, q, pyOf_dp r p1 h1, pyOf_dp r q1 h2, hs.1, hs.2, Option.some.inj g⟩
    · cases g
theorem o_eq (hu : X.A.units + 64 < cLine) : OpR X (compareOp .Eq) (RO2 (kx X T) rs (boD eqD)) := OpR.imp (OpR.or op_eq (op_eqD hu)) fun x y H Q h => by
  obtain ⟨ι, F, M, d, e, k, r, h1, h2, g, q⟩ := h.bo
  rcases eqD_at r h1 h2 g with ⟨a1, a2⟩ | ⟨p, p', a1, a2, a3, a4, a5⟩
  · exact .inl ⟨a1, by rw [a2]; exact q⟩
  · exact .inr ⟨p, p', a1, a2, a3, a4, by rw [a5]; exact q⟩
theorem o_ne (hu : X.A.units + 64 < cLine) : OpR X (compareOp .NotEq) (RO2 (kx X T) rs (boD (notB eqD))) := OpR.imp (OpR.or op_ne (op_neD hu)) fun x y H Q h => by
  obtain ⟨ι, F, M, d, e, k, r, h1, h2, g, q⟩ := h.bo
  obtain ⟨k', g1, g2⟩ := Option.map_eq_some_iff.mp g
  rcases eqD_at r h1 h2 g1 with ⟨a1, a2⟩ | ⟨p, p', a1, a2, a3, a4, a5⟩
  · exact .inl ⟨a1, by rw [a2, g2]; exact q⟩
  · exact .inr ⟨p, p', a1, a2, a3, a4, by rw [a5, g2]; exact q⟩
theorem intsOf_rep : ∀ {xs : List D} {ns : List Int} {vs : List V} {ι : List Addr} {F : Hp} {K : KX}, intsOf xs = some ns → RepL K ι F xs vs → vs = ns.map V.int
  | [], ns, vs, _, _, _, e, h => by
    cases e; exact h
  | d :: xs, ns, vs, ι, F, K, e, h => by
    obtain ⟨v, r, rfl, h1, h2⟩ := h
    cases d with
    | int i =>
      obtain ⟨is, e1, rfl⟩ := Option.map_eq_some_iff.mp (show (intsOf xs).map (fun is => i :: is) = some ns from e)
      cases h1
      rw [intsOf_rep e1 h2] <;> rfl
    | _ => cases e
theorem o_lt (hu : X.A.units < cLine) : OpR X (compareOp .Lt) (RO2 (kx X T) rs (boD ltB)) := OpR.imp (OpR.or op_lt (OpR.or op_lt_str (op_ltT hu))) fun x y H Q h => by
  obtain ⟨ι, F, M, d, e, k, r, h1, h2, g, q⟩ := h.bo
  unfold ltB at g
  split at g
  · cases g; exact .inl ⟨_, _, h1, h2, q⟩
  · cases g; exact .inr (.inl ⟨_, _, h1, h2, q⟩)
  · obtain ⟨ns, e1, g⟩ := Option.bind_eq_some_iff.mp g
    obtain ⟨ms, e2, rfl⟩ := Option.map_eq_some_iff.mp g
    obtain ⟨a, vs, rfl, s1, l1⟩ := h1
    obtain ⟨b, ws, rfl, s2, l2⟩ := h2
    have z1 := intsOf_rep e1 l1
    have z2 := intsOf_rep e2 l2
    subst z1 z2
    exact .inr (.inr ⟨a, b, ns, ms, rfl, rfl, sqt_sub r s1, sqt_sub r s2, q⟩)
  · cases g
theorem o_le : OpR X (compareOp .LtE) (RO2 (kx X T) rs (boD leB)) := OpR.imp (OpR.or op_le op_le_str) fun x y H Q h => by
  obtain ⟨ι, F, M, d, e, k, r, h1, h2, g, q⟩ := h.bo
  unfold leB at g
  split at g
  · cases g; exact .inl ⟨_, _, h1, h2, q⟩
  · cases g; exact .inr ⟨_, _, h1, h2, q⟩
  · cases g
theorem o_gt : OpR X (compareOp .Gt) (RO2 (kx X T) rs (boD gtB)) := OpR.imp (OpR.or op_gt op_gt_str) fun x y H Q h => by
  obtain ⟨ι, F, M, d, e, k, r, h1, h2, g, q⟩ := h.bo
  unfold gtB at g
  split at g
  · cases g; exact .inl ⟨_, _, h1, h2, q⟩
  · cases g; exact .inr ⟨_, _, h1, h2, q⟩
  · cases g
theorem o_ge : OpR X (compareOp .GtE) (RO2 (kx X T) rs (boD geB)) := OpR.imp (OpR.or op_ge op_ge_str) fun x y H Q h => by
  obtain ⟨ι, F, M, d, e, k, r, h1, h2, g, q⟩ := h.bo
  unfold geB at g
  split at g
  · cases g; exact .inl ⟨_, _, h1, h2, q⟩
  · cases g; exact .inr ⟨_, _, h1, h2, q⟩
  · cases g
theorem isnon_at {d : D} {v : V} {ι : List Addr} {F : Hp} {K : KX} (h : Rep K ι F d v) : decide (v = .non) = isNon d := by
  cases d with
  | non => cases h; rfl
  | bl b => cases h; rfl
  | int b => cases h; rfl
  | str b => cases h; rfl
  | ty b => cases h; rfl
  | lst xs => obtain ⟨a, vs, rfl, _⟩ := h; rfl
  | tup xs => obtain ⟨a, vs, rfl, _⟩ := h; rfl
  | dic xs ys => obtain ⟨a, vs, rfl, _⟩ := h; rfl
  | ref i => obtain ⟨a, rfl, _⟩ := h; rfl
  | glb a => cases h; rfl
theorem o_is : OpR X (compareOp .Is) (RO2 (kx X T) rs (boD isB)) := OpR.imp (OpR.or op_isN op_isBl) fun x y H Q h => by
  obtain ⟨ι, F, M, d, e, k, r, h1, h2, g, q⟩ := h.bo
  unfold isB at g
  split at g
  · cases g
    refine .inl ⟨h2, ?_⟩
    rw [isnon_at h1]; exact q
  · split at g
    · rename_i b _ a
      cases g
      exact .inr ⟨a, b, h1, h2, by rw [show decide (a = b) = (a == b) from by cases a <;> cases b <;> rfl]; exact q⟩
    · cases g
  · cases g
theorem o_isnot : OpR X (compareOp .IsNot) (RO2 (kx X T) rs (boD (notB isB))) := OpR.imp (OpR.or op_notN op_notBl) fun x y H Q h => by
  obtain ⟨ι, F, M, d, e, k, r, h1, h2, g, q⟩ := h.bo
  obtain ⟨k', g1, rfl⟩ := Option.map_eq_some_iff.mp g
  clear g
  unfold isB at g1
  split at g1
  · cases g1
    refine .inl ⟨h2, ?_⟩
    rw [isnon_at h1]; exact q
  · split at g1
    · rename_i b _ a
      cases g1
      exact .inr ⟨a, b, h1, h2, by rw [show decide (a = b) = (a == b) from by cases a <;> cases b <;> rfl]; exact q⟩
    · cases g1
  · cases g1
def rDIn (neg : Bool) : R2 := fun y x H Q => ∃ a o, x = .ref a ∧ DGet H a y o ∧ Q (.bl (if neg then !o.isSome else o.isSome)) H
theorem op_din (hu : X.A.units + 1 < cLine) : OpR X (compareOp .In) (rDIn false) := by
  intro pins s σ H y x v u Q I ry rx h
  obtain ⟨a, o, rfl, g, q⟩ := h
  cases rx
  exact d_in hu I g ry fun s3 I3 => ⟨.bl o.isSome, H, I3, rfl, q⟩
theorem op_dnin (hu : X.A.units + 1 < cLine) : OpR X (compareOp .NotIn) (rDIn true) := by
  intro pins s σ H y x v u Q I ry rx h
  obtain ⟨a, o, rfl, g, q⟩ := h
  cases rx
  exact d_notIn hu I g ry fun s3 I3 => ⟨.bl (!o.isSome), H, I3, rfl, q⟩
theorem keyOf_rep {d : D} {k : Key} {v : V} {ι : List Addr} {F : Hp} {K : KX} (e : keyOf d = some k) (h : Rep K ι F d v) : v = kV k := by
  cases d <;> first | (cases e; cases h; rfl) | cases e
/-- what «in» comes to, by cases -/
theorem inD_at {M : Mem} {d e : D} {k : Bool} {x y : V} {ι : List Addr} {F H : Hp} {K : KX} (r : Rel K ι F rs H M) (h1 : Rep K ι F d x) (h2 : Rep K ι F e y) (g : inD M d e = some k) :
    (∃ a o, y = .ref a ∧ DGet H a x o ∧ o.isSome = k) ∨ (∃ a b, x = .str a ∧ y = .str b ∧ (!(Builtin.Str.occurrences b a 0 b.length 1).isEmpty) = k) ∨
    (∃ p xs, y = .ref p ∧ (SqL K.fr H p xs ∨ SqT K.fr H p xs) ∧ flatV x = true ∧ xs.all flatV = true ∧ inV x xs = k) ∨
    ∃ d ds, Dp K.fr H x d ∧ Dp K.fr H y (.list ds) ∧ SeqAt.shaped d = true ∧ SeqAt.shaped (.list ds) = true ∧ (ds.any fun z => PyData.eqv z d) = k := by
  unfold inD at g
  split at g
  · rename_i kvs ek
    obtain ⟨q, e1, rfl⟩ := Option.map_eq_some_iff.mp g
    obtain ⟨a, vs, rfl, hr, m1, m2⟩ := dcOf_at r ek h2
    have hv := valV_rep (k := q) m1 m2
    refine .inl ⟨a, valV vs q, rfl, .inl ⟨vs, q, hr, keyOf_rep e1 h1, rfl⟩, ?_⟩
    split at hv
    · rename_i d' e2
      obtain ⟨u, e3, _⟩ := hv
      rw [e2, e3] <;> rfl
    · rename_i e2
      rw [e2, hv] <;> rfl
  · split at g
    · split at g
      · cases g
        exact .inr (.inl ⟨_, _, h1, h2, rfl⟩)
      · cases g
    · split at g
      · rename_i hf
        rw [Bool.and_eq_true] at hf
        cases g
        obtain ⟨a, vs, rfl, s1, l1⟩ := h2
        obtain ⟨b1, b2⟩ := rep_flats hf.2 l1
        exact .inr (.inr (.inl ⟨a, vs, rfl, .inr (sqt_sub r s1), (rep_flat hf.1 h1).1, b1, b2 hf.1 h1⟩))
      · cases g
    · split at g
      · rename_i xs e1
        obtain ⟨a, vs, rfl, s1, l1⟩ := lsOf_at r e1 h2
        split at g
        · rename_i hf
          rw [Bool.and_eq_true] at hf
          cases g
          obtain ⟨b1, b2⟩ := rep_flats hf.2 l1
          exact .inr (.inr (.inl ⟨a, vs, rfl, .inl s1, (rep_flat hf.1 h1).1, b1, b2 hf.1 h1⟩))
        · obtain ⟨p, p1, g⟩ := Option.bind_eq_some_iff.mp g
          obtain ⟨ps, p2, g⟩ := Option.bind_eq_some_iff.mp g
          split at g
          · rename_i hs
            rw [Bool.and_eq_true] at hs
            cases g
            exact .inr (.inr (.inr ⟨p, ps, pyOf_dp r p1 h1, .lst s1 (pyL_dp r _ _ _ p2 l1), hs.1, hs.2, rfl⟩))
          · cases g
      · cases g
theorem o_in (hu : X.A.units + 65 < cLine) : OpR X (compareOp .In) (RO2 (kx X T) rs (boD inD)) := OpR.imp (OpR.or (op_din (by omega)) (OpR.or op_in_str (OpR.or op_in_seq (op_inD hu)))) fun x y H Q h => by
  obtain ⟨ι, F, M, d, e, k, r, h1, h2, g, q⟩ := h.bo
  rcases inD_at r h1 h2 g with ⟨a, o, e1, e2, e3⟩ | ⟨a, b, e1, e2, e3⟩ | ⟨p, xs, e1, e2, e3, e4, e5⟩ | ⟨p, ds, e1, e2, e3, e4, e5⟩
  · exact .inl ⟨a, o, e1, e2, by rw [← e3] at q; exact q⟩
  · exact .inr (.inl ⟨a, b, e1, e2, by rw [e3]; exact q⟩)
  · exact .inr (.inr (.inl ⟨p, xs, e1, e2, e3, e4, by rw [← e5] at q; exact q⟩))
  · exact .inr (.inr (.inr ⟨p, ds, e1, e2, e3, e4, by rw [e5]; exact q⟩))
theorem o_notin (hu : X.A.units + 65 < cLine) : OpR X (compareOp .NotIn) (RO2 (kx X T) rs (boD (notB inD))) := OpR.imp (OpR.or (op_dnin (by omega)) (OpR.or op_notin_str (OpR.or op_notIn_seq (op_notInD hu)))) fun x y H Q h => by
  obtain ⟨ι, F, M, d, e, k, r, h1, h2, g, q⟩ := h.bo
  obtain ⟨k', g1, rfl⟩ := Option.map_eq_some_iff.mp g
  rcases inD_at r h1 h2 g1 with ⟨a, o, e1, e2, e3⟩ | ⟨a, b, e1, e2, e3⟩ | ⟨p, xs, e1, e2, e3, e4, e5⟩ | ⟨p, ds, e1, e2, e3, e4, e5⟩
  · exact .inl ⟨a, o, e1, e2, by rw [← e3] at q; exact q⟩
  · exact .inr (.inl ⟨a, b, e1, e2, by rw [e3]; exact q⟩)
  · exact .inr (.inr (.inl ⟨p, xs, e1, e2, e3, e4, by rw [← e5] at q; exact q⟩))
  · exact .inr (.inr (.inr ⟨p, ds, e1, e2, e3, e4, by rw [e5]; exact q⟩))
theorem ixN_of {n m : Nat} {i : Int} (e : n = m) : ixN n i = ixN m i := by rw [e]
theorem atI_rep {ds : List D} {vs : List V} {i : Int} {d : D} {ι : List Addr} {F : Hp} {K : KX} (h : RepL K ι F ds vs) (e : atI ds i = some d) : ∃ v, atI vs i = some v ∧ Rep K ι F d v := by
  unfold atI at e ⊢
  rw [h.length]
  obtain ⟨j, e1, e2⟩ := Option.bind_eq_some_iff.mp e
  rw [e1]
  exact h.get e2
theorem ix_dict (hu : X.A.units + 1 < cLine) : IxR X (fun x y H Q => ∃ a v, x = .ref a ∧ DGet H a y (some v) ∧ Q v H) := by
  intro value slice pins s σ H x y v u Q I rx ry h hs
  obtain ⟨a, z, rfl, g, q⟩ := h
  cases rx
  exact tail_any (dict_typeIs I g) PySem.F.slot_dict_getitem.lookup (d_getItem hu I g ry fun w' s3 I3 rw' => ⟨z, H, I3, rw', q⟩) hs
theorem i_ix (hu : X.A.units + 1 < cLine) : IxR X (RO2 (kx X T) rs ixD) := IxR.imp (IxR.or ix_list (IxR.or ix_tup (IxR.or ix_str (ix_dict hu)))) fun x y H Q h => by
  obtain ⟨ι, F, M, d, e, z, M', r, h1, h2, g, q⟩ := h
  unfold ixD at g
  split at g
  · split at g
    · split at g
      · rename_i hz
        obtain ⟨c, g1, g2⟩ := Option.map_eq_some_iff.mp g
        cases g2
        exact .inr (.inr (.inl ⟨_, _, c, h1, h2, by rw [← line_eq]; exact hz, g1, q ι F H _ Le.refl r rfl⟩))
      · cases g
    · cases g
  · split at g
    · obtain ⟨c, g1, g2⟩ := Option.map_eq_some_iff.mp g
      cases g2
      obtain ⟨a, vs, rfl, s1, l1⟩ := h1
      obtain ⟨v, a1, a2⟩ := atI_rep l1 g1
      exact .inr (.inl ⟨a, vs, _, v, rfl, h2, sqt_sub r s1, a1, q ι F H _ Le.refl r a2⟩)
    · cases g
  · split at g
    · rename_i kvs ek
      obtain ⟨k, e1, g⟩ := Option.bind_eq_some_iff.mp g
      obtain ⟨c, g1, g2⟩ := Option.map_eq_some_iff.mp g
      cases g2
      obtain ⟨a, vs, rfl, hr, m1, m2⟩ := dcOf_at r ek h1
      have hv := valV_rep (k := k) m1 m2
      rw [g1] at hv
      obtain ⟨u, e3, e4⟩ := hv
      exact .inr (.inr (.inr ⟨a, u, rfl, .inl ⟨vs, k, hr, keyOf_rep e1 h2, e3.symm⟩, q ι F H _ Le.refl r e4⟩))
    · split at g
      · rename_i xs e1
        split at g
        · obtain ⟨c, g1, g2⟩ := Option.map_eq_some_iff.mp g
          cases g2
          obtain ⟨a, vs, rfl, s1, l1⟩ := lsOf_at r e1 h1
          obtain ⟨v, a1, a2⟩ := atI_rep l1 g1
          exact .inl ⟨a, vs, _, v, rfl, h2, s1, a1, q ι F H _ Le.refl r a2⟩
        · cases g
      · cases g
end
end LD
namespace LD
open PySem PySem.Spec PyProof.Rows L2

/-! ### facts of the syntax, decided by computation -/
def isSup : Expr → Bool
  | .Call (.Name _ _) [] [] _ => true
  | _ => false
def isStar : Expr → Bool
  | .Starred _ _ => true
  | _ => false
theorem noSup {o : Expr} {m : Str} {env : Env} {t : Sem Value} (h : isSup o = false) : attributeBase o m env t = t := by
  unfold attributeBase
  split
  · cases h
  · rfl
theorem star_cons {e : Expr} {es : List Expr} {env : Env} (h : isStar e = false) : starEach (e :: es) env = (false, eval e env) :: starEach es env := by
  cases e <;> first | (simp only [starEach]; done) | cases h
theorem star_any {pos : Pos} {env : Env} : ∀ {es : List Expr}, es.any isStar = false → (backTo pos (starEach es env)).any (·.1) = false
  | [], _ => by simp only [starEach, backTo, List.map_nil, List.any_nil]
  | e :: es, h => by
    rw [List.any_cons, Bool.or_eq_false_iff] at h
    rw [star_cons h.1]
    have ih := star_any (pos := pos) (env := env) h.2
    unfold backTo at ih ⊢
    rw [List.map_cons, List.any_cons, ih] <;> rfl
theorem star_all {pos : Pos} {env : Env} : ∀ {es : List Expr}, es.any isStar = false → (backTo pos (starEach es env)).all (fun x => !x.1) = true
  | [], _ => by simp only [starEach, backTo, List.map_nil, List.all_nil]
  | e :: es, h => by
    rw [List.any_cons, Bool.or_eq_false_iff] at h
    rw [star_cons h.1]
    have ih := star_all (pos := pos) (env := env) h.2
    unfold backTo at ih ⊢
    rw [List.map_cons, List.all_cons, ih] <;> rfl
def kwN (k : Keyword) : Option Str := k.arg
theorem kw_map {pos : Pos} {env : Env} : ∀ {kws : List Keyword}, (backToKw pos (keywordEach kws env)).map (·.1) = kws.map kwN
  | [] => by simp only [keywordEach, backToKw, List.map_nil]
  | ⟨n, v, p⟩ :: kws => by
    have ih := kw_map (pos := pos) (env := env) (kws := kws)
    unfold backToKw at ih ⊢
    simp only [keywordEach, List.map_cons]
    rw [ih] <;> rfl
theorem kw_len {pos : Pos} {env : Env} {kws : List Keyword} : (backToKw pos (keywordEach kws env)).length = kws.length := by
  have h := congrArg List.length (kw_map (pos := pos) (env := env) (kws := kws))
  rw [List.length_map, List.length_map] at h
  exact h
theorem kw_all {pos : Pos} {env : Env} {kws : List Keyword} (h : kws.all (fun k => (kwN k).isSome) = true) : (backToKw pos (keywordEach kws env)).all (·.1.isSome) = true := by
  have e : (backToKw pos (keywordEach kws env)).all (·.1.isSome) = ((backToKw pos (keywordEach kws env)).map (·.1)).all (·.isSome) := by rw [List.all_map]; rfl
  rw [e, kw_map, List.all_map]
  exact h
theorem kw_none {pos : Pos} {env : Env} {kws : List Keyword} (h : kws.all (fun k => (kwN k).isSome) = true) : (backToKw pos (keywordEach kws env)).any (·.1.isNone) = false := by
  have e := kw_all (pos := pos) (env := env) h
  rw [List.all_eq_true] at e
  rw [List.any_eq_false]
  intro x hx
  have q := e x hx
  cases hq : x.1 with
  | none => rw [hq] at q; cases q
  | some n => simp [hq]
theorem kw_names {pos : Pos} {env : Env} {kws : List Keyword} : (backToKw pos (keywordEach kws env)).filterMap (·.1) = kws.filterMap kwN := by
  have e : (backToKw pos (keywordEach kws env)).filterMap (·.1) = ((backToKw pos (keywordEach kws env)).map (·.1)).filterMap id := by rw [List.filterMap_map]; rfl
  rw [e, kw_map, List.filterMap_map]
  rfl
theorem star_len {pos : Pos} {env : Env} : ∀ {es : List Expr}, es.any isStar = false → (starEach es env).length = es.length
  | [], _ => by simp only [starEach, List.length_nil]
  | e :: es, h => by
    rw [List.any_cons, Bool.or_eq_false_iff] at h
    rw [star_cons h.1, List.length_cons, List.length_cons, star_len (pos := pos) (env := env) h.2]
/-- o.m(..) as it is evaluated -/
theorem meth_eval {o : Expr} {m : Str} {apos pos : Pos} {es : List Expr} {kws : List Keyword} {env : Env} (h1 : isSup o = false) (h2 : es.any isStar = false) (h3 : kws.all (fun k => (kwN k).isSome) = true) (h4 : decide (es.length + kws.length < 29) = true)
    (h5 : (apos.endLine == pos.line) = true) : eval (.Call (.Attribute o m apos) es kws pos) env = (do
      let ov ← eval o env
      standAt apos.atName
      let (f, first) ← holding [ov] (getMethod ov m (do return (← importBound o env).getD true))
      callWith pos f first (backTo pos (starEach es env)) (backToKw pos (keywordEach kws env))) := by
  rw [arm_eval_Call, noSup h1]
  have few : methodCallForm (es.length + kws.length) (backTo pos (starEach es env)) (backToKw pos (keywordEach kws env)) = true := by
    unfold methodCallForm
    rw [star_all h2, kw_all h3]
    have := of_decide_eq_true h4
    simp only [Bool.true_and]
    apply decide_eq_true
    split <;> omega
  unfold methodCall calleeOf methodCallPos
  rw [few]
  simp only [h5, Bool.not_true, Bool.false_or, if_true, pure_bind]

/-! ### calls of the text's own defs -/
/-- what a def is worth: its arguments (the positional ones, then the written keywords'), the memory -/
abbrev FnD := List D → Mem → R D
def spD (K : KX) (rs : List (Addr × HO)) (φ : FnD) : Sp := fun vs H Q E => ∃ ι F ds M, Rel K ι F rs H M ∧ RepL K ι F ds vs ∧ Post K rs (repD K) ι F (fun c d => E c d) Q (φ ds M)
/-- the def at f may be called with n positional values and the keywords ks -/
structure Callee (P : Program) (w : World) (K : PySem.W.Frag) (mg : Str → Option Value) (base : Heap) (T : Tab) (k : Nat) (f : Addr) (n : Nat) (ks : List Str) (φ : FnD) : Prop where
  run : ∀ (rs : List (Addr × HO)) (A : Around) (outer : List Env) (s : Shared) (H : Hp) (us ws : List Value) (vs zs : List V) (Q : VK) (E : XK), Room k A → Env0 P w K mg base A outer s H → us.length = n → ws.length = ks.length → Vals vs us → Vals zs ws →
    spD ⟨K, T⟩ rs φ (vs ++ zs) H Q E → codeAny (model P w) A (.call (.ref f) ⟨us, ks.zip ws⟩) (CR (L2.CX P w) outer P w H s Q E) s
section
variable {X : Cx} {T : Tab} {W : WX} {n k : Nat} {ks : List Str} {φ : FnD} {f : Addr} {rs : List (Addr × HO)}
theorem run_callee {pins : List (Addr × Obj)} {σ : L2.St} {H : Hp} {s : Shared} {Q : VK} {us ws : List Value} {vs zs : List V} (c : Callee X.prog X.w X.K X.mg X.base T k f n ks φ) (hr : Room k X.A) (tk : Takes X W) (I : Inv X pins σ H s) (h1 : us.length = n) (h2 : ws.length = ks.length)
    (r1 : Vals vs us) (r2 : Vals zs ws) (h : spD (kx X T) rs φ (vs ++ zs) H Q (fun c d H => W c d σ H)) : wpAny (model X.prog X.w) X.A (call (.ref f) us (ks.zip ws)) (EP X pins σ Q) X.xe s := by
  refine wpAny_call (codeAny_mono (c.run rs X.A X.stack s H us ws vs zs Q _ hr I.env0 h1 h2 r1 r2 h) fun r s' hq => ?_)
  cases r with
  | error e => exact passAt tk σ pins H s e s' I hq
  | ok fl =>
    cases fl with
    | ret u => exact I.after hq
    | next => exact False.elim hq
    | brk => exact False.elim hq
    | cont => exact False.elim hq
end
structure KK (X : Cx) (T : Tab) (W : WX) (kws : List Keyword) (φ : Sem1 (List D)) : Prop where
  pk : ∀ rs, PK X kws (LA (kx X T) rs W φ)
  al : AL φ kws.length
def eCall (φ : FnD) (α κ : Sem1 (List D)) : Sem1 D := fun s M => (α s M).bind fun ds M1 => (κ s M1).bind fun zs M2 => φ (ds ++ zs) M2
theorem vals_of_repL {X : Cx} {T : Tab} {ι : List Addr} {F : Hp} {ds : List D} {vs : List V} {us : List Value} (r : RepL (kx X T) ι F ds vs) (h : Vals vs us) : us.length = ds.length := by
  rw [← h.length]; exact r.length
section
variable {X : Cx} {T : Tab} {W : WX} {n k : Nat} {ks : List Str} {φ : FnD} {f : Addr} {rs : List (Addr × HO)} {o : Expr} {es : List Expr} {kws : List Keyword} {α κ : Sem1 (List D)} {ψ : Sem1 D} {x m : Str} {p pos apos kpos : Pos}
theorem k_nil : KK X T W [] aNil := ⟨fun rs => ⟨fun pos pins s σ H Q I h => pk_nil.run pos pins s σ H Q I (by
  obtain ⟨ι, F, s, M, r, rS, p⟩ := h
  exact p.fin r rfl)⟩, al_nil⟩
theorem k_cons {nm : Option Str} {e : Expr} (ha : KE X T W e ψ) (hr : KK X T W kws κ) : KK X T W (⟨nm, e, kpos⟩ :: kws) (aCons ψ κ) := ⟨fun rs => ⟨fun pos pins s σ H Q I h => (pk_cons (ha rs) (hr.pk rs)).run pos pins s σ H Q I (by
  obtain ⟨ι, F, s, M, r, rS, p⟩ := h
  refine ⟨ι, F, s, M, r, rS, p.step fun v H1 ι1 F1 M1 x l1 r1 rv p1 => ?_⟩
  refine ⟨ι1, F1, s, M1, r1, rS.le l1, p1.step fun ws H2 ι2 F2 M2 xs l2 r2 rw2 p2 => ?_⟩
  exact p2.fin r2 ⟨v, ws, rfl, l2 _ _ rv, rw2⟩)⟩, al_cons hr.al⟩
/-- the arguments are evaluated, then g is called -/
theorem callArgs {e : Expr} {g : Value} {first : List Value} {pins : List (Addr × Obj)} {σ : L2.St} {H : Hp} {s : Shared} {Qv : Value → Shared → Prop} (hk : PySem.W.keepIn X.K g = true) (I : Inv X pins σ H s)
    (h2 : (e :: es).any isStar = false) (h3 : kws.all (fun k => (kwN k).isSome) = true) (ha : KA X T W (e :: es) α) (hkw : KK X T W kws κ) {Q2 : List V → List V → Hp → Prop}
    (h : LA (kx X T) rs W α σ H fun vs H1 => LA (kx X T) rs W κ σ H1 fun zs H2 => Q2 vs zs H2)
    (go : ∀ us ws vs zs H2 s2, Inv X pins σ H2 s2 → Vals vs us → Vals zs ws → Q2 vs zs H2 → wpAny (model X.prog X.w) X.A (call g (first ++ us) ((kws.filterMap kwN).zip ws)) Qv X.xe s2) :
    wpAny (model X.prog X.w) X.A (callWith pos g first (backTo pos (starEach (e :: es) X.env)) (backToKw pos (keywordEach kws X.env))) Qv X.xe s := by
  have h2' := h2
  rw [List.any_cons, Bool.or_eq_false_iff] at h2'
  refine PySem.W.callWith_KW (h₀ := X.base) I.ok.mod.kin hk (kw_all h3) (thn ((ha.pa rs).run pos pins s σ H _ I h) fun us s1 ⟨vs, H1, I1, r, q⟩ => ?_) (by rw [star_any h2, kw_none h3] <;> rfl) (star_cons h2'.1)
  refine thn ((hkw.pk rs).run pos pins s1 σ H1 _ I1 q) fun ws s2 ⟨zs, H2, I2, rz, q2⟩ => ⟨I2.kIn, ?_⟩
  rw [kw_names]
  exact go us ws vs zs H2 s2 I2 r rz q2
theorem callArgs0 {g : Value} {first : List Value} {pins : List (Addr × Obj)} {σ : L2.St} {H : Hp} {s : Shared} {Qv : Value → Shared → Prop} (hk : PySem.W.keepIn X.K g = true) (I : Inv X pins σ H s)
    (h3 : kws.all (fun k => (kwN k).isSome) = true) (hkw : KK X T W kws κ) {Q2 : List V → Hp → Prop}
    (h : LA (kx X T) rs W κ σ H fun zs H2 => Q2 zs H2)
    (go : ∀ ws zs H2 s2, Inv X pins σ H2 s2 → Vals zs ws → Q2 zs H2 → wpAny (model X.prog X.w) X.A (call g (first ++ []) ((kws.filterMap kwN).zip ws)) Qv X.xe s2) :
    wpAny (model X.prog X.w) X.A (callWith pos g first (backTo pos (starEach [] X.env)) (backToKw pos (keywordEach kws X.env))) Qv X.xe s := by
  refine PySem.W.callWith_KW0 (h₀ := X.base) I.ok.mod.kin hk (kw_all h3) ?_ (by rw [star_any rfl, kw_none h3] <;> rfl)
  refine thn ((hkw.pk rs).run pos pins s σ H _ I h) fun ws s2 ⟨zs, H2, I2, rz, q2⟩ => ⟨I2.kIn, ?_⟩
  rw [kw_names]
  exact go ws zs H2 s2 I2 rz q2
/-- both, at the level of plain values: f is g of a value known -/
theorem call_both {g : Value} {first : List Value} {fv : List V} {fd : List D} {pins : List (Addr × Obj)} {σ : L2.St} {H : Hp} {s : Shared} {Q : VK} {ds : DS} {M : Mem} {ι : List Addr} {F : Hp} (hk : PySem.W.keepIn X.K g = true) (I : Inv X pins σ H s)
    (hα : es = [] → α = aNil) (h2 : es.any isStar = false) (h3 : kws.all (fun k => (kwN k).isSome) = true) (ha : KA X T W es α) (hkw : KK X T W kws κ)
    (r : Rel (kx X T) ι F rs H M) (rS : RepS (kx X T) ι F ds σ) (rf : RepL (kx X T) ι F fd fv) (p : Post (kx X T) rs (repD (kx X T)) ι F (fun c d => W c d σ) Q ((α ds M).bind fun xs M1 => (κ ds M1).bind fun zs M2 => φ (fd ++ xs ++ zs) M2))
    (go : ∀ us ws vs zs H2 s2, Inv X pins σ H2 s2 → Vals vs us → Vals zs ws → us.length = es.length → ws.length = kws.length → spD (kx X T) rs φ (fv ++ vs ++ zs) H2 Q (fun c d H => W c d σ H) → wpAny (model X.prog X.w) X.A (call g (first ++ us) ((kws.filterMap kwN).zip ws)) (EP X pins σ Q) X.xe s2) :
    wpAny (model X.prog X.w) X.A (callWith pos g first (backTo pos (starEach es X.env)) (backToKw pos (keywordEach kws X.env))) (EP X pins σ Q) X.xe s := by
  have fin : ∀ {vs zs : List V} {H2 : Hp} {ι2 F2 M2 xs ys}, Le (kx X T) ι F ι2 F2 → Rel (kx X T) ι2 F2 rs H2 M2 → RepL (kx X T) ι2 F2 xs vs → RepL (kx X T) ι2 F2 ys zs → Post (kx X T) rs (repD (kx X T)) ι2 F2 (fun c d => W c d σ) Q (φ (fd ++ xs ++ ys) M2) → spD (kx X T) rs φ (fv ++ vs ++ zs) H2 Q (fun c d H => W c d σ H) :=
    fun l r2 a b q => ⟨_, _, _, _, r2, ((RepL.le l rf).append a).append b, q⟩
  cases es with
  | nil =>
    rw [hα rfl] at p
    refine callArgs0 (Q2 := fun zs H2 => zs.length = kws.length ∧ spD (kx X T) rs φ (fv ++ [] ++ zs) H2 Q (fun c d H => W c d σ H)) hk I h3 hkw ⟨ι, F, ds, M, r, rS, ?_⟩ fun ws zs H2 s2 I2 rz q => go [] ws [] zs H2 s2 I2 .nil rz rfl (by rw [← rz.length]; exact q.1) q.2
    refine Post.stepE (f := fun zs M2 => φ (fd ++ [] ++ zs) M2) p fun zs H2 ι2 F2 M2 ys e2 l2 r2 rz p2 => ⟨by rw [RepL.length rz]; exact hkw.al _ _ _ _ e2, fin (xs := []) l2 r2 rfl rz p2⟩
  | cons e es =>
    refine callArgs (Q2 := fun vs zs H2 => vs.length = (e :: es).length ∧ zs.length = kws.length ∧ spD (kx X T) rs φ (fv ++ vs ++ zs) H2 Q (fun c d H => W c d σ H)) hk I h2 h3 ha hkw ⟨ι, F, ds, M, r, rS, ?_⟩
      fun us ws vs zs H2 s2 I2 ru rz q => go us ws vs zs H2 s2 I2 ru rz (by rw [← ru.length]; exact q.1) (by rw [← rz.length]; exact q.2.1) q.2.2
    refine p.stepE fun vs H1 ι1 F1 M1 xs e1 l1 r1 rv p1 => ⟨ι1, F1, ds, M1, r1, rS.le l1, p1.stepE fun zs H2 ι2 F2 M2 ys e2 l2 r2 rz p2 => ⟨by rw [RepL.length rv]; exact ha.al _ _ _ _ e1, by rw [RepL.length rz]; exact hkw.al _ _ _ _ e2, ?_⟩⟩
    exact fin (l1.trans l2) r2 (RepL.le l2 rv) rz p2
end
end LD
namespace LD
open PySem PySem.Spec PyProof.Rows L2

section
variable {X : Cx} {T : Tab} {W : WX} {k : Nat} {φ : FnD} {f C : Addr} {o a b : Expr} {es : List Expr} {kws : List Keyword} {α κ : Sem1 (List D)} {ψ χ : Sem1 D} {x m : Str} {p pos apos kpos : Pos}
theorem kw_count (h3 : kws.all (fun k => (kwN k).isSome) = true) : (kws.filterMap kwN).length = kws.length := by
  induction kws with
  | nil => rfl
  | cons k ks ih =>
    rw [List.all_cons, Bool.and_eq_true] at h3
    obtain ⟨n, hn⟩ := Option.isSome_iff_exists.mp h3.1
    rw [List.filterMap_cons, hn]
    show _ + 1 = _ + 1
    rw [ih h3.2]
theorem d_call (c : Callee X.prog X.w X.K X.mg X.base T k f es.length (kws.filterMap kwN) φ) (hr : Room k X.A) (tk : Takes X W) (hg : Gl X x) (hm : X.mg x = some (.ref f)) (hk : PySem.W.keepIn X.K (.ref f) = true) (hdb : (x == ("__debug__" : Str)) = false)
    (hα : es = [] → α = aNil) (h2 : es.any isStar = false) (h3 : kws.all (fun k => (kwN k).isSome) = true) (ha : KA X T W es α) (hkw : KK X T W kws κ) : KE X T W (.Call (.Name x p) es kws pos) (eCall φ α κ) := by
  refine fun rs => ⟨fun pins s σ H Q I h => ?_⟩
  obtain ⟨ι, F, st, M, r, rS, q⟩ := h
  refine wpAny_Call_Name_kw (ld_glob I hg hm (call_both (first := []) (fv := []) (fd := []) hk I hα h2 h3 ha hkw r rS rfl q fun us ws vs zs H2 s2 I2 ru rz l1 l2 q2 => ?_) hdb)
  exact run_callee c hr tk I2 l1 (l2.trans (kw_count h3).symm) ru rz q2
/-- a new instance: the memory's next place, then __init__ -/
def mkF (c n : Nat) (φ : FnD) : FnD := fun xs M => (φ (.ref M.length :: xs) (M ++ [.ins c (List.replicate n none)])).bind fun v M' => match v with
  | .non => .ok (.ref M.length) M'
  | _ => .bad
theorem run_mk {rs : List (Addr × HO)} {c n nn : Nat} {ks : List Str} {ly : List Str} {pins : List (Addr × Obj)} {σ : L2.St} {H : Hp} {s : Shared} {Q : VK} {us ws : List Value} {vs zs : List V} (hc : T.ct[c]? = some (C, ly)) (hn : n = ly.length) (M : Mk X.K C f)
    (cl : Callee X.prog X.w X.K X.mg X.base T k f (nn + 1) ks φ) (hr : Room (k + 1) X.A) (tk : Takes X W) (I : Inv X pins σ H s) (h1 : us.length = nn) (h2 : ws.length = ks.length)
    (r1 : Vals vs us) (r2 : Vals zs ws) (h : spD (kx X T) rs (mkF c n φ) (vs ++ zs) H Q (fun c d H => W c d σ H)) : wpAny (model X.prog X.w) X.A (call (.ref C) us (ks.zip ws)) (EP X pins σ Q) X.xe s := by
  obtain ⟨ι, F, ds, Me, r, rd, p⟩ := h
  have nx : H (s.heap.objs.size + 1) = none := I.hok.fresh (Nat.le_succ _)
  have nd : H s.heap.objs.size = none := I.hok.fresh (Nat.le_refl _)
  have ne : s.heap.objs.size + 1 ≠ s.heap.objs.size := Nat.ne_of_gt (Nat.lt_succ_self _)
  have I2 := Inv.made (C := C) I
  have ra := r.frozen (p := s.heap.objs.size) (o := .own (s.heap.objs.size + 1)) nd
  have nx1 : (upd H s.heap.objs.size (.own (s.heap.objs.size + 1))) (s.heap.objs.size + 1) = none := by rw [upd_ne ne]; exact nx
  have rb := ra.fresh (p := s.heap.objs.size + 1) (o := .ins C s.heap.objs.size []) (u := .ins c (List.replicate n none)) nx1 rfl ⟨C, ly, _, [], hc, upd_same, List.Pairwise.nil, fun f hf => (by cases hf), (by rw [List.length_replicate, hn]), fun j f e1 d e2 => (by
    rw [List.getElem?_replicate] at e2
    split at e2 <;> cases e2)⟩
  have lb : Le (kx X T) ι F (ι ++ [s.heap.objs.size + 1]) (upd F s.heap.objs.size (.own (s.heap.objs.size + 1))) := (Le.new (r.free nd)).trans Le.push
  have sp : spD (kx X T) rs φ (V.ref (s.heap.objs.size + 1) :: vs ++ zs) (upd (upd H s.heap.objs.size (.own (s.heap.objs.size + 1))) (s.heap.objs.size + 1) (.ins C s.heap.objs.size [])) (fun v H2 => v = .non ∧ Q (.ref (s.heap.objs.size + 1)) H2) (fun c d H => W c d σ H) := by
    refine ⟨_, _, .ref Me.length :: ds, _, rb, ⟨_, _, rfl, ⟨_, rfl, by rw [← r.len]; simp⟩, RepL.le lb rd⟩, ?_⟩
    refine Post.step (rep2 := repD (kx X T)) (Q := Q) (Post.le lb p) fun v H' ι' F' M' d l' r' rv p' => ?_
    cases d with
    | non => exact ⟨rv, p'.fin r' (show Rep (kx X T) ι' F' (.ref Me.length) (V.ref (s.heap.objs.size + 1)) from l' (.ref Me.length) _ ⟨_, rfl, by rw [← r.len]; simp⟩)⟩
    | _ => exact p'.elim
  refine wpAny_call (make_map (f := f) I.kIn M.makes M.init (beq_iff_eq.mp M.fn) (codeAny_mono (cl.run rs _ X.stack _ _ (Value.ref (s.heap.objs.size + 1) :: us) ws (V.ref (s.heap.objs.size + 1) :: vs) zs _ (fun c d H => W c d σ H) (hr.make C us (ks.zip ws))
    (I2.env0.make C us (ks.zip ws)) (by rw [List.length_cons, h1]) h2 (.cons rfl r1) r2 sp) fun r s' hq' => ?_))
  cases r with
  | error e => exact passAt tk σ pins _ _ e s' I2 hq'
  | ok fl =>
    cases fl with
    | ret u =>
      obtain ⟨v, H', I3, rv, ev, q3⟩ := I2.after hq'
      subst ev
      exact ⟨rv, ⟨V.ref (s.heap.objs.size + 1), H', I3, rfl, q3⟩⟩
    | next => exact False.elim hq'
    | brk => exact False.elim hq'
    | cont => exact False.elim hq'
theorem d_make {c n : Nat} {ly : List Str} (hc : T.ct[c]? = some (C, ly)) (hn : n = ly.length) (M : Mk X.K C f) (cl : Callee X.prog X.w X.K X.mg X.base T k f (es.length + 1) (kws.filterMap kwN) φ) (hr : Room (k + 1) X.A) (tk : Takes X W) (hg : Gl X x)
    (hm : X.mg x = some (.ref C)) (hdb : (x == ("__debug__" : Str)) = false) (hα : es = [] → α = aNil) (h2 : es.any isStar = false) (h3 : kws.all (fun k => (kwN k).isSome) = true) (ha : KA X T W es α) (hkw : KK X T W kws κ) :
    KE X T W (.Call (.Name x p) es kws pos) (eCall (mkF c n φ) α κ) := by
  refine fun rs => ⟨fun pins s σ H Q I h => ?_⟩
  obtain ⟨ι, F, st, Me, r, rS, q⟩ := h
  refine wpAny_Call_Name_kw (ld_glob I hg hm (call_both (first := []) (fv := []) (fd := []) M.kp I hα h2 h3 ha hkw r rS rfl q fun us ws vs zs H2 s2 I2 ru rz l1 l2 q2 => ?_) hdb)
  exact run_mk hc hn M cl hr tk I2 l1 (l2.trans (kw_count h3).symm) ru rz q2
/-- o.m(..): by the class of o -/
def eMeth (tbl : List (Nat × FnD)) (o : Sem1 D) (α κ : Sem1 (List D)) : Sem1 D := fun s M => (o s M).bind fun x M0 => match x with
  | .ref i => match M0[i]? with
    | some (.ins c _) => match tbl.lookup c with
      | some φ => (α s M0).bind fun ds M1 => (κ s M1).bind fun zs M2 => φ ([.ref i] ++ ds ++ zs) M2
      | none => .bad
    | _ => .bad
  | _ => .bad
theorem lookup_none {β : Type} {f : Str} : ∀ {l : List (Str × β)}, f ∉ l.map (·.1) → l.lookup f = none
  | [], _ => rfl
  | (g, v) :: l, h => by
    rw [List.map_cons, List.mem_cons, not_or] at h
    rw [List.lookup_cons, show (f == g) = false from beq_eq_false_iff_ne.mpr h.1]
    exact lookup_none h.2
theorem d_meth {tbl : List (Nat × FnD)} (ht : ∀ c φ, tbl.lookup c = some φ → ∃ C ly g k, T.ct[c]? = some (C, ly) ∧ m ∉ ly ∧ Cls X.K C ∧ Meth X.K C m g ∧ Callee X.prog X.w X.K X.mg X.base T k g (es.length + 1) (kws.filterMap kwN) φ ∧ Room k X.A) (tk : Takes X W)
    (ho : KE X T W o ψ) (h1 : isSup o = false) (h4 : decide (es.length + kws.length < 29) = true) (h5 : (apos.endLine == pos.line) = true) (hα : es = [] → α = aNil) (h2 : es.any isStar = false) (h3 : kws.all (fun k => (kwN k).isSome) = true) (ha : KA X T W es α) (hkw : KK X T W kws κ) :
    KE X T W (.Call (.Attribute o m apos) es kws pos) (eMeth tbl ψ α κ) := by
  refine fun rs => ⟨fun pins s σ H Q I h => ?_⟩
  refine PySem.W.methodCall_KW (thn ((ho rs).run pins s σ H (fun v H1 => ∃ ι F st M i c fs φ, Rel (kx X T) ι F rs H1 M ∧ RepS (kx X T) ι F st σ ∧ Rep (kx X T) ι F (.ref i) v ∧ M[i]? = some (.ins c fs) ∧ tbl.lookup c = some φ ∧
    Post (kx X T) rs (repD (kx X T)) ι F (fun c d => W c d σ) Q ((α st M).bind fun ds M1 => (κ st M1).bind fun zs M2 => φ ([.ref i] ++ ds ++ zs) M2)) I ?_) fun u s1 ⟨v, H1, I1, rv, q⟩ => ?_) (meth_eval h1 h2 h3 h4 h5)
  · obtain ⟨ι, F, st, M, r, rS, q⟩ := h
    refine ⟨ι, F, st, M, r, rS, q.step fun v H1 ι1 F1 M1 x l1 r1 rv p1 => ?_⟩
    cases x with
    | ref i =>
      simp only at p1
      split at p1
      · rename_i c fs hM
        split at p1
        · rename_i φ hφ
          exact ⟨ι1, F1, st, M1, i, c, fs, φ, r1, rS.le l1, rv, hM, hφ, p1⟩
        · exact p1.elim
      · exact p1.elim
    | _ => exact p1.elim
  · obtain ⟨ι, F, st, M, i, c, fs, φ, r, rS, ri, hM, hφ, p⟩ := q
    obtain ⟨a, rfl, hi⟩ := ri
    obtain rfl : u = Value.ref a := rv
    obtain ⟨C, ly, g, k, hc, hml, cl, me, ce, hr⟩ := ht c φ hφ
    obtain ⟨_, C', ly', dx, vs, hc', hH, _, hly, _, _⟩ := r.obj i _ a hM hi rfl
    have e2 : (C, ly) = (C', ly') := Option.some.inj (hc.symm.trans hc')
    cases e2
    have hl : vs.lookup m = none := lookup_none fun z => hml (hly m z)
    refine getmeth_ok I1 hH cl me hl ?_
    refine call_both (first := [.ref a]) (fv := [.ref a]) (fd := [.ref i]) me.kp I1 hα h2 h3 ha hkw r rS (.one ⟨a, rfl, hi⟩) p fun us ws vs zs H2 s2 I2 ru rz l1 l2 q2 => ?_
    exact run_callee (vs := .ref a :: vs) ce hr tk I2 (us := .ref a :: us) (by rw [List.length_cons, l1]) (l2.trans (kw_count h3).symm) (.cons rfl ru) rz q2
/-- o.f: a property, or a field -/
def eAttr (tp : List (Nat × FnD)) (tf : List (Nat × Nat)) (o : Sem1 D) : Sem1 D := fun s M => (o s M).bind fun x M0 => match x with
  | .ref i => match M0[i]? with
    | some (.ins c fs) => match tp.lookup c with
      | some φ => match φ [.ref i] M0 with
        | .ok d M1 => .ok d M1
        | _ => .bad
      | none => match tf.lookup c with
        | some j => match fs[j]? with
          | some (some d) => .ok d M0
          | _ => .bad
        | none => .bad
    | _ => .bad
  | _ => .bad
theorem getprop_d {rs : List (Addr × HO)} {pins : List (Addr × Obj)} {σ : L2.St} {H : Hp} {s : Shared} {Q : VK} {bb : Bool} {E' : Value → Shared → Prop} {g pp dx : Addr} {fs : List (Str × V)} {a : Addr} (I : Inv X pins σ H s) (ea : H a = some (.ins C dx fs)) (c : Cls X.K C) (hp : PropOf X.K C m pp g)
    (cl : Callee X.prog X.w X.K X.mg X.base T k g 1 [] φ) (hr : Room (k + 1) X.A) (h : spD (kx X T) rs φ [.ref a] H Q (fun _ _ _ => False)) : wpAny (model X.prog X.w) X.A (getAttr (.ref a) m bb) (EP X pins σ Q) E' s := by
  obtain ⟨mA, O, _, _, _, _⟩ := ins_get I.hok ea
  obtain ⟨od, J, _⟩ := O.look
  obtain ⟨rest, hrec⟩ := hp.rec_
  have I1 := I.tok (s.toks + 1)
  have hc : (PySem.W.clsIn X.K C).isSome = true := by
    obtain ⟨cd, hc, _⟩ := PySem.W.any_some c.hd
    rw [hc]
    rfl
  refine PySem.W.get_bind I.kIn J (PySem.W.plainGet_of (c.get m)).1 (PySem.W.findObj_data hc hp.at_ hp.get hp.tak) (PySem.W.plainGet_of (c.get m)).2 (wpAny_call (PySem.W.prop_get (s := { s with toks := s.toks + 1 }) I.kIn hrec ?_))
  refine codeAny_mono (cl.run rs X.A.in1 X.stack { s with toks := s.toks + 1 } H [.ref a] [] [.ref a] [] Q _ hr.in1 I1.env0.in1 rfl rfl (.cons rfl .nil) .nil h) fun r s' hq => ?_
  cases r with
  | error er =>
    obtain ⟨a, B, H', cls, d, _, _, _, _, _, _, _, z⟩ := hq
    exact z.elim
  | ok fl =>
    cases fl with
    | ret u =>
      obtain ⟨v, H', I3, rv, q3⟩ := I1.after hq
      show wpAny _ _ (handedOut u) _ _ _
      rw [PySem.W.handedOut_of (handed_of rv)]
      exact wpAny_pure ⟨v, H', I3, rv, q3⟩
    | next => exact False.elim hq
    | brk => exact False.elim hq
    | cont => exact False.elim hq
theorem d_attr {tp : List (Nat × FnD)} {tf : List (Nat × Nat)} (ht : ∀ c φ, tp.lookup c = some φ → ∃ C ly pp g k, T.ct[c]? = some (C, ly) ∧ Cls X.K C ∧ PropOf X.K C m pp g ∧ Callee X.prog X.w X.K X.mg X.base T k g 1 [] φ ∧ Room (k + 1) X.A)
    (hf : ∀ c j, tp.lookup c = none → tf.lookup c = some j → ∃ C ly, T.ct[c]? = some (C, ly) ∧ Cls X.K C ∧ NoAttr X.K C m ∧ ly[j]? = some m) (ho : KE X T W o ψ) (h1 : isSup o = false) : KE X T W (.Attribute o m pos) (eAttr tp tf ψ) := by
  refine fun rs => ⟨fun pins s σ H Q I h => ?_⟩
  refine attr_of (noSup h1) (thn ((ho rs).run pins s σ H (fun v H1 => (∃ ι F M i c fs φ, Rel (kx X T) ι F rs H1 M ∧ Rep (kx X T) ι F (.ref i) v ∧ M[i]? = some (.ins c fs) ∧ tp.lookup c = some φ ∧ Post (kx X T) rs (repD (kx X T)) ι F (fun _ _ _ => False) Q (φ [.ref i] M)) ∨
    ∃ ι F M i c fs j d, Rel (kx X T) ι F rs H1 M ∧ Rep (kx X T) ι F (.ref i) v ∧ M[i]? = some (.ins c fs) ∧ tp.lookup c = none ∧ tf.lookup c = some j ∧ fs[j]? = some (some d) ∧ ∀ w, Rep (kx X T) ι F d w → Q w H1) I ?_) fun u s1 ⟨v, H1, I1, rv, q⟩ => ?_)
  · obtain ⟨ι, F, st, M, r, rS, q⟩ := h
    refine ⟨ι, F, st, M, r, rS, q.step fun v H1 ι1 F1 M1 x l1 r1 rv p1 => ?_⟩
    cases x with
    | ref i =>
      simp only at p1
      split at p1
      · rename_i c fs hM
        split at p1
        · rename_i φ hφ
          refine .inl ⟨ι1, F1, M1, i, c, fs, φ, r1, rv, hM, hφ, ?_⟩
          cases e : φ [.ref i] M1 with
          | ok d M2 => rw [e] at p1; exact p1
          | er x M2 => rw [e] at p1; exact p1.elim
          | bad => rw [e] at p1; exact p1.elim
        · rename_i hφ
          split at p1
          · rename_i j hj
            split at p1
            · rename_i d hd
              exact .inr ⟨ι1, F1, M1, i, c, fs, j, d, r1, rv, hM, hφ, hj, hd, fun w rw => p1.fin r1 rw⟩
            · exact p1.elim
          · exact p1.elim
      · exact p1.elim
    | _ => exact p1.elim
  · rcases q with ⟨ι, F, M, i, c, fs, φ, r, ri, hM, hφ, p⟩ | ⟨ι, F, M, i, c, fs, j, d, r, ri, hM, hφ, hj, hd, p⟩
    · obtain ⟨a, rfl, hi⟩ := ri
      obtain rfl : u = Value.ref a := rv
      obtain ⟨C, ly, pp, g, k, hc, cl, pr, ce, hr⟩ := ht c φ hφ
      obtain ⟨_, C', ly', dx, vs, hc', hH, _, hly, _, _⟩ := r.obj i _ a hM hi rfl
      have e2 : (C, ly) = (C', ly') := Option.some.inj (hc.symm.trans hc')
      cases e2
      exact getprop_d I1 hH cl pr ce hr ⟨ι, F, [.ref i], M, r, .one ⟨a, rfl, hi⟩, p⟩
    · obtain ⟨a, rfl, hi⟩ := ri
      obtain rfl : u = Value.ref a := rv
      obtain ⟨C, ly, hc, cl, na, hl⟩ := hf c j hφ hj
      obtain ⟨_, C', ly', dx, vs, hc', hH, _, hly, _, hg⟩ := r.obj i _ a hM hi rfl
      have e2 : (C, ly) = (C', ly') := Option.some.inj (hc.symm.trans hc')
      cases e2
      obtain ⟨w, hw, rw⟩ := hg j m hl d hd
      exact getattr_ok I1 hH cl na hw fun u2 s2 I2 ru2 => ⟨w, H1, I2, ru2, p w rw⟩
/-- C.f, a constant of the class at C -/
theorem d_ccon {mc : Value} {v : V} {u : Value} {d : D} {p2 : Pos} (hg : Gl X x) (hm : X.mg x = some (.ref C)) (hdb : (x == ("__debug__" : Str)) = false) (cr : ClX.CRead X.K C mc) (cv : ClX.CVal X.K C mc m v u) (hr : ∀ ι F, Rep (kx X T) ι F d v) :
    KE X T W (.Attribute (.Name x p2) m pos) (eC d) := fun rs => PE.imp (ClX.pe_cval (pe_glob (v := .ref C) hg hm rfl hdb) (noSup rfl)) fun σ H Q h => by
  obtain ⟨ι, F, s, M, r, rS, p⟩ := h
  exact ⟨C, mc, v, u, rfl, cr, cv, p.fin r (hr ι F)⟩
end
end LD
namespace LD
open PySem PySem.Spec PyProof.Rows L2

/-! ### items and slices -/
def cutL {α : Type} (xs : List α) (lo hi : Option Int) : List α := (xs.drop (HT.sIx xs.length 0 lo)).take (HT.sIx xs.length xs.length hi - HT.sIx xs.length 0 lo)
/-- a new list: one that may change (mu), or a value -/
def newL (mu : Bool) (xs : List D) (M : Mem) : D × Mem := if mu then (.ref M.length, M ++ [.lst xs]) else (.lst xs, M)
def newK (mu : Bool) (kvs : List (Key × D)) (M : Mem) : D × Mem := if mu then (.ref M.length, M ++ [.dic kvs]) else (.dic (kvs.map (·.1)) (kvs.map (·.2)), M)
def sliceD (mu : Bool) (x : D) (lo hi : Option Int) (M : Mem) : Option (D × Mem) := match x with
  | .str z => if z.length ≤ LINE then some (.str (cutS z lo hi), M) else none
  | .tup xs => some (.tup (cutL xs lo hi), M)
  | x => (lsOf M x).map fun xs => newL mu (cutL xs lo hi) M
abbrev SemO := Sem1 (Option Int)
def oNone : SemO := fun _ M => .ok none M
def oSome (a : Sem1 D) : SemO := fun s M => (a s M).bind fun x M1 => match x with
  | .int i => .ok (some i) M1
  | _ => .bad
def eSlice (mu : Bool) (a : Sem1 D) (lo hi : SemO) : Sem1 D := fun s M => (a s M).bind fun x M1 => (lo s M1).bind fun l M2 => (hi s M2).bind fun h M3 => ofO (sliceD mu x l h M3)
def eRev (mu : Bool) (a : Sem1 D) : Sem1 D := fun s M => (a s M).bind fun x M1 => match lsOf M1 x with
  | some xs => ofO (some (newL mu xs.reverse M1))
  | none => .bad
abbrev repOI : List Addr → Hp → Option Int → Option Int → Prop := fun _ _ a b => b = a
section
variable {X : Cx} {T : Tab} {W : WX} {a b o e : Expr} {es : List Expr} {α : Sem1 (List D)} {φ ψ : Sem1 D} {p2 pos : Pos} {K : KX} {ι : List Addr} {F H : Hp} {M : Mem} {rs : List (Addr × HO)}
theorem d_sub (hu : X.A.units + 1 < cLine) (ha : KE X T W a φ) (hb : KE X T W b ψ) (hs : PlainIx b) : KE X T W (.Subscript a b pos) (eBin ixD φ ψ) := fun rs => PE.imp (pe_ix (i_ix hu) (ha rs) (hb rs) hs) fun _ _ _ h => lg_op h
structure KO (X : Cx) (T : Tab) (W : WX) (e : Option Expr) (φ : SemO) : Prop where
  po : ∀ rs, PO X e (LG (kx X T) rs repOI W φ)
theorem ko_none : KO X T W none oNone := ⟨fun rs => ⟨fun pins s σ H Q I h => po_none.run pins s σ H Q I (by
  obtain ⟨ι, F, st, M, r, rS, p⟩ := h
  exact p.fin r rfl)⟩⟩
theorem ko_some (h : KE X T W e φ) : KO X T W (some e) (oSome φ) := ⟨fun rs => ⟨fun pins s σ H Q I hw => (po_some (h rs)).run pins s σ H Q I (by
  obtain ⟨ι, F, st, M, r, rS, p⟩ := hw
  refine ⟨ι, F, st, M, r, rS, p.step fun v H1 ι1 F1 M1 x l1 r1 rv p1 => ?_⟩
  cases x with
  | int i => exact ⟨i, rv, p1.fin r1 rfl⟩
  | _ => exact p1.elim)⟩⟩
theorem SlR.imp {r r' : V → Option Int → Option Int → Hp → VK → Prop} (h : SlR X r) (i : ∀ x lo hi H Q, r' x lo hi H Q → r x lo hi H Q) : SlR X r' :=
  fun pins s σ H x v vl vu lo hi sl Q I rx hs pl pu q => h pins s σ H x v vl vu lo hi sl Q I rx hs pl pu (i _ _ _ _ _ q)
theorem RepL.cut {ds : List D} {vs : List V} (h : RepL K ι F ds vs) (lo hi : Option Int) : RepL K ι F (cutL ds lo hi) (cutV vs lo hi) := by
  unfold cutL cutV
  rw [h.length]
  exact (h.drop _).take _
/-- a new list laid as newL says -/
theorem newL_at {mu : Bool} {xs : List D} {vs : List V} {z : D} {M' : Mem} {Q : VK} (r : Rel K ι F rs H M) (rv : RepL K ι F xs vs) (e : newL mu xs M = (z, M'))
    (q : ∀ ι' F' H' u, Le K ι F ι' F' → Rel K ι' F' rs H' M' → Rep K ι' F' z u → Q u H') : ∀ p, H p = none → Q (.ref p) (upd H p (.lst vs)) := fun p hp => by
  unfold newL at e
  cases mu with
  | true =>
    cases e
    exact q (ι ++ [p]) F _ _ Le.push (r.fresh hp rfl ⟨vs, upd_same, RepL.le Le.push rv⟩) ⟨p, rfl, by rw [← r.len]; simp⟩
  | false =>
    cases e
    exact q ι (upd F p (.lst vs)) _ _ (Le.new (r.free hp)) (r.frozen hp) ⟨p, vs, rfl, .inl (.inl upd_same), RepL.le (Le.new (r.free hp)) rv⟩
theorem newK_at {mu : Bool} {kvs : List (Key × D)} {vs : List (Key × V)} {z : D} {M' : Mem} {Q : VK} (r : Rel K ι F rs H M) (m : vs.map (·.1) = kvs.map (·.1)) (rv : RepL K ι F (kvs.map (·.2)) (vs.map (·.2))) (e : newK mu kvs M = (z, M'))
    (q : ∀ ι' F' H' u, Le K ι F ι' F' → Rel K ι' F' rs H' M' → Rep K ι' F' z u → Q u H') : ∀ p, H p = none → Q (.ref p) (upd H p (.dK vs)) := fun p hp => by
  unfold newK at e
  cases mu with
  | true =>
    cases e
    exact q (ι ++ [p]) F _ _ Le.push (r.fresh hp rfl ⟨vs, upd_same, m, RepL.le Le.push rv⟩) ⟨p, rfl, by rw [← r.len]; simp⟩
  | false =>
    cases e
    exact q ι (upd F p (.dK vs)) _ _ (Le.new (r.free hp)) (r.frozen hp) ⟨p, vs, rfl, .inl upd_same, m, RepL.le (Le.new (r.free hp)) rv⟩
def RSl (K : KX) (rs : List (Addr × HO)) (mu : Bool) : V → Option Int → Option Int → Hp → VK → Prop := fun v lo hi H Q => ∃ ι F M x z M', Rel K ι F rs H M ∧ Rep K ι F x v ∧ sliceD mu x lo hi M = some (z, M') ∧ ∀ ι' F' H' u, Le K ι F ι' F' → Rel K ι' F' rs H' M' → Rep K ι' F' z u → Q u H'
theorem s_slice {mu : Bool} : SlR X (RSl (kx X T) rs mu) := SlR.imp (SlR.or sl_list (SlR.or sl_str sl_tupA)) fun v lo hi H Q h => by
  obtain ⟨ι, F, M, x, z, M', r, rx, e, q⟩ := h
  unfold sliceD at e
  split at e
  · split at e
    · rename_i hz
      cases e
      exact .inr (.inl ⟨_, rx, by rw [← line_eq]; exact hz, q ι F H _ Le.refl r rfl⟩)
    · cases e
  · cases e
    obtain ⟨a, vs, rfl, s1, l1⟩ := rx
    refine .inr (.inr ⟨a, vs, rfl, sqt_sub r s1, fun hw => ?_, fun hw p hp => ?_⟩)
    · refine q ι F H _ Le.refl r ⟨a, vs, rfl, s1, ?_⟩
      have e1 := l1.cut lo hi
      have e2 : cutV vs lo hi = vs := by
        unfold cutV
        rw [hw.1, hw.2]
        simp
      rw [e2] at e1
      exact e1
    · exact q ι (upd F p (.tup (cutV vs lo hi))) _ _ (Le.new (r.free hp)) (r.frozen hp) ⟨p, _, rfl, .inl (.inl upd_same), RepL.le (Le.new (r.free hp)) (l1.cut lo hi)⟩
  · obtain ⟨xs, e1, e2⟩ := Option.map_eq_some_iff.mp e
    obtain ⟨a, vs, rfl, s1, l1⟩ := lsOf_at r e1 rx
    exact .inl ⟨a, vs, rfl, s1, newL_at r (l1.cut lo hi) e2 q⟩
theorem d_slice {mu : Bool} {lo hi : Option Expr} {ol oh : SemO} (ha : KE X T W a φ) (hl : KO X T W lo ol) (hh : KO X T W hi oh) : KE X T W (.Subscript a (.Slice lo hi none p2) pos) (eSlice mu φ ol oh) := fun rs => PE.imp (pe_slice (s_slice (mu := mu)) (ha rs) (hl.po rs) (hh.po rs)) fun σ H Q h => by
  obtain ⟨ι, F, st, M, r, rS, p⟩ := h
  refine ⟨ι, F, st, M, r, rS, p.step fun v H1 ι1 F1 M1 x l1 r1 rv p1 => ?_⟩
  refine ⟨ι1, F1, st, M1, r1, rS.le l1, p1.step fun lo' H2 ι2 F2 M2 lo'' l2 r2 e1 p2 => ?_⟩
  refine ⟨ι2, F2, st, M2, r2, (rS.le l1).le l2, p2.step fun hi' H3 ι3 F3 M3 hi'' l3 r3 e2 p3 => ?_⟩
  have e1 : lo' = lo'' := e1
  have e2 : hi' = hi'' := e2
  subst e1 e2
  cases e : sliceD mu x lo' hi' M3 with
  | none => rw [e] at p3; exact p3.elim
  | some z =>
    obtain ⟨z, M'⟩ := z
    rw [e] at p3
    exact ⟨ι3, F3, M3, x, z, M', r3, l3 _ _ (l2 _ _ rv), e, p3⟩
theorem d_rev {mu : Bool} {k : Nat} {p1 p3 : Pos} (ha : KE X T W a φ) : KE X T W (.Subscript a (.Slice none none (some (.UnaryOp .USub (.Constant (.int 1) k p1) p2)) p3) pos) (eRev mu φ) := fun rs => PE.imp (pe_revL (ha rs)) fun σ H Q h => by
  obtain ⟨ι, F, st, M, r, rS, p⟩ := h
  refine ⟨ι, F, st, M, r, rS, p.step fun v H1 ι1 F1 M1 x l1 r1 rv p1 => ?_⟩
  split at p1
  · rename_i xs e1
    obtain ⟨a, vs, rfl, s1, l1⟩ := lsOf_at r1 e1 rv
    exact ⟨a, vs, rfl, s1, newL_at (z := (newL mu xs.reverse M1).1) r1 l1.reverse rfl p1⟩
  · exact p1.elim

/-! ### built-in functions -/
abbrev OL := List D → Mem → Option (D × Mem)
def RC (K : KX) (rs : List (Addr × HO)) (g : OL) : List V → Hp → VK → Prop := fun vs H Q => ∃ ι F M ds z M', Rel K ι F rs H M ∧ RepL K ι F ds vs ∧ g ds M = some (z, M') ∧ ∀ ι' F' H' u, Le K ι F ι' F' → Rel K ι' F' rs H' M' → Rep K ι' F' z u → Q u H'
def eBlt (g : OL) (α : Sem1 (List D)) : Sem1 D := fun s M => (α s M).bind fun ds M1 => ofO (g ds M1)
theorem lg_blt {g : OL} {σ : L2.St} {Q : VK} (h : LE (kx X T) rs W (eBlt g α) σ H Q) : tCB (RC (kx X T) rs g) (LA (kx X T) rs W α) σ H Q := by
  obtain ⟨ι, F, st, M, r, rS, p⟩ := h
  refine ⟨ι, F, st, M, r, rS, p.step fun vs H1 ι1 F1 M1 ds l1 r1 rv p1 => ?_⟩
  cases e : g ds M1 with
  | none => rw [e] at p1; exact p1.elim
  | some z =>
    obtain ⟨z, M'⟩ := z
    rw [e] at p1
    exact ⟨ι1, F1, M1, ds, z, M', r1, rv, e, p1⟩
theorem d_blt {id : String} {x : Str} {p : Pos} {g : OL} (hc : ∀ rs, CallR X (.builtin id) (RC (kx X T) rs g)) (hg : Gl X x) (hm : X.mg x = none) (hv : bootBuiltins x = some (.builtin id)) (hn : x ≠ "__name__") (hdb : (x == ("__debug__" : Str)) = false) (ha : KA X T W (e :: es) α) (h2 : (e :: es).any isStar = false) :
    KE X T W (.Call (.Name x p) (e :: es) [] pos) (eBlt g α) := by
  rw [List.any_cons, Bool.or_eq_false_iff] at h2
  exact fun rs => PE.imp (pe_callB (hc rs) hg hm hv (ha.pa rs) hn hdb (star_cons h2.1) (star_any h2.2)) fun σ H Q h => lg_blt h
theorem d_bty {id : String} {x : Str} {p : Pos} {g : OL} (hc : ∀ rs, CallR X (.type id) (RC (kx X T) rs g)) (hg : Gl X x) (hm : X.mg x = none) (hv : bootBuiltins x = some (.type id)) (hn : x ≠ "__name__") (hdb : (x == ("__debug__" : Str)) = false) (ha : KA X T W (e :: es) α) (h2 : (e :: es).any isStar = false) :
    KE X T W (.Call (.Name x p) (e :: es) [] pos) (eBlt g α) := by
  rw [List.any_cons, Bool.or_eq_false_iff] at h2
  exact fun rs => PE.imp (pe_callTy (hc rs) hg hm hv (ha.pa rs) hn hdb (star_cons h2.1) (star_any h2.2)) fun σ H Q h => lg_blt h
theorem CallR.imp {f : Value} {r r' : List V → Hp → VK → Prop} (h : CallR X f r) (i : ∀ xs H Q, r' xs H Q → r xs H Q) : CallR X f r' := fun pins s σ H xs us Q I rv q => h pins s σ H xs us Q I rv (i _ _ _ q)
theorem one_of {d : D} {vs : List V} (h : RepL K ι F [d] vs) : ∃ v, vs = [v] ∧ Rep K ι F d v := by
  obtain ⟨v, r, rfl, h1, h2⟩ := h
  have e : r = [] := h2
  exact ⟨v, by rw [e], h1⟩
theorem two_of {d d' : D} {vs : List V} (h : RepL K ι F [d, d'] vs) : ∃ v w, vs = [v, w] ∧ Rep K ι F d v ∧ Rep K ι F d' w := by
  obtain ⟨v, r, rfl, h1, h2⟩ := h
  obtain ⟨w, rfl, h3⟩ := one_of h2
  exact ⟨v, w, rfl, h1, h3⟩
def lenC : OL := fun ds M => match ds with
  | [.str x] => if x.length ≤ LINE then some (.int x.length, M) else none
  | [.tup xs] => some (.int xs.length, M)
  | [.ref i] => match M[i]? with
    | some (.lst xs) => some (.int xs.length, M)
    | some (.dic kvs) => some (.int kvs.length, M)
    | _ => none
  | [.lst xs] => some (.int xs.length, M)
  | _ => none
theorem c_len : CallR X (.builtin "len") (RC (kx X T) rs lenC) := CallR.imp (CallR.or call_len_seq (CallR.or call_len_str call_lenD)) fun vs H Q h => by
  obtain ⟨ι, F, M, ds, z, M', r, rv, e, q⟩ := h
  unfold lenC at e
  split at e
  · split at e
    · rename_i hz
      cases e
      obtain ⟨v, rfl, h1⟩ := one_of rv
      have h1' := h1
      cases h1'
      exact .inr (.inl ⟨_, rfl, by rw [← line_eq]; exact hz, q ι F H _ Le.refl r rfl⟩)
    · cases e
  · cases e
    obtain ⟨v, rfl, a, ws, rfl, s1, l1⟩ := one_of rv
    exact .inl ⟨a, ws, rfl, .inr (sqt_sub r s1), q ι F H _ Le.refl r (by rw [l1.length] <;> rfl)⟩
  · rename_i i
    split at e
    · rename_i xs hM
      cases e
      obtain ⟨v, rfl, a, rfl, hi⟩ := one_of rv
      obtain ⟨_, ws, h2, h3⟩ := r.obj i _ a hM hi rfl
      exact .inl ⟨a, ws, rfl, .inl (.inl (.inl h2)), q ι F H _ Le.refl r (by rw [h3.length] <;> rfl)⟩
    · rename_i kvs hM
      cases e
      obtain ⟨v, rfl, a, rfl, hi⟩ := one_of rv
      obtain ⟨_, ws, h2, h3, h4⟩ := r.obj i _ a hM hi rfl
      have hl := congrArg List.length h3
      rw [List.length_map, List.length_map] at hl
      exact .inr (.inr ⟨a, ws, rfl, h2, q ι F H _ Le.refl r (by rw [hl] <;> rfl)⟩)
    · cases e
  · cases e
    obtain ⟨v, rfl, a, ws, rfl, s1, l1⟩ := one_of rv
    exact .inl ⟨a, ws, rfl, .inl (sql_sub r s1), q ι F H _ Le.refl r (by rw [l1.length] <;> rfl)⟩
  · cases e
def intC : OL := fun ds M => match ds with
  | [.int i] => some (.int i, M)
  | [.bl b] => some (.int (if b then 1 else 0), M)
  | _ => none
theorem c_int : CallR X (.type "int") (RC (kx X T) rs intC) := CallR.imp call_int1 fun vs H Q h => by
  obtain ⟨ι, F, M, ds, z, M', r, rv, e, q⟩ := h
  unfold intC at e
  split at e
  · cases e
    obtain ⟨v, rfl, h1⟩ := one_of rv
    cases h1
    exact .inl ⟨_, rfl, q ι F H _ Le.refl r rfl⟩
  · cases e
    obtain ⟨v, rfl, h1⟩ := one_of rv
    cases h1
    exact .inr ⟨_, rfl, q ι F H _ Le.refl r rfl⟩
  · cases e
def strC : OL := fun ds M => match ds with
  | [.int i] => if i.natAbs.log2 < 1920 then some (.str (toString i), M) else none
  | [.str x] => some (.str x, M)
  | _ => none
theorem c_str : CallR X (.type "str") (RC (kx X T) rs strC) := CallR.imp (CallR.or call_str_int SkE.call_str_str) fun vs H Q h => by
  obtain ⟨ι, F, M, ds, z, M', r, rv, e, q⟩ := h
  unfold strC at e
  split at e
  · split at e
    · rename_i hz
      cases e
      obtain ⟨v, rfl, h1⟩ := one_of rv
      cases h1
      exact .inl ⟨_, rfl, hz, q ι F H _ Le.refl r rfl⟩
    · cases e
  · cases e
    obtain ⟨v, rfl, h1⟩ := one_of rv
    cases h1
    exact .inr ⟨_, rfl, q ι F H _ Le.refl r rfl⟩
  · cases e
def absC : OL := fun ds M => match ds with
  | [.int i] => some (.int (if i < 0 then -i else i), M)
  | _ => none
theorem c_abs : CallR X (.builtin "abs") (RC (kx X T) rs absC) := CallR.imp call_abs fun vs H Q h => by
  obtain ⟨ι, F, M, ds, z, M', r, rv, e, q⟩ := h
  unfold absC at e
  split at e
  · cases e
    obtain ⟨v, rfl, h1⟩ := one_of rv
    cases h1
    exact ⟨_, rfl, q ι F H _ Le.refl r rfl⟩
  · cases e
def maxI : List Int → Int
  | [] => 0
  | [x] => x
  | x :: r => max x (maxI r)
def minI : List Int → Int
  | [] => 0
  | [x] => x
  | x :: r => min x (minI r)
theorem maxI_spec : ∀ {ns : List Int} {m : Int}, m ∈ ns → (∀ y ∈ ns, y ≤ m) → maxI ns = m
  | [], m, h, _ => by cases h
  | [x], m, h, _ => (List.mem_singleton.mp h).symm
  | x :: y :: r, m, h, hm => by
    show max x (maxI (y :: r)) = m
    have hx := hm x List.mem_cons_self
    rcases List.mem_cons.mp h with e | h
    · have hy : maxI (y :: r) ≤ m := by
        have key : ∀ (l : List Int), l ≠ [] → (∀ z ∈ l, z ≤ m) → maxI l ≤ m := by
          intro l
          induction l with
          | nil => intro h; exact absurd rfl h
          | cons a l ih =>
            intro _ hl
            cases l with
            | nil => exact hl a List.mem_cons_self
            | cons b l =>
              have := ih (by simp) fun z hz => hl z (List.mem_cons_of_mem _ hz)
              have := hl a List.mem_cons_self
              show max a (maxI (b :: l)) ≤ m
              omega
        exact key _ (by simp) fun z hz => hm z (List.mem_cons_of_mem _ hz)
      omega
    · have := maxI_spec (ns := y :: r) h fun z hz => hm z (List.mem_cons_of_mem _ hz)
      omega
theorem minI_spec : ∀ {ns : List Int} {m : Int}, m ∈ ns → (∀ y ∈ ns, m ≤ y) → minI ns = m
  | [], m, h, _ => by cases h
  | [x], m, h, _ => (List.mem_singleton.mp h).symm
  | x :: y :: r, m, h, hm => by
    show min x (minI (y :: r)) = m
    have hx := hm x List.mem_cons_self
    rcases List.mem_cons.mp h with e | h
    · have hy : m ≤ minI (y :: r) := by
        have key : ∀ (l : List Int), l ≠ [] → (∀ z ∈ l, m ≤ z) → m ≤ minI l := by
          intro l
          induction l with
          | nil => intro h; exact absurd rfl h
          | cons a l ih =>
            intro _ hl
            cases l with
            | nil => exact hl a List.mem_cons_self
            | cons b l =>
              have := ih (by simp) fun z hz => hl z (List.mem_cons_of_mem _ hz)
              have := hl a List.mem_cons_self
              show m ≤ min a (minI (b :: l))
              omega
        exact key _ (by simp) fun z hz => hm z (List.mem_cons_of_mem _ hz)
      omega
    · have := minI_spec (ns := y :: r) h fun z hz => hm z (List.mem_cons_of_mem _ hz)
      omega
def intK : List Key → Option (List Int)
  | [] => some []
  | .inl i :: r => (intK r).map fun is => i :: is
  | _ => none
theorem intK_map : ∀ {ks : List Key} {ns : List Int}, intK ks = some ns → ks = ns.map Sum.inl
  | [], ns, e => by cases e; rfl
  | .inl i :: r, ns, e => by
    obtain ⟨is, e1, rfl⟩ := Option.map_eq_some_iff.mp e
    rw [intK_map e1] <;> rfl
  | .inr x :: r, ns, e => by cases e
def maxC : OL := fun ds M => match ds with
  | [.int i, .int j] => some (.int (if j > i then j else i), M)
  | [x] => (lsOf M x).bind fun xs => (intsOf xs).bind fun ns => if ns.isEmpty then none else some (.int (maxI ns), M)
  | _ => none
def minC : OL := fun ds M => match ds with
  | [.int i, .int j] => some (.int (if j < i then j else i), M)
  | [x] => match (match x with | .ref i => M[i]? | _ => none) with
    | some (.dic kvs) => (intK (kvs.map (·.1))).bind fun ns => if ns.isEmpty then none else some (.int (minI ns), M)
    | _ => (lsOf M x).bind fun xs => (intsOf xs).bind fun ns => if ns.isEmpty then none else some (.int (minI ns), M)
  | _ => none
theorem pos_of {ns : List Int} (h : ¬ ns.isEmpty = true) : 0 < ns.length := by
  cases ns with
  | nil => exact absurd rfl h
  | cons _ _ => exact Nat.succ_pos _
theorem c_max (hc : X.calm = true) : CallR X (.builtin "max") (RC (kx X T) rs maxC) := CallR.imp (CallR.or (call_max2 hc) (cr_max hc)) fun vs H Q h => by
  obtain ⟨ι, F, M, ds, z, M', r, rv, e, q⟩ := h
  unfold maxC at e
  split at e
  · cases e
    obtain ⟨v, w, rfl, h1, h2⟩ := two_of rv
    cases h1; cases h2
    exact .inl ⟨_, _, rfl, q ι F H _ Le.refl r rfl⟩
  · obtain ⟨xs, e1, e⟩ := Option.bind_eq_some_iff.mp e
    obtain ⟨ns, e2, e⟩ := Option.bind_eq_some_iff.mp e
    split at e
    · cases e
    · rename_i hn
      cases e
      obtain ⟨v, rfl, h1⟩ := one_of rv
      obtain ⟨a, ws, rfl, s1, l1⟩ := lsOf_at r e1 h1
      have z1 := intsOf_rep e2 l1
      subst z1
      exact .inr ⟨a, ns, rfl, s1, pos_of hn, fun m hm hle => q ι F H _ Le.refl r (by rw [maxI_spec hm hle] <;> rfl)⟩
  · cases e
theorem c_min (hc : X.calm = true) : CallR X (.builtin "min") (RC (kx X T) rs minC) := CallR.imp (CallR.or (call_min2 hc) (CallR.or (cr_min hc) (cr_minK hc))) fun vs H Q h => by
  obtain ⟨ι, F, M, ds, z, M', r, rv, e, q⟩ := h
  unfold minC at e
  split at e
  · cases e
    obtain ⟨v, w, rfl, h1, h2⟩ := two_of rv
    cases h1; cases h2
    exact .inl ⟨_, _, rfl, q ι F H _ Le.refl r rfl⟩
  · rename_i x
    obtain ⟨v, rfl, h1⟩ := one_of rv
    split at e
    · rename_i kvs hd
      obtain ⟨ns, e2, e⟩ := Option.bind_eq_some_iff.mp e
      split at e
      · cases e
      · rename_i hn
        cases e
        cases x with
        | ref i =>
          obtain ⟨a, rfl, hi⟩ := h1
          obtain ⟨_, ws, h2, h3, h4⟩ := r.obj i _ a hd hi rfl
          exact .inr (.inr ⟨a, ws, ns, rfl, h2, by rw [h3]; exact intK_map e2, fun z => hn (by rw [z] <;> rfl), fun m hm hle => q ι F H _ Le.refl r (by rw [minI_spec hm hle] <;> rfl)⟩)
        | _ => cases hd
    · obtain ⟨xs, e1, e⟩ := Option.bind_eq_some_iff.mp e
      obtain ⟨ns, e2, e⟩ := Option.bind_eq_some_iff.mp e
      split at e
      · cases e
      · rename_i hn
        cases e
        obtain ⟨a, ws, rfl, s1, l1⟩ := lsOf_at r e1 h1
        have z1 := intsOf_rep e2 l1
        subst z1
        exact .inr (.inl ⟨a, ns, rfl, s1, pos_of hn, fun m hm hle => q ι F H _ Le.refl r (by rw [minI_spec hm hle] <;> rfl)⟩)
  · cases e
def sumC : OL := fun ds M => match ds with
  | [x] => (lsOf M x).bind fun xs => (intsOf xs).map fun ns => (.int ns.sum, M)
  | _ => none
theorem c_sum (hc : X.calm = true) : CallR X (.builtin "sum") (RC (kx X T) rs sumC) := CallR.imp (cr_sum hc) fun vs H Q h => by
  obtain ⟨ι, F, M, ds, z, M', r, rv, e, q⟩ := h
  unfold sumC at e
  split at e
  · obtain ⟨xs, e1, e⟩ := Option.bind_eq_some_iff.mp e
    obtain ⟨ns, e2, e⟩ := Option.map_eq_some_iff.mp e
    cases e
    obtain ⟨v, rfl, h1⟩ := one_of rv
    obtain ⟨a, ws, rfl, s1, l1⟩ := lsOf_at r e1 h1
    have z1 := intsOf_rep e2 l1
    subst z1
    exact ⟨a, ns, rfl, s1, q ι F H _ Le.refl r rfl⟩
  · cases e
def blsOf : List D → Option (List Bool)
  | [] => some []
  | .bl i :: r => (blsOf r).map fun is => i :: is
  | _ => none
theorem blsOf_rep : ∀ {xs : List D} {ns : List Bool} {vs : List V}, blsOf xs = some ns → RepL K ι F xs vs → vs = ns.map V.bl
  | [], ns, vs, e, h => by
    cases e; exact h
  | d :: xs, ns, vs, e, h => by
    obtain ⟨v, r, rfl, h1, h2⟩ := h
    cases d with
    | bl i =>
      obtain ⟨is, e1, rfl⟩ := Option.map_eq_some_iff.mp (show (blsOf xs).map (fun is => i :: is) = some ns from e)
      cases h1
      rw [blsOf_rep e1 h2] <;> rfl
    | _ => cases e
def anyC : OL := fun ds M => match ds with
  | [x] => (lsOf M x).bind fun xs => (blsOf xs).map fun ns => (.bl (ns.any id), M)
  | _ => none
def allC : OL := fun ds M => match ds with
  | [x] => (lsOf M x).bind fun xs => (blsOf xs).map fun ns => (.bl (ns.all id), M)
  | _ => none
theorem c_any (hc : X.calm = true) : CallR X (.builtin "any") (RC (kx X T) rs anyC) := CallR.imp (cr_any hc) fun vs H Q h => by
  obtain ⟨ι, F, M, ds, z, M', r, rv, e, q⟩ := h
  unfold anyC at e
  split at e
  · obtain ⟨xs, e1, e⟩ := Option.bind_eq_some_iff.mp e
    obtain ⟨ns, e2, e⟩ := Option.map_eq_some_iff.mp e
    cases e
    obtain ⟨v, rfl, h1⟩ := one_of rv
    obtain ⟨a, ws, rfl, s1, l1⟩ := lsOf_at r e1 h1
    have z1 := blsOf_rep e2 l1
    subst z1
    exact ⟨a, ns, rfl, s1, q ι F H _ Le.refl r rfl⟩
  · cases e
theorem c_all (hc : X.calm = true) : CallR X (.builtin "all") (RC (kx X T) rs allC) := CallR.imp (cr_all hc) fun vs H Q h => by
  obtain ⟨ι, F, M, ds, z, M', r, rv, e, q⟩ := h
  unfold allC at e
  split at e
  · obtain ⟨xs, e1, e⟩ := Option.bind_eq_some_iff.mp e
    obtain ⟨ns, e2, e⟩ := Option.map_eq_some_iff.mp e
    cases e
    obtain ⟨v, rfl, h1⟩ := one_of rv
    obtain ⟨a, ws, rfl, s1, l1⟩ := lsOf_at r e1 h1
    have z1 := blsOf_rep e2 l1
    subst z1
    exact ⟨a, ns, rfl, s1, q ι F H _ Le.refl r rfl⟩
  · cases e
def sqOf (M : Mem) : D → Option (List D)
  | .tup xs => some xs
  | x => lsOf M x
def listC (mu : Bool) : OL := fun ds M => match ds with
  | [x] => (sqOf M x).map fun xs => newL mu xs M
  | _ => none
theorem sqOf_at {d : D} {v : V} {xs : List D} (r : Rel K ι F rs H M) (e : sqOf M d = some xs) (h : Rep K ι F d v) : ∃ a vs, v = .ref a ∧ (SqL K.fr H a vs ∨ SqT K.fr H a vs) ∧ RepL K ι F xs vs := by
  unfold sqOf at e
  split at e
  · cases e
    obtain ⟨a, ws, rfl, s1, l1⟩ := h
    exact ⟨a, ws, rfl, .inr (sqt_sub r s1), l1⟩
  · obtain ⟨a, ws, rfl, s1, l1⟩ := lsOf_at r e h
    exact ⟨a, ws, rfl, .inl s1, l1⟩
theorem c_list {mu : Bool} : CallR X (.type "list") (RC (kx X T) rs (listC mu)) := CallR.imp call_list_of fun vs H Q h => by
  obtain ⟨ι, F, M, ds, z, M', r, rv, e, q⟩ := h
  unfold listC at e
  split at e
  · obtain ⟨xs, e1, e2⟩ := Option.map_eq_some_iff.mp e
    obtain ⟨v, rfl, h1⟩ := one_of rv
    obtain ⟨a, ws, rfl, s1, l1⟩ := sqOf_at r e1 h1
    exact ⟨a, ws, rfl, s1, newL_at r l1 e2 q⟩
  · cases e
def tupleC : OL := fun ds M => match ds with
  | [x] => (sqOf M x).map fun xs => (.tup xs, M)
  | _ => none
theorem c_tuple : CallR X (.type "tuple") (RC (kx X T) rs tupleC) := CallR.imp call_tuple_of fun vs H Q h => by
  obtain ⟨ι, F, M, ds, z, M', r, rv, e, q⟩ := h
  unfold tupleC at e
  split at e
  · rename_i x
    obtain ⟨xs, e1, e2⟩ := Option.map_eq_some_iff.mp e
    cases e2
    obtain ⟨v, rfl, h1⟩ := one_of rv
    unfold sqOf at e1
    split at e1
    · cases e1
      obtain ⟨a, ws, rfl, s1, l1⟩ := h1
      exact ⟨a, ws, rfl, .inr ⟨sqt_sub r s1, q ι F H _ Le.refl r ⟨a, ws, rfl, s1, l1⟩⟩⟩
    · obtain ⟨a, ws, rfl, s1, l1⟩ := lsOf_at r e1 h1
      exact ⟨a, ws, rfl, .inl ⟨s1, fun p hp => q ι (upd F p (.tup ws)) _ _ (Le.new (r.free hp)) (r.frozen hp) ⟨p, ws, rfl, .inl (.inl upd_same), RepL.le (Le.new (r.free hp)) l1⟩⟩⟩
  · cases e
def dictC (mu : Bool) : OL := fun ds M => match ds with
  | [x] => (dcOf M x).map fun kvs => newK mu kvs M
  | _ => none
theorem c_dict {mu : Bool} : CallR X (.type "dict") (RC (kx X T) rs (dictC mu)) := CallR.imp call_dictD fun vs H Q h => by
  obtain ⟨ι, F, M, ds, z, M', r, rv, e, q⟩ := h
  unfold dictC at e
  split at e
  · obtain ⟨kvs, e1, e2⟩ := Option.map_eq_some_iff.mp e
    obtain ⟨v, rfl, h1⟩ := one_of rv
    obtain ⟨a, ws, rfl, hr, m1, m2⟩ := dcOf_at r e1 h1
    exact ⟨a, ws, rfl, hr, newK_at r m1 m2 e2 q⟩
  · cases e
end
end LD
namespace LD
open PySem PySem.Spec PyProof.Rows L2

mutual
def eqb : D → D → Bool
  | .non, .non => true
  | .bl a, .bl b => a == b
  | .int a, .int b => a == b
  | .str a, .str b => a == b
  | .ty a, .ty b => a == b
  | .lst a, .lst b => eqbL a b
  | .tup a, .tup b => eqbL a b
  | .dic k a, .dic l b => decide (k = l) && eqbL a b
  | .ref a, .ref b => a == b
  | .glb a, .glb b => decide (a = b)
  | _, _ => false
def eqbL : List D → List D → Bool
  | [], [] => true
  | x :: xs, y :: ys => eqb x y && eqbL xs ys
  | _, _ => false
end
mutual
theorem eqb_eq : ∀ a b : D, eqb a b = true → a = b
  | .non, b, h => by cases b <;> first | rfl | (simp [eqb] at h)
  | .bl x, b, h => by cases b <;> first | (simp [eqb] at h; rw [h]) | (simp [eqb] at h)
  | .int x, b, h => by cases b <;> first | (simp [eqb] at h; rw [h]) | (simp [eqb] at h)
  | .str x, b, h => by cases b <;> first | (simp [eqb] at h; rw [h]) | (simp [eqb] at h)
  | .ty x, b, h => by cases b <;> first | (simp [eqb] at h; rw [h]) | (simp [eqb] at h)
  | .ref x, b, h => by cases b <;> first | (simp [eqb] at h; rw [h]) | (simp [eqb] at h)
  | .glb x, b, h => by cases b <;> first | (simp [eqb] at h; rw [h]) | (simp [eqb] at h)
  | .lst xs, b, h => by cases b <;> first | (simp only [eqb] at h; rw [eqbL_eq _ _ h]) | (simp [eqb] at h)
  | .tup xs, b, h => by cases b <;> first | (simp only [eqb] at h; rw [eqbL_eq _ _ h]) | (simp [eqb] at h)
  | .dic ks xs, b, h => by cases b <;> first | (simp only [eqb, Bool.and_eq_true, decide_eq_true_eq] at h; rw [h.1, eqbL_eq _ _ h.2]) | (simp [eqb] at h)
theorem eqbL_eq : ∀ a b : List D, eqbL a b = true → a = b
  | [], b, h => by cases b <;> first | rfl | (simp [eqbL] at h)
  | x :: xs, b, h => by cases b <;> first | (simp only [eqbL, Bool.and_eq_true] at h; rw [eqb_eq _ _ h.1, eqbL_eq _ _ h.2]) | (simp [eqbL] at h)
end
mutual
theorem eqb_refl : ∀ a : D, eqb a a = true
  | .non => rfl
  | .bl x => by simp [eqb]
  | .int x => by simp [eqb]
  | .str x => by simp [eqb]
  | .ty x => by simp [eqb]
  | .ref x => by simp [eqb]
  | .glb x => by simp [eqb]
  | .lst xs => by simp only [eqb]; exact eqbL_refl xs
  | .tup xs => by simp only [eqb]; exact eqbL_refl xs
  | .dic ks xs => by simp only [eqb, Bool.and_eq_true, decide_eq_true_eq]; exact ⟨trivial, eqbL_refl xs⟩
theorem eqbL_refl : ∀ a : List D, eqbL a a = true
  | [] => rfl
  | x :: xs => by simp only [eqbL, Bool.and_eq_true]; exact ⟨eqb_refl x, eqbL_refl xs⟩
end

/-! ### what is walked -/
/-- the items; what must hold of the memory at each turn (a list that may change stays as it is) -/
structure Src where
  xs : List D
  chk : Mem → Bool
structure WalkD (K : KX) (J : It) (src : Src) (okp : List Addr → Hp → Prop) : Prop where
  mono : ∀ {ι F ι' F'}, Le K ι F ι' F' → okp ι F → okp ι' F'
  go : ∀ {ι F rs H M} {i : Nat}, okp ι F → Rel K ι F rs H M → src.chk M = true → i < src.xs.length → J.go i H
  stop : ∀ {ι F rs H M}, okp ι F → Rel K ι F rs H M → src.chk M = true → J.stop src.xs.length H
  yld : ∀ {ι F rs H M} {i : Nat} {d x H'}, okp ι F → Rel K ι F rs H M → src.chk M = true → src.xs[i]? = some d → J.yld i H x H' → ∃ ι' F', Le K ι F ι' F' ∧ Rel K ι' F' rs H' M ∧ Rep K ι' F' d x
abbrev repI (K : KX) : List Addr → Hp → Src → It → Prop := fun ι F src J => ∃ okp, WalkD K J src okp ∧ okp ι F
structure KI (X : Cx) (T : Tab) (W : WX) (tg iter : Expr) (χ : Sem1 Src) : Prop where
  pi : ∀ rs, PI X tg iter (LG (kx X T) rs (repI (kx X T)) W χ)
theorem PI.imp {X : Cx} {tg e : Expr} {t t' : TI} (h : PI X tg e t) (i : ∀ σ H Q, t' σ H Q → t σ H Q) : PI X tg e t' := ⟨fun pins s σ H Q I q => h.run pins s σ H Q I (i σ H Q q)⟩
theorem PI.or {X : Cx} {tg e : Expr} {t t' : TI} (h : PI X tg e t) (h' : PI X tg e t') : PI X tg e (fun σ H R => t σ H R ∨ t' σ H R) := ⟨fun pins s σ H Q I q => q.elim (h.run pins s σ H Q I) (h'.run pins s σ H Q I)⟩
/-- the items of a list, a tuple, a text -/
def srcOf (M : Mem) : D → Option Src
  | .lst xs => some ⟨xs, fun _ => true⟩
  | .tup xs => some ⟨xs, fun _ => true⟩
  | .str x => some ⟨x.cps.toList.map fun c => .str ⟨#[c]⟩, fun _ => true⟩
  | .ref i => match M[i]? with
    | some (.lst xs) => some ⟨xs, fun M' => match M'[i]? with
      | some (.lst ys) => eqbL xs ys
      | _ => false⟩
    | _ => none
  | _ => none
def iOf (a : Sem1 D) : Sem1 Src := fun s M => (a s M).bind fun x M1 => match srcOf M1 x with
  | some src => .ok src M1
  | none => .bad
def rangeL (lo : Int) (n : Nat) (c : Int) : List D := (List.range n).map fun i : Nat => .int (lo + (i : Int) * c)
def mid (i : Int) : Bool := match i with
  | .ofNat n => Nat.ble (n + 1) 4611686018427387904
  | .negSucc n => Nat.ble (n + 1) 4611686018427387904
def iRange (a : Sem1 (List D)) : Sem1 Src := fun s M => (a s M).bind fun xs M1 => match xs with
  | [.int n] => if mid n then .ok ⟨rangeL 0 n.toNat 1, fun _ => true⟩ M1 else .bad
  | [.int m, .int n] => if mid m && mid n then .ok ⟨rangeL m (n - m).toNat 1, fun _ => true⟩ M1 else .bad
  | _ => .bad
/-- enumerate -/
def iEnm (a : Sem1 D) : Sem1 Src := fun s M => (a s M).bind fun x M1 => match x with
  | .tup _ => .bad
  | .str _ => .bad
  | x => match srcOf M1 x with
    | some src => .ok ⟨(List.range src.xs.length).zipWith (fun (i : Nat) d => .tup [.int (i : Int), d]) src.xs, src.chk⟩ M1
    | none => .bad
section
variable {X : Cx} {T : Tab} {W : WX} {tg a e : Expr} {es : List Expr} {α : Sem1 (List D)} {φ : Sem1 D} {pos p : Pos} {K : KX} {ι : List Addr} {F H : Hp} {M : Mem} {rs : List (Addr × HO)}
theorem sql_inj {H : Hp} {a : Addr} {xs ys : List V} (h : SqL K.fr H a xs) (h' : SqL K.fr H a ys) (hk : ∀ o, K.fr.lookup a = some o → H a = none) : xs = ys := by
  rcases h with (h | ⟨o, h⟩) | ⟨o, its, n, h1, h2, h3, h4, h5, h6⟩
  · rcases h' with (h' | ⟨o', h'⟩) | ⟨o', its', n', h1', _⟩
    · rw [h] at h'; cases h'; rfl
    · rw [h] at h'; cases h'
    · rw [hk _ h1'] at h; cases h
  · rcases h' with (h' | ⟨o', h'⟩) | ⟨o', its', n', h1', _⟩
    · rw [h] at h'; cases h'
    · rw [h] at h'; cases h'; rfl
    · rw [hk _ h1'] at h; cases h
  · rcases h' with (h' | ⟨o', h'⟩) | ⟨o', its', n', h1', h2', h3', h4', h5', h6'⟩
    · rw [hk _ h1] at h'; cases h'
    · rw [hk _ h1] at h'; cases h'
    · rw [h1] at h1'
      cases h1'
      rw [h4] at h4'
      injection h4' with e1 _
      subst e1
      exact h6.inj h6'
theorem walk_list {a : Addr} {xs : List D} : WalkD K (Itl K.fr a) ⟨xs, fun _ => true⟩ (fun ι F => Rep K ι F (.lst xs) (.ref a)) where
  mono := fun l h => l _ _ h
  go := fun {ι F rs H M i} h r _ hi => by
    obtain ⟨a', vs, e, s1, l1⟩ := h
    cases e
    have hl : i < vs.length := by rw [RepL.length l1]; exact hi
    exact ⟨vs, vs[i], sql_sub r s1, List.getElem?_eq_getElem hl⟩
  stop := fun {ι F rs H M} h r _ => by
    obtain ⟨a', vs, e, s1, l1⟩ := h
    cases e
    exact ⟨vs, sql_sub r s1, Nat.le_of_eq (RepL.length l1)⟩
  yld := fun {ι F rs H M i d x H'} h r _ e y => by
    obtain ⟨a', vs, e1, s1, l1⟩ := h
    cases e1
    obtain ⟨rfl, y⟩ := y
    obtain ⟨v, h1, h2⟩ := RepL.get l1 e
    have q := y vs (sql_sub r s1)
    rw [h1] at q
    cases q
    exact ⟨ι, F, Le.refl, r, h2⟩
theorem walk_tup {a : Addr} {xs : List D} : WalkD K (Itt K.fr a) ⟨xs, fun _ => true⟩ (fun ι F => Rep K ι F (.tup xs) (.ref a)) where
  mono := fun l h => l _ _ h
  go := fun {ι F rs H M i} h r _ hi => by
    obtain ⟨a', vs, e, s1, l1⟩ := h
    cases e
    have hl : i < vs.length := by rw [RepL.length l1]; exact hi
    exact ⟨vs, vs[i], sqt_sub r s1, List.getElem?_eq_getElem hl⟩
  stop := fun {ι F rs H M} h r _ => by
    obtain ⟨a', vs, e, s1, l1⟩ := h
    cases e
    exact ⟨vs, sqt_sub r s1, Nat.le_of_eq (RepL.length l1)⟩
  yld := fun {ι F rs H M i d x H'} h r _ e y => by
    obtain ⟨a', vs, e1, s1, l1⟩ := h
    cases e1
    obtain ⟨rfl, y⟩ := y
    obtain ⟨v, h1, h2⟩ := RepL.get l1 e
    have q := y vs (sqt_sub r s1)
    rw [h1] at q
    cases q
    exact ⟨ι, F, Le.refl, r, h2⟩
def mutChk (i : Nat) (xs : List D) : Mem → Bool := fun M' => match M'[i]? with
  | some (.lst ys) => eqbL xs ys
  | _ => false
theorem mutChk_at {i : Nat} {xs : List D} {M : Mem} (h : mutChk i xs M = true) : M[i]? = some (.lst xs) := by
  unfold mutChk at h
  split at h
  · rename_i ys e
    rw [e, eqbL_eq _ _ h]
  · cases h
theorem walk_mut {a : Addr} {i : Nat} {xs : List D} : WalkD K (Itl K.fr a) ⟨xs, mutChk i xs⟩ (fun ι F => Rep K ι F (.ref i) (.ref a)) where
  mono := fun l h => l _ _ h
  go := fun {ι F rs H M j} h r c hi => by
    obtain ⟨a', e, q⟩ := h
    cases e
    obtain ⟨_, vs, h2, h3⟩ := r.obj i _ a (mutChk_at c) q rfl
    have hl : j < vs.length := by rw [RepL.length h3]; exact hi
    exact ⟨vs, vs[j], .inl (.inl h2), List.getElem?_eq_getElem hl⟩
  stop := fun {ι F rs H M} h r c => by
    obtain ⟨a', e, q⟩ := h
    cases e
    obtain ⟨_, vs, h2, h3⟩ := r.obj i _ a (mutChk_at c) q rfl
    exact ⟨vs, .inl (.inl h2), Nat.le_of_eq (RepL.length h3)⟩
  yld := fun {ι F rs H M j d x H'} h r c e y => by
    obtain ⟨a', e1, q⟩ := h
    cases e1
    obtain ⟨_, vs, h2, h3⟩ := r.obj i _ a (mutChk_at c) q rfl
    obtain ⟨rfl, y⟩ := y
    obtain ⟨v, h1, h4⟩ := RepL.get h3 e
    have z := y vs (.inl (.inl h2))
    rw [h1] at z
    cases z
    exact ⟨ι, F, Le.refl, r, h4⟩
theorem walk_str {x : Str} : WalkD K (Its x) ⟨x.cps.toList.map fun c => .str ⟨#[c]⟩, fun _ => true⟩ (fun _ _ => True) where
  mono := fun _ _ => trivial
  go := fun {ι F rs H M i} _ _ _ hi => by
    rw [List.length_map, Array.length_toList] at hi
    exact hi
  stop := fun {ι F rs H M} _ _ _ => by
    show x.cps.size ≤ (x.cps.toList.map _).length
    rw [List.length_map, Array.length_toList]
    exact Nat.le_refl _
  yld := fun {ι F rs H M i d v H'} _ r _ e y => by
    obtain ⟨rfl, c, hc, rfl⟩ := y
    refine ⟨ι, F, Le.refl, r, ?_⟩
    have e : (x.cps.toList.map fun c => D.str ⟨#[c]⟩)[i]? = some d := e
    rw [List.getElem?_map, Array.getElem?_toList, hc] at e
    cases e
    rfl
theorem walk_range {lo : Int} {n : Nat} : WalkD K (Itr lo n) ⟨rangeL lo n 1, fun _ => true⟩ (fun _ _ => True) where
  mono := fun _ _ => trivial
  go := fun {ι F rs H M i} _ _ _ hi => by
    unfold rangeL at hi
    rw [List.length_map, List.length_range] at hi
    exact hi
  stop := fun {ι F rs H M} _ _ _ => by
    show n ≤ (rangeL lo n 1).length
    unfold rangeL
    rw [List.length_map, List.length_range]
    exact Nat.le_refl _
  yld := fun {ι F rs H M i d v H'} _ r _ e y => by
    obtain ⟨rfl, rfl⟩ := y
    refine ⟨ι, F, Le.refl, r, ?_⟩
    have e : (rangeL lo n 1)[i]? = some d := e
    unfold rangeL at e
    rw [List.getElem?_map] at e
    obtain ⟨j, h1, h2⟩ := Option.map_eq_some_iff.mp e
    have hj : j = i := by
      obtain ⟨h3, h4⟩ := List.getElem?_eq_some_iff.mp h1
      rw [← h4, List.getElem_range]
    subst hj
    rw [← h2, Int.mul_one]
    rfl
theorem ki_of (ha : KE X T W a φ) : KI X T W tg a (iOf φ) := ⟨fun rs => PI.imp (PI.or (pi_list (ha rs)) (PI.or (pi_tup (ha rs)) (pi_str (ha rs)))) fun σ H Q h => by
  obtain ⟨ι, F, st, M, r, rS, p⟩ := h
  cases e : φ st M with
  | ok d M1 =>
    unfold iOf at p
    rw [e] at p
    simp only [R.bind_ok] at p
    have base : ∀ {Q' : VK}, (∀ ι' F' H' v, Le (kx X T) ι F ι' F' → Rel (kx X T) ι' F' rs H' M1 → Rep (kx X T) ι' F' d v → Q' v H') → LE (kx X T) rs W φ σ H Q' := fun {Q'} q => ⟨ι, F, st, M, r, rS, by rw [e]; exact q⟩
    cases d with
    | lst xs =>
      refine .inl (base fun ι1 F1 H1 v l1 r1 rv => ?_)
      obtain ⟨a, vs, rfl, s1, ll⟩ := id rv
      exact ⟨a, rfl, ⟨vs, sql_sub r1 s1⟩, p ι1 F1 H1 _ l1 r1 ⟨_, walk_list, rv⟩⟩
    | tup xs =>
      refine .inr (.inl (base fun ι1 F1 H1 v l1 r1 rv => ?_))
      obtain ⟨a, vs, rfl, s1, ll⟩ := id rv
      exact ⟨a, rfl, ⟨vs, sqt_sub r1 s1⟩, p ι1 F1 H1 _ l1 r1 ⟨_, walk_tup, rv⟩⟩
    | str x =>
      refine .inr (.inr (base fun ι1 F1 H1 v l1 r1 rv => ?_))
      cases rv
      exact ⟨x, rfl, p ι1 F1 H1 _ l1 r1 ⟨_, walk_str, trivial⟩⟩
    | ref i =>
      simp only [srcOf] at p
      split at p
      · rename_i src hsrc
        split at hsrc
        · rename_i xs hM
          cases hsrc
          refine .inl (base fun ι1 F1 H1 v l1 r1 rv => ?_)
          obtain ⟨a, rfl, hi⟩ := id rv
          obtain ⟨_, vs, h2, h3⟩ := r1.obj i _ a hM hi rfl
          exact ⟨a, rfl, ⟨vs, .inl (.inl h2)⟩, p ι1 F1 H1 _ l1 r1 ⟨_, walk_mut, rv⟩⟩
        · cases hsrc
      · exact p.elim
    | _ => exact p.elim
  | er x M1 =>
    refine .inl ⟨ι, F, st, M, r, rS, ?_⟩
    unfold iOf at p
    rw [e] at p ⊢
    exact p
  | bad =>
    unfold iOf at p
    rw [e] at p
    exact p.elim⟩
theorem mid_iff {i : Int} : mid i = true ↔ -(2 ^ 62) ≤ i ∧ i < 2 ^ 62 := by
  unfold mid
  cases i with
  | ofNat n =>
    simp only [Nat.ble_eq, Int.ofNat_eq_natCast]
    omega
  | negSucc n =>
    simp only [Nat.ble_eq, Int.negSucc_eq]
    omega
theorem ki_range1 (hg : Gl X "range") (hm : X.mg "range" = none) (ha : KA X T W [a] α) (hs : isStar a = false) : KI X T W tg (.Call (.Name "range" p) [a] [] pos) (iRange α) := ⟨fun rs => PI.imp (pi_range1 hg hm (ha.pa rs) (by rw [star_cons hs]; rfl)) fun σ H Q h => by
  obtain ⟨ι, F, st, M, r, rS, p⟩ := h
  refine ⟨ι, F, st, M, r, rS, p.stepE fun vs H1 ι1 F1 M1 ds e l1 r1 rv p1 => ?_⟩
  have hl := ha.al _ _ _ _ e
  split at p1
  · split at p1
    · rename_i n hn
      obtain ⟨v, rfl, h1⟩ := one_of rv
      cases h1
      exact ⟨_, rfl, (mid_iff.mp hn).1, (mid_iff.mp hn).2, p1.fin r1 ⟨_, walk_range, trivial⟩⟩
    · exact p1.elim
  · cases hl
  · exact p1.elim⟩
theorem ki_range2 {b : Expr} (hg : Gl X "range") (hm : X.mg "range" = none) (ha : KA X T W [a, b] α) (hs : isStar a = false) (hs2 : isStar b = false) : KI X T W tg (.Call (.Name "range" p) [a, b] [] pos) (iRange α) := ⟨fun rs => PI.imp (pi_range2 hg hm (ha.pa rs) (by rw [star_cons hs, star_cons hs2]; rfl) (by rw [star_cons hs2]; rfl)) fun σ H Q h => by
  obtain ⟨ι, F, st, M, r, rS, p⟩ := h
  refine ⟨ι, F, st, M, r, rS, p.stepE fun vs H1 ι1 F1 M1 ds e l1 r1 rv p1 => ?_⟩
  have hl := ha.al _ _ _ _ e
  split at p1
  · cases hl
  · split at p1
    · rename_i m n hn
      rw [Bool.and_eq_true] at hn
      obtain ⟨v, w, rfl, h1, h2⟩ := two_of rv
      cases h1
      cases h2
      exact ⟨_, _, rfl, ⟨(mid_iff.mp hn.1).1, (mid_iff.mp hn.1).2, (mid_iff.mp hn.2).1, (mid_iff.mp hn.2).2⟩, p1.fin r1 ⟨_, walk_range, trivial⟩⟩
    · exact p1.elim
  · exact p1.elim⟩
end
end LD
namespace LD
open PySem PySem.Spec PyProof.Rows L2

/-! ### targets: names, a row of names -/
abbrev GSem := D → Mem → DS → Option DS
def gNm (i : Nat) : GSem := fun d _ s => some (s.set i (some d))
def setAll {α : Type} : List (Option α) → List Nat → List α → List (Option α)
  | s, i :: is, x :: xs => setAll (s.set i (some x)) is xs
  | s, _, _ => s
def gTp (is : List Nat) : GSem := fun d M s => match sqOf M d with
  | some xs => if xs.length = is.length then some (setAll s is xs) else none
  | none => none
def LGt (K : KX) (rs : List (Addr × HO)) (γ : GSem) (idx : List Nat) : TG := fun v σ H Q => ∃ ι F s M d s', Rel K ι F rs H M ∧ RepS K ι F s σ ∧ Rep K ι F d v ∧ γ d M s = some s' ∧
  ∀ σ', RepS K ι F s' σ' → (∀ vs, (∀ i ∈ idx, i ∈ vs) → wipe σ' vs = wipe σ vs) → Q σ' H
structure KG (X : Cx) (T : Tab) (tg : Expr) (γ : GSem) (idx : List Nat) : Prop where
  pg : ∀ rs, PG X tg (LGt (kx X T) rs γ idx)
theorem PG.imp {X : Cx} {tg : Expr} {t t' : TG} (h : PG X tg t) (i : ∀ v σ H Q, t' v σ H Q → t v σ H Q) : PG X tg t' := ⟨fun pins s σ H v u Q I r q => h.run pins s σ H v u Q I r (i v σ H Q q)⟩
theorem PG.or {X : Cx} {tg : Expr} {t t' : TG} (h : PG X tg t) (h' : PG X tg t') : PG X tg (fun v σ H Q => t v σ H Q ∨ t' v σ H Q) := ⟨fun pins s σ H v u Q I r q => q.elim (h.run pins s σ H v u Q I r) (h'.run pins s σ H v u Q I r)⟩
theorem wipe_in {σ : L2.St} {j : Nat} : ∀ {vs : List Nat}, j ∈ vs → (wipe σ vs)[j]? = (σ[j]?).map fun _ => none
  | v :: vs, h => by
    unfold wipe
    by_cases hv : v = j
    · subst hv
      rw [List.getElem?_set]
      rw [if_pos rfl, wipe_length]
      by_cases hl : v < σ.length
      · rw [if_pos hl, List.getElem?_eq_getElem hl] <;> rfl
      · rw [if_neg hl, List.getElem?_eq_none (Nat.not_lt.mp hl)] <;> rfl
    · rw [List.getElem?_set_ne hv]
      rcases List.mem_cons.mp h with e | h
      · exact absurd e.symm hv
      · exact wipe_in h
theorem wipe_set {σ : L2.St} {i : Nat} {x : Option V} {vs : List Nat} (h : i ∈ vs) : wipe (σ.set i x) vs = wipe σ vs := by
  apply List.ext_getElem?
  intro j
  by_cases hj : j ∈ vs
  · rw [wipe_in hj, wipe_in hj, List.getElem?_set]
    split
    · rename_i e
      subst e
      split
      · rename_i hl
        rw [List.getElem?_eq_getElem hl] <;> rfl
      · rename_i hl
        rw [List.getElem?_eq_none (Nat.not_lt.mp hl)]
    · rfl
  · rw [wipe_out hj, wipe_out hj, List.getElem?_set_ne (fun e => hj (by rw [← e]; exact h))]
section
variable {X : Cx} {T : Tab} {W : WX} {K : KX} {ι : List Addr} {F H : Hp} {M : Mem} {rs : List (Addr × HO)} {s : DS} {σ : L2.St}
theorem RepS.set {i : Nat} {d : D} {v : V} (h : RepS K ι F s σ) (r : Rep K ι F d v) : RepS K ι F (s.set i (some d)) (σ.set i (some v)) :=
  ⟨by rw [List.length_set, List.length_set]; exact h.1, fun j e q => by
    by_cases hj : i = j
    · subst hj
      have hl : i < s.length := by
        have := (List.getElem?_eq_some_iff.mp q).1
        rwa [List.length_set] at this
      rw [List.getElem?_set_self hl] at q
      cases q
      exact ⟨v, List.getElem?_set_self (by rw [h.1]; exact hl), r⟩
    · rw [List.getElem?_set_ne hj] at q
      obtain ⟨u, h1, h2⟩ := h.2 j e q
      exact ⟨u, by rw [List.getElem?_set_ne hj]; exact h1, h2⟩⟩
theorem RepS.setAll : ∀ {is : List Nat} {ds : List D} {vs : List V} {s : DS} {σ : L2.St}, RepS K ι F s σ → RepL K ι F ds vs → RepS K ι F (setAll s is ds) (LD.setAll σ is vs)
  | [], ds, vs, s, σ, h, _ => by
    cases ds <;> cases vs <;> exact h
  | i :: is, [], vs, s, σ, h, r => by
    have e : vs = [] := r
    rw [e]; exact h
  | i :: is, d :: ds, vs, s, σ, h, r => by
    obtain ⟨v, r', rfl, h1, h2⟩ := r
    exact RepS.setAll (is := is) (h.set h1) h2
theorem wipe_setAll : ∀ {is : List Nat} {vs : List V} {σ : L2.St} {ws : List Nat}, (∀ i ∈ is, i ∈ ws) → wipe (LD.setAll σ is vs) ws = wipe σ ws
  | [], vs, σ, ws, _ => by cases vs <;> rfl
  | i :: is, [], σ, ws, _ => rfl
  | i :: is, v :: vs, σ, ws, h => by
    show wipe (LD.setAll (σ.set i (some v)) is vs) ws = wipe σ ws
    rw [wipe_setAll fun j hj => h j (List.mem_cons_of_mem _ hj), wipe_set (h i List.mem_cons_self)]
theorem kg_name {i : Nat} {x : Str} {pos : Pos} (hN : X.N.Nodup) (hi : X.N[i]? = some x) (hx : Loc X.env.scope x) (hf : X.fn x = true ∨ X.env.scope.names.lookup x = some .local) : KG X T (.Name x pos) (gNm i) [i] := ⟨fun rs => PG.imp (pg_name hN hi hx hf) fun v σ H Q h => by
  obtain ⟨ι, F, s, M, d, s', r, rS, rd, e, q⟩ := h
  cases e
  exact q _ (rS.set rd) fun vs hv => wipe_set (hv i (List.mem_singleton.mpr rfl))⟩
/-- names at their places, ready to be stored -/
def NamesOk (X : Cx) : List Expr → List Nat → Prop
  | [], [] => True
  | .Name x _ :: es, i :: is => X.N[i]? = some x ∧ Loc X.env.scope x ∧ (X.fn x = true ∨ X.env.scope.names.lookup x = some .local) ∧ NamesOk X es is
  | _, _ => False
theorem assign_names {env : Env} : ∀ {es : List Expr} {is : List Nat}, NamesOk X es is → (assignEach es env).length = es.length ∧ (assignEach es env).findIdx? (·.1) = none ∧ es.length = is.length
  | [], [], _ => ⟨by simp only [assignEach, List.length_nil], by simp only [assignEach, List.findIdx?_nil], rfl⟩
  | .Name x p :: es, i :: is, h => by
    obtain ⟨a, b, c⟩ := assign_names (env := env) h.2.2.2
    have e : assignEach (.Name x p :: es) env = (false, assign (.Name x p) env) :: assignEach es env := by simp only [assignEach]
    refine ⟨by rw [e, List.length_cons, List.length_cons, a], ?_, by rw [List.length_cons, List.length_cons, c]⟩
    rw [e, List.findIdx?_cons]
    simp only [Bool.false_eq_true, if_false, b, Option.map_none]
  | [], _ :: _, h => h.elim
  | .Name _ _ :: _, [], h => h.elim
theorem pgs_names (hN : X.N.Nodup) : ∀ {es : List Expr} {is : List Nat}, NamesOk X es is → PGs X es (fun vs σ H Q => vs.length = is.length ∧ Q (LD.setAll σ is vs) H)
  | [], [], _ => ⟨fun pins s σ H vs us Q I r h => by
    obtain ⟨e, h⟩ := h
    have e : vs = [] := List.length_eq_zero_iff.mp e
    subst e
    exact pgs_nil.run pins s σ H [] us Q I r ⟨rfl, h⟩⟩
  | .Name x p :: es, i :: is, h => ⟨fun pins s σ H vs us Q I r q => by
    obtain ⟨e, q⟩ := q
    cases vs with
    | nil => cases e
    | cons v vs =>
      exact (pgs_cons (pg_name hN h.1 h.2.1 h.2.2.1) (pgs_names hN h.2.2.2) (by simp only [assignEach, List.map_cons])).run pins s σ H (v :: vs) us Q I r ⟨v, vs, rfl, Nat.succ.inj e, q⟩⟩
  | [], _ :: _, h => h.elim
  | .Name _ _ :: _, [], h => h.elim
theorem kg_tup {es : List Expr} {is : List Nat} {k : Nat} {pos : Pos} (hc : X.calm = true) (hN : X.N.Nodup) (h : NamesOk X es is) : KG X T (.Tuple es k pos) (gTp is) is := ⟨fun rs => by
  obtain ⟨a1, a2, a3⟩ := assign_names (env := X.env) h
  refine PG.imp (PG.or (pg_tup (n := es.length) hc (pgs_names hN h) a1 a2) (pg_lst (n := es.length) hc (pgs_names hN h) a1 a2)) fun v σ H Q h => ?_
  obtain ⟨ι, F, s, M, d, s', r, rS, rd, e, q⟩ := h
  unfold gTp at e
  split at e
  · rename_i xs e1
    split at e
    · rename_i hl
      cases e
      obtain ⟨a, vs, rfl, hs, ll⟩ := sqOf_at r e1 rd
      have z := q _ (rS.setAll (is := is) ll) fun ws hw => wipe_setAll hw
      rcases hs with hs | hs
      · exact .inr ⟨a, vs, rfl, hs, by rw [ll.length, a3]; exact hl, by rw [ll.length]; exact hl, z⟩
      · exact .inl ⟨a, vs, rfl, hs, by rw [ll.length, a3]; exact hl, by rw [ll.length]; exact hl, z⟩
    · cases e
  · cases e⟩
end

/-! ### statements -/
inductive RS where
  | nx (s : DS) (M : Mem) | rt (d : D) (M : Mem) | bk (s : DS) (M : Mem) | ct (s : DS) (M : Mem) | er (x : Exn) (s : DS) (M : Mem) | bad
abbrev SSem := DS → Mem → RS
def bindS {α : Type} (r : R α) (s : DS) (k : α → Mem → RS) : RS := match r with
  | .ok a M => k a M
  | .er x M => .er x s M
  | .bad => .bad
@[simp] theorem bindS_ok {α : Type} {a : α} {M : Mem} {s : DS} {k : α → Mem → RS} : bindS (.ok a M) s k = k a M := rfl
@[simp] theorem bindS_er {α : Type} {x : Exn} {M : Mem} {s : DS} {k : α → Mem → RS} : bindS (.er x M : R α) s k = .er x s M := rfl
def SPost (K : KX) (rs : List (Addr × HO)) (ι : List Addr) (F : Hp) (W : WX) (D : Ends) : RS → Prop
  | .nx s' M' => ∀ ι' F' H' σ', Le K ι F ι' F' → Rel K ι' F' rs H' M' → RepS K ι' F' s' σ' → D.nx σ' H'
  | .rt d M' => ∀ ι' F' H' v, Le K ι F ι' F' → Rel K ι' F' rs H' M' → Rep K ι' F' d v → D.rt v H'
  | .bk s' M' => ∀ ι' F' H' σ', Le K ι F ι' F' → Rel K ι' F' rs H' M' → RepS K ι' F' s' σ' → D.bk σ' H'
  | .ct s' M' => ∀ ι' F' H' σ', Le K ι F ι' F' → Rel K ι' F' rs H' M' → RepS K ι' F' s' σ' → D.ct σ' H'
  | .er x s' M' => ∀ ι' F' H' σ' cls dx, Le K ι F ι' F' → Rel K ι' F' rs H' M' → RepS K ι' F' s' σ' → RepX K ι' F' x cls dx → W cls dx σ' H'
  | .bad => False
def LS (K : KX) (rs : List (Addr × HO)) (W : WX) (ψ : SSem) : TS := fun D σ H => ∃ ι F s M, Rel K ι F rs H M ∧ RepS K ι F s σ ∧ SPost K rs ι F W D (ψ s M)
structure KS (X : Cx) (T : Tab) (W : WX) (st : Stmt) (ψ : SSem) : Prop where
  ps : ∀ rs, PS X st (LS (kx X T) rs W ψ)
structure KB (X : Cx) (T : Tab) (W : WX) (st : List Stmt) (ψ : SSem) : Prop where
  ps : ∀ rs, PSs X st (LS (kx X T) rs W ψ)
section
variable {X : Cx} {T : Tab} {W : WX} {K : KX} {ι ι' : List Addr} {F F' H : Hp} {M : Mem} {rs : List (Addr × HO)} {s : DS} {σ : L2.St} {D : Ends}
theorem SPost.le {r : RS} (l : Le K ι F ι' F') (h : SPost K rs ι F W D r) : SPost K rs ι' F' W D r := by
  cases r with
  | nx s' M' => exact fun a b c d l2 => h a b c d (l.trans l2)
  | rt s' M' => exact fun a b c d l2 => h a b c d (l.trans l2)
  | bk s' M' => exact fun a b c d l2 => h a b c d (l.trans l2)
  | ct s' M' => exact fun a b c d l2 => h a b c d (l.trans l2)
  | er x s' M' => exact fun a b c d e f l2 => h a b c d e f (l.trans l2)
  | bad => exact h
theorem SPost.step {α β : Type} {rep : List Addr → Hp → α → β → Prop} {Q : β → Hp → Prop} {r : R α} {k : α → Mem → RS} (h : SPost K rs ι F W D (bindS r s k)) (rS : RepS K ι F s σ)
    (f : ∀ v H' ι' F' M' a, r = .ok a M' → Le K ι F ι' F' → Rel K ι' F' rs H' M' → rep ι' F' a v → SPost K rs ι' F' W D (k a M') → Q v H') : Post K rs rep ι F (fun c d => W c d σ) Q r := by
  cases r with
  | ok a M1 => exact fun ι1 F1 H1 v l r1 ra => f v H1 ι1 F1 M1 a rfl l r1 ra (SPost.le l h)
  | er x M1 => exact fun ι1 F1 H1 c d l r1 rx => h ι1 F1 H1 σ c d l r1 (rS.le l) rx
  | bad => exact h
/-- the ends are changed -/
theorem SPost.ends {D' : Ends} {r : RS} {r' : RS} (h : SPost K rs ι F W D r') (f : SPost K rs ι F W D r' → SPost K rs ι F W D' r) : SPost K rs ι F W D' r := f h

/-! the statements -/
variable {e tg iter : Expr} {st : Stmt} {body rest orelse : List Stmt} {φ : Sem1 LD.D} {τ : Sem1 Bool} {γ : GSem} {ψ χ : SSem} {pos : Pos} {idx : List Nat}
def sNext : SSem := fun s M => .nx s M
def sSeq (a b : SSem) : SSem := fun s M => match a s M with
  | .nx s' M' => b s' M'
  | r => r
def sExpr (a : Sem1 LD.D) : SSem := fun s M => bindS (a s M) s fun _ M' => .nx s M'
def sRet (a : Sem1 LD.D) : SSem := fun s M => bindS (a s M) s fun d M' => .rt d M'
def sRetN : SSem := fun _ M => .rt .non M
def sIf (t : Sem1 Bool) (a b : SSem) : SSem := fun s M => bindS (t s M) s fun k M' => if k then a s M' else b s M'
def sBk : SSem := fun s M => .bk s M
def sCt : SSem := fun s M => .ct s M
def sAsg (γ : GSem) (a : Sem1 LD.D) : SSem := fun s M => bindS (a s M) s fun d M' => match γ d M' s with
  | some s' => .nx s' M'
  | none => .bad
theorem PS.run' {t : TS} (h : PS X st t) : PS X st t := h
theorem b_nil : KB X T W [] sNext := ⟨fun rs => PSs.imp pss_nil fun D σ H h => by
  obtain ⟨ι, F, s, M, r, rS, p⟩ := h
  exact p ι F H σ Le.refl r rS⟩
theorem b_cons (h1 : KS X T W st ψ) (h2 : KB X T W rest χ) : KB X T W (st :: rest) (sSeq ψ χ) := ⟨fun rs => PSs.imp (pss_cons (h1.ps rs) (h2.ps rs)) fun D σ H h => by
  obtain ⟨ι, F, s, M, r, rS, p⟩ := h
  refine ⟨ι, F, s, M, r, rS, ?_⟩
  unfold sSeq at p
  cases e : ψ s M with
  | nx s' M' =>
    rw [e] at p
    exact fun ι1 F1 H1 σ1 l1 r1 rs1 => ⟨ι1, F1, s', M', r1, rs1, SPost.le l1 p⟩
  | rt d M' => rw [e] at p; exact p
  | bk s' M' => rw [e] at p; exact p
  | ct s' M' => rw [e] at p; exact p
  | er x s' M' => rw [e] at p; exact p
  | bad => rw [e] at p; exact p⟩
theorem s_pass : KS X T W (.Pass pos) sNext := ⟨fun rs => PS.imp ps_pass fun D σ H h => by
  obtain ⟨ι, F, s, M, r, rS, p⟩ := h
  exact p ι F H σ Le.refl r rS⟩
theorem s_break : KS X T W (.Break pos) sBk := ⟨fun rs => PS.imp ps_break fun D σ H h => by
  obtain ⟨ι, F, s, M, r, rS, p⟩ := h
  exact p ι F H σ Le.refl r rS⟩
theorem s_continue : KS X T W (.Continue pos) sCt := ⟨fun rs => PS.imp ps_continue fun D σ H h => by
  obtain ⟨ι, F, s, M, r, rS, p⟩ := h
  exact p ι F H σ Le.refl r rS⟩
theorem s_expr (he : KE X T W e φ) (hs : swapsWith e none pos.line X.env = pure false) : KS X T W (.Expr e pos) (sExpr φ) := ⟨fun rs => PS.imp (ps_expr (he rs) hs) fun D σ H h => by
  obtain ⟨ι, F, s, M, r, rS, p⟩ := h
  exact ⟨ι, F, s, M, r, rS, p.step rS fun v H1 ι1 F1 M1 d _ l1 r1 rv p1 => p1 ι1 F1 H1 σ Le.refl r1 (rS.le l1)⟩⟩
theorem s_ret (he : KE X T W e φ) : KS X T W (.Return (some e) pos) (sRet φ) := ⟨fun rs => PS.imp (ps_ret (he rs)) fun D σ H h => by
  obtain ⟨ι, F, s, M, r, rS, p⟩ := h
  exact ⟨ι, F, s, M, r, rS, p.step rS fun v H1 ι1 F1 M1 d _ l1 r1 rv p1 => p1 ι1 F1 H1 v Le.refl r1 rv⟩⟩
theorem s_retN : KS X T W (.Return none pos) sRetN := ⟨fun rs => PS.imp ps_retN fun D σ H h => by
  obtain ⟨ι, F, s, M, r, rS, p⟩ := h
  exact p ι F H .non Le.refl r rfl⟩
theorem s_if (hc : KT X T W e τ) (ha : KB X T W body ψ) (hb : KB X T W orelse χ) : KS X T W (.If e body orelse pos) (sIf τ ψ χ) := ⟨fun rs => PS.imp (ps_if (hc rs) (ha.ps rs) (hb.ps rs)) fun D σ H h => by
  obtain ⟨ι, F, s, M, r, rS, p⟩ := h
  refine ⟨ι, F, s, M, r, rS, p.step rS fun v H1 ι1 F1 M1 k _ l1 r1 rv p1 => ?_⟩
  have rv' : v = k := rv
  subst rv'
  cases v with
  | true => exact iteT ⟨ι1, F1, s, M1, r1, rS.le l1, p1⟩
  | false => exact iteF ⟨ι1, F1, s, M1, r1, rS.le l1, p1⟩⟩
/-- what was told of the value, then its store -/
theorem asg_core (h : LS (kx X T) rs W (sAsg γ φ) D σ H) : LE (kx X T) rs W φ σ H fun v H1 => LGt (kx X T) rs γ idx v σ H1 D.nx := by
  obtain ⟨ι, F, s, M, r, rS, p⟩ := h
  refine ⟨ι, F, s, M, r, rS, p.step rS fun v H1 ι1 F1 M1 d _ l1 r1 rv p1 => ?_⟩
  split at p1
  · rename_i s' e
    exact ⟨ι1, F1, s, M1, d, s', r1, rS.le l1, rv, e, fun σ' rs' _ => p1 ι1 F1 H1 σ' Le.refl r1 rs'⟩
  · exact p1.elim
theorem s_asg (he : KE X T W e φ) (hg : KG X T tg γ idx) (hs : swapsWithSole [tg] e pos.line X.env = pure false) (hw : swappedStores [tg] e X.env = pure none) (h1 : (assignEach [tg] X.env).map (·.2) = [assign tg X.env]) :
    KS X T W (.Assign [tg] e pos) (sAsg γ φ) := ⟨fun rs => PS.imp (ps_asg (he rs) (hg.pg rs) hs hw h1) fun D σ H h => asg_core h⟩

/-! ### for -/
def forV (chk : Mem → Bool) (γ : GSem) (ψ : SSem) : List LD.D → SSem
  | [], s, M => if chk M then .nx s M else .bad
  | x :: xs, s, M => if chk M then (match γ x M s with
    | some s1 => match ψ s1 M with
      | .nx s2 M2 => forV chk γ ψ xs s2 M2
      | .ct s2 M2 => forV chk γ ψ xs s2 M2
      | .bk s2 M2 => .nx s2 M2
      | r => r
    | none => .bad) else .bad
def sFor (χ : Sem1 Src) (γ : GSem) (ψ : SSem) : SSem := fun s M => bindS (χ s M) s fun src M1 => forV src.chk γ ψ src.xs s M1
theorem s_for {χ : Sem1 Src} (hp : PassesOwn (model X.prog X.w) X.A X.env X.xe) (hc : X.calm = true) (hi : KI X T W tg iter χ) (hg : KG X T tg γ idx) (hb : KB X T W body ψ) (hs : ∀ x, foldedSetIterable iter X.env x = pure x) :
    KS X T W (.For tg iter body [] pos) (sFor χ γ ψ) := ⟨fun rs => PS.imp (ps_for hp hc (hi.pi rs) (hg.pg rs) (hb.ps rs) hs) fun D σ H h => by
  obtain ⟨ι, F, s, M, r, rS, p⟩ := h
  refine ⟨ι, F, s, M, r, rS, p.step rS fun J H1 ι1 F1 M1 src _ l1 r1 rj p1 => ?_⟩
  obtain ⟨okp, w, ok⟩ := rj
  refine ⟨fun i m σ' H' => m = src.xs.length - i ∧ i ≤ src.xs.length ∧ ∃ ι2 F2 s2 M2, okp ι2 F2 ∧ Rel (kx X T) ι2 F2 rs H' M2 ∧ RepS (kx X T) ι2 F2 s2 σ' ∧ SPost (kx X T) rs ι2 F2 W D (forV src.chk γ ψ (src.xs.drop i) s2 M2),
    ⟨_, rfl, Nat.zero_le _, ι1, F1, s, M1, ok, r1, rS.le l1, by rw [List.drop_zero]; exact p1⟩, ?_⟩
  rintro i m σ' H' ⟨rfl, hi, ι2, F2, s2, M2, ok2, r2, rS2, p2⟩
  by_cases hlt : i < src.xs.length
  · rw [List.drop_eq_getElem_cons hlt] at p2
    unfold forV at p2
    split at p2
    · rename_i hch
      refine .inr ⟨w.go ok2 r2 hch hlt, fun σ3 H3 => ∃ m', m' < src.xs.length - i ∧ (m' = src.xs.length - (i + 1) ∧ i + 1 ≤ src.xs.length ∧ ∃ ι4 F4 s4 M4, okp ι4 F4 ∧ Rel (kx X T) ι4 F4 rs H3 M4 ∧ RepS (kx X T) ι4 F4 s4 σ3 ∧ SPost (kx X T) rs ι4 F4 W D (forV src.chk γ ψ (src.xs.drop (i + 1)) s4 M4)),
        fun σ3 H3 ⟨m', hm, z⟩ => ⟨m', hm, z⟩, fun x H3 y => ?_⟩
      obtain ⟨ι3, F3, l3, r3, rx⟩ := w.yld ok2 r2 hch (List.getElem?_eq_getElem hlt) y
      split at p2
      · rename_i s3 eg
        refine ⟨ι3, F3, s2, M2, _, s3, r3, rS2.le l3, rx, eg, fun σ4 rs4 _ => ⟨ι3, F3, s3, M2, r3, rs4, ?_⟩⟩
        have go : ∀ {ι5 F5 H5 σ5 s5 M5}, Le (kx X T) ι3 F3 ι5 F5 → Rel (kx X T) ι5 F5 rs H5 M5 → RepS (kx X T) ι5 F5 s5 σ5 → SPost (kx X T) rs ι2 F2 W D (forV src.chk γ ψ (src.xs.drop (i + 1)) s5 M5) →
            ∃ m', m' < src.xs.length - i ∧ (m' = src.xs.length - (i + 1) ∧ i + 1 ≤ src.xs.length ∧ ∃ ι4 F4 s4 M4, okp ι4 F4 ∧ Rel (kx X T) ι4 F4 rs H5 M4 ∧ RepS (kx X T) ι4 F4 s4 σ5 ∧ SPost (kx X T) rs ι4 F4 W D (forV src.chk γ ψ (src.xs.drop (i + 1)) s4 M4)) :=
          fun l5 r5 rs5 p5 => ⟨src.xs.length - (i + 1), by omega, rfl, hlt, _, _, _, _, w.mono (l3.trans l5) ok2, r5, rs5, SPost.le (l3.trans l5) p5⟩
        cases eb : ψ s3 M2 with
        | nx s5 M5 => rw [eb] at p2; exact fun ι5 F5 H5 σ5 l5 r5 rs5 => go l5 r5 rs5 p2
        | ct s5 M5 => rw [eb] at p2; exact fun ι5 F5 H5 σ5 l5 r5 rs5 => go l5 r5 rs5 p2
        | bk s5 M5 => rw [eb] at p2; exact fun ι5 F5 H5 σ5 l5 r5 rs5 => p2 ι5 F5 H5 σ5 (l3.trans l5) r5 rs5
        | rt d M5 => rw [eb] at p2; exact fun ι5 F5 H5 v l5 r5 rv5 => p2 ι5 F5 H5 v (l3.trans l5) r5 rv5
        | er x s5 M5 => rw [eb] at p2; exact fun ι5 F5 H5 σ5 c d l5 r5 rs5 rx5 => p2 ι5 F5 H5 σ5 c d (l3.trans l5) r5 rs5 rx5
        | bad => rw [eb] at p2; exact p2
      · exact p2.elim
    · exact p2.elim
  · have ei : i = src.xs.length := by omega
    subst ei
    rw [List.drop_length] at p2
    unfold forV at p2
    split at p2
    · rename_i hch
      exact .inl ⟨w.stop ok2 r2 hch, p2 ι2 F2 H' σ' Le.refl r2 rS2⟩
    · exact p2.elim⟩

/-! ### while: at most n turns -/
def whileN (τ : Sem1 Bool) (ψ : SSem) : Nat → SSem
  | 0, _, _ => .bad
  | n + 1, s, M => bindS (τ s M) s fun k M1 => if k then (match ψ s M1 with
    | .nx s2 M2 => whileN τ ψ n s2 M2
    | .ct s2 M2 => whileN τ ψ n s2 M2
    | .bk s2 M2 => .nx s2 M2
    | r => r) else .nx s M1
theorem s_while {n : Nat} (hp : PassesOwn (model X.prog X.w) X.A X.env X.xe) (hc : KT X T W e τ) (hb : KB X T W body ψ) : KS X T W (.While e body [] pos) (whileN τ ψ n) := ⟨fun rs => PS.imp (ps_while hp (hc rs) (hb.ps rs)) fun D σ H h => by
  obtain ⟨ι, F, s, M, r, rS, p⟩ := h
  refine ⟨fun m σ' H' => ∃ ι2 F2 s2 M2, Rel (kx X T) ι2 F2 rs H' M2 ∧ RepS (kx X T) ι2 F2 s2 σ' ∧ SPost (kx X T) rs ι2 F2 W D (whileN τ ψ m s2 M2), ⟨n, ι, F, s, M, r, rS, p⟩, ?_⟩
  rintro m σ' H' ⟨ι2, F2, s2, M2, r2, rS2, p2⟩
  cases m with
  | zero => exact p2.elim
  | succ m =>
    unfold whileN at p2
    refine ⟨ι2, F2, s2, M2, r2, rS2, p2.step rS2 fun v H3 ι3 F3 M3 k _ l3 r3 rv p3 => ?_⟩
    have rv' : v = k := rv
    subst rv'
    cases v with
    | false => exact iteF (p3 ι3 F3 H3 σ' Le.refl r3 (rS2.le l3))
    | true =>
      refine iteT ⟨fun σ5 H5 => ∃ ι4 F4 s4 M4, Rel (kx X T) ι4 F4 rs H5 M4 ∧ RepS (kx X T) ι4 F4 s4 σ5 ∧ SPost (kx X T) rs ι4 F4 W D (whileN τ ψ m s4 M4), fun σ5 H5 z => ⟨m, Nat.lt_succ_self _, z⟩, ι3, F3, s2, M3, r3, rS2.le l3, ?_⟩
      rw [if_pos rfl] at p3
      cases eb : ψ s2 M3 with
      | nx s5 M5 => rw [eb] at p3; exact fun ι5 F5 H5 σ5 l5 r5 rs5 => ⟨ι5, F5, s5, M5, r5, rs5, SPost.le l5 p3⟩
      | ct s5 M5 => rw [eb] at p3; exact fun ι5 F5 H5 σ5 l5 r5 rs5 => ⟨ι5, F5, s5, M5, r5, rs5, SPost.le l5 p3⟩
      | bk s5 M5 => rw [eb] at p3; exact fun ι5 F5 H5 σ5 l5 r5 rs5 => p3 ι5 F5 H5 σ5 l5 r5 rs5
      | rt d M5 => rw [eb] at p3; exact fun ι5 F5 H5 v l5 r5 rv5 => p3 ι5 F5 H5 v l5 r5 rv5
      | er x s5 M5 => rw [eb] at p3; exact fun ι5 F5 H5 σ5 c d l5 r5 rs5 rx5 => p3 ι5 F5 H5 σ5 c d l5 r5 rs5 rx5
      | bad => rw [eb] at p3; exact p3⟩
end
end LD
namespace LD
open PySem PySem.Spec PyProof.Rows L2

section
variable {K : KX} {ι : List Addr} {F H : Hp} {M : Mem} {rs : List (Addr × HO)} {p : Addr} {o o' : HO}
theorem Rel.reserve (r : Rel K ι F rs H M) (h : H p = none) : Rel K ι F ((p, o) :: rs) (upd H p o) M where
  len := r.len
  sub := fun b u e => by
    have hb : b ≠ p := ne_of_none (r.sub _ _ e) h
    rw [upd_ne hb]; exact r.sub _ _ e
  obj := fun i u a h1 h2 h3 => by
    obtain ⟨f0, ro⟩ := r.obj i u a h1 h2 h3
    have hap : a ≠ p := fun e => by
      obtain ⟨x, hx⟩ := ro.some h3
      rw [e, h] at hx
      cases hx
    exact ⟨f0, ro.at (upd_ne hap)⟩
  inj := r.inj
  there := fun i a e => by
    obtain ⟨x, hx⟩ := r.there i a e
    exact ⟨x, by rw [upd_ne (ne_of_none hx h)]; exact hx⟩
  rsv := fun q hq => by
    rcases List.mem_cons.mp hq with rfl | hq
    · refine ⟨upd_same, r.free h, fun i e => ?_⟩
      obtain ⟨x, hx⟩ := r.there i _ e
      rw [h] at hx
      cases hx
    · obtain ⟨r1, r2, r3⟩ := r.rsv q hq
      exact ⟨by rw [upd_ne (ne_of_none r1 h)]; exact r1, r2, r3⟩
theorem Rel.rewr (r : Rel K ι F ((p, o) :: rs) H M) (hp : ∀ q ∈ rs, q.1 ≠ p) : Rel K ι F ((p, o') :: rs) (upd H p o') M where
  len := r.len
  sub := fun b u e => by
    have hb : b ≠ p := fun q => by
      rw [q, (r.rsv _ List.mem_cons_self).2.1] at e
      cases e
    rw [upd_ne hb]; exact r.sub _ _ e
  obj := fun i u a h1 h2 h3 => by
    obtain ⟨f0, ro⟩ := r.obj i u a h1 h2 h3
    have hap : a ≠ p := fun e => (r.rsv _ List.mem_cons_self).2.2 i (by rw [← e]; exact h2)
    exact ⟨f0, ro.at (upd_ne hap)⟩
  inj := r.inj
  there := fun i a e => by
    obtain ⟨x, hx⟩ := r.there i a e
    have hap : a ≠ p := fun z => (r.rsv _ List.mem_cons_self).2.2 i (by rw [← z]; exact e)
    exact ⟨x, by rw [upd_ne hap]; exact hx⟩
  rsv := fun q hq => by
    rcases List.mem_cons.mp hq with rfl | hq
    · obtain ⟨r1, r2, r3⟩ := r.rsv _ List.mem_cons_self
      exact ⟨upd_same, r2, r3⟩
    · obtain ⟨r1, r2, r3⟩ := r.rsv q (List.mem_cons_of_mem _ hq)
      exact ⟨by rw [upd_ne (hp q hq)]; exact r1, r2, r3⟩
theorem Rel.unresF (r : Rel K ι F ((p, o) :: rs) H M) (hp : ∀ q ∈ rs, q.1 ≠ p) : Rel K ι (upd F p o) rs H M where
  len := r.len
  sub := fun b u e => by
    by_cases hb : b = p
    · subst hb
      rw [upd_same] at e
      rw [← e]
      exact (r.rsv _ List.mem_cons_self).1
    · rw [upd_ne hb] at e
      exact r.sub _ _ e
  obj := fun i u a h1 h2 h3 => by
    obtain ⟨f0, ro⟩ := r.obj i u a h1 h2 h3
    have hap : a ≠ p := fun e => (r.rsv _ List.mem_cons_self).2.2 i (by rw [← e]; exact h2)
    exact ⟨by rw [upd_ne hap]; exact f0, ro.le (Le.new (r.rsv _ List.mem_cons_self).2.1)⟩
  inj := r.inj
  there := r.there
  rsv := fun q hq => by
    obtain ⟨r1, r2, r3⟩ := r.rsv q (List.mem_cons_of_mem _ hq)
    exact ⟨r1, by rw [upd_ne (hp q hq)]; exact r2, r3⟩
theorem Rel.unresM (r : Rel K ι F ((p, o) :: rs) H M) (hp : ∀ q ∈ rs, q.1 ≠ p) {u : DO} (ho : RepO K (ι ++ [p]) F H p u) : Rel K (ι ++ [p]) F rs H (M ++ [u]) where
  len := by rw [List.length_append, List.length_append, r.len] <;> rfl
  sub := r.sub
  obj := fun i v a h1 h2 h3 => by
    by_cases hi : i < M.length
    · rw [List.getElem?_append_left hi] at h1
      rw [List.getElem?_append_left (by rw [r.len]; exact hi)] at h2
      obtain ⟨f0, ro⟩ := r.obj i v a h1 h2 h3
      exact ⟨f0, ro.le Le.push⟩
    · have hl : i < (M ++ [u]).length := (List.getElem?_eq_some_iff.mp h1).1
      have hi' : i = M.length := by rw [List.length_append, List.length_singleton] at hl; omega
      subst hi'
      have e1 : u = v := by simpa using h1
      rw [← r.len] at h2
      have e2 : p = a := by simpa using h2
      subst e1; subst e2
      exact ⟨(r.rsv _ List.mem_cons_self).2.1, ho⟩
  inj := fun i j a h1 h2 => by
    have old : ∀ (k : Nat), k < M.length → (ι ++ [p])[k]? = some a → ι[k]? = some a ∧ a ≠ p := fun k hk q => by
      rw [List.getElem?_append_left (by rw [r.len]; exact hk)] at q
      exact ⟨q, fun z => (r.rsv _ List.mem_cons_self).2.2 k (by rw [← z]; exact q)⟩
    have last : ∀ (k : Nat), ¬ k < M.length → (ι ++ [p])[k]? = some a → k = M.length ∧ a = p := fun k hk q => by
      have hl : k < (ι ++ [p]).length := (List.getElem?_eq_some_iff.mp q).1
      have hk' : k = M.length := by rw [List.length_append, List.length_singleton, r.len] at hl; omega
      rw [hk', ← r.len] at q
      have q' : p = a := by simpa using q
      exact ⟨hk', q'.symm⟩
    by_cases hi : i < M.length
    · obtain ⟨q1, na⟩ := old i hi h1
      by_cases hj : j < M.length
      · exact r.inj i j a q1 (old j hj h2).1
      · exact absurd (last j hj h2).2 na
    · obtain ⟨ei, ea⟩ := last i hi h1
      by_cases hj : j < M.length
      · exact absurd ea (old j hj h2).2
      · rw [ei, (last j hj h2).1]
  there := fun i a e => by
    by_cases hi : i < M.length
    · rw [List.getElem?_append_left (by rw [r.len]; exact hi)] at e
      exact r.there i a e
    · have hl : i < (ι ++ [p]).length := (List.getElem?_eq_some_iff.mp e).1
      have hk' : i = M.length := by rw [List.length_append, List.length_singleton, r.len] at hl; omega
      rw [hk', ← r.len] at e
      have q' : p = a := by simpa using e
      exact ⟨o, by rw [← q']; exact (r.rsv _ List.mem_cons_self).1⟩
  rsv := fun q hq => by
    obtain ⟨r1, r2, r3⟩ := r.rsv q (List.mem_cons_of_mem _ hq)
    refine ⟨r1, r2, fun i e => ?_⟩
    by_cases hi : i < M.length
    · rw [List.getElem?_append_left (by rw [r.len]; exact hi)] at e
      exact r3 i e
    · have hl : i < (ι ++ [p]).length := (List.getElem?_eq_some_iff.mp e).1
      have hk' : i = M.length := by rw [List.length_append, List.length_singleton, r.len] at hl; omega
      rw [hk', ← r.len] at e
      have q' : p = q.1 := by simpa using e
      exact hp q hq q'.symm
end

/-! ### list comprehensions -/
def WN : WX := fun _ _ _ _ => False
def wipeD (s : DS) : List Nat → DS
  | [] => s
  | v :: vs => (wipeD s vs).set v none
def compV (chk : Mem → Bool) (γ : GSem) (τ : Sem1 Bool) (φ : Sem1 D) (s : DS) : List D → Mem → R (List D)
  | [], M => if chk M then .ok [] M else .bad
  | x :: xs, M => if chk M then (match γ x M s with
    | some s1 => match τ s1 M with
      | .ok b M1 => if b then (match φ s1 M1 with
        | .ok y M2 => (compV chk γ τ φ s xs M2).bind fun ys M3 => .ok (y :: ys) M3
        | _ => .bad) else compV chk γ τ φ s xs M1
      | _ => .bad
    | none => .bad) else .bad
def finL (mu : Bool) (xs : List D) (M : Mem) : R D := .ok (newL mu xs M).1 (newL mu xs M).2
def eComp (mu : Bool) (χ : Sem1 Src) (γ : GSem) (τ : Sem1 Bool) (φ : Sem1 D) (own : List Nat) : Sem1 D := fun s M => (χ s M).bind fun src M1 => if src.xs.length ≤ LINE then (compV src.chk γ τ φ (wipeD s own) src.xs M1).bind fun ys M2 => finL mu ys M2 else .bad
def tTrue : Sem1 Bool := fun _ M => .ok true M
structure KTs (X : Cx) (T : Tab) (W : WX) (ifs : List Expr) (τ : Sem1 Bool) : Prop where
  pt : ∀ rs, PTs X ifs (LT (kx X T) rs W τ)
section
variable {X : Cx} {T : Tab} {W : WX} {K : KX} {ι ι' : List Addr} {F F' H : Hp} {M : Mem} {rs : List (Addr × HO)} {s : DS} {σ : L2.St}
theorem RepS.unset {i : Nat} (h : RepS K ι F s σ) : RepS K ι F (s.set i none) (σ.set i none) :=
  ⟨by rw [List.length_set, List.length_set]; exact h.1, fun j e q => by
    by_cases hj : i = j
    · subst hj
      have hl : i < s.length := by
        have := (List.getElem?_eq_some_iff.mp q).1
        rwa [List.length_set] at this
      rw [List.getElem?_set_self hl] at q
      cases q
    · rw [List.getElem?_set_ne hj] at q
      obtain ⟨u, h1, h2⟩ := h.2 j e q
      exact ⟨u, by rw [List.getElem?_set_ne hj]; exact h1, h2⟩⟩
theorem RepS.wipe (h : RepS K ι F s σ) : ∀ vs : List Nat, RepS K ι F (wipeD s vs) (L2.wipe σ vs)
  | [] => h
  | v :: vs => (h.wipe vs).unset
theorem wipe_wipe {vs : List Nat} : L2.wipe (L2.wipe σ vs) vs = L2.wipe σ vs := by
  apply List.ext_getElem?
  intro j
  by_cases hj : j ∈ vs
  · rw [wipe_in hj, wipe_in hj]
    cases σ[j]? <;> rfl
  · rw [wipe_out hj]
theorem kts_nil : KTs X T W [] tTrue := ⟨fun rs => ⟨fun pins s σ H Q I h => by
  obtain ⟨ι, F, st, M, r, rS, p⟩ := h
  exact pts_nil.run pins s σ H Q I (p.fin r rfl)⟩⟩
theorem kts_one {c : Expr} {τ : Sem1 Bool} (h : KT X T W c τ) : KTs X T W [c] τ := ⟨fun rs => pts_one (h rs)⟩
theorem finL_at {mu : Bool} {ds : List D} {vs : List V} {D : Addr} {Q : VK} {W' : Value → Option Addr → Hp → Prop} (r : Rel K ι F ((D, .lst vs) :: rs) H M) (hp : ∀ q ∈ rs, q.1 ≠ D) (rv : RepL K ι F ds vs) (p : Post K rs (repD K) ι F W' Q (finL mu ds M)) : Q (.ref D) H := by
  have h0 := (r.rsv _ List.mem_cons_self).1
  cases mu with
  | true =>
    exact p (ι ++ [D]) F H _ Le.push (r.unresM hp (u := .lst ds) ⟨vs, h0, RepL.le Le.push rv⟩) ⟨D, rfl, by rw [← r.len]; simp⟩
  | false =>
    exact p ι (upd F D (.lst vs)) H _ (Le.new (r.rsv _ List.mem_cons_self).2.1) (r.unresF hp) ⟨D, vs, rfl, .inl (.inl upd_same), RepL.le (Le.new (r.rsv _ List.mem_cons_self).2.1) rv⟩
abbrev exE (f : List (Addr × HO) → TE) : TE := fun σ H Q => ∃ rs, f rs σ H Q
theorem lc_sem {mu : Bool} {χ : Sem1 Src} {γ : GSem} {idx : List Nat} {τ : Sem1 Bool} {φ : Sem1 LD.D} {own : List Nat} {Q : VK} (hsub : ∀ i ∈ idx, i ∈ own) (h : LE K rs W (eComp mu χ γ τ φ own) σ H Q) :
    tLc (LG K rs (repI K) W χ) (fun v σ H Q => ∃ rs, LGt K rs γ idx v σ H Q) (fun σ H Q => ∃ rs, LT K rs WN τ σ H Q) (fun σ H Q => ∃ rs, LE K rs WN φ σ H Q) own σ H Q := by
  obtain ⟨ι, F, s, M, r, rS, p⟩ := h
  refine ⟨ι, F, s, M, r, rS, p.step fun J H1 ι1 F1 M1 src l1 r1 rj p1 => ?_⟩
  obtain ⟨okp, w, ok⟩ := rj
  split at p1
  · rename_i hlen
    intro D hD
    have hp : ∀ q ∈ rs, q.1 ≠ D := fun q hq e => by
      have z := (r1.rsv q hq).1
      rw [e, hD] at z
      cases z
    refine ⟨fun i m H' => m = src.xs.length - i ∧ i ≤ src.xs.length ∧ ∃ ι2 F2 M2 ds vs, okp ι2 F2 ∧ ds.length ≤ i ∧ Rel K ι2 F2 ((D, .lst vs) :: rs) H' M2 ∧ RepL K ι2 F2 ds vs ∧ RepS K ι2 F2 (wipeD s own) (L2.wipe σ own) ∧
      Post K rs (repD K) ι2 F2 (fun c d => W c d σ) Q ((compV src.chk γ τ φ (wipeD s own) (src.xs.drop i) M2).bind fun ys M3 => finL mu (ds ++ ys) M3),
      ⟨_, rfl, Nat.zero_le _, ι1, F1, M1, [], [], ok, Nat.le_refl _, r1.reserve hD, rfl, (rS.le l1).wipe own, by rw [List.drop_zero]; exact p1⟩, ?_⟩
    rintro i m H' ⟨rfl, hi, ι2, F2, M2, ds, vs, ok2, hz, r2, rv2, rS2, p2⟩
    by_cases hlt : i < src.xs.length
    · rw [List.drop_eq_getElem_cons hlt] at p2
      rw [compV] at p2
      cases hch : src.chk M2 with
      | false => rw [hch, if_neg Bool.false_ne_true] at p2; exact p2.elim
      | true =>
        rw [hch, if_pos rfl] at p2
        refine .inr ⟨w.go ok2 r2 hch hlt, fun H3 => ∃ m', m' < src.xs.length - i ∧ (m' = src.xs.length - (i + 1) ∧ (i + 1) ≤ src.xs.length ∧ ∃ ι2 F2 M2 ds vs, okp ι2 F2 ∧ ds.length ≤ (i + 1) ∧ Rel K ι2 F2 ((D, .lst vs) :: rs) H3 M2 ∧ RepL K ι2 F2 ds vs ∧ RepS K ι2 F2 (wipeD s own) (L2.wipe σ own) ∧
          Post K rs (repD K) ι2 F2 (fun c d => W c d σ) Q ((compV src.chk γ τ φ (wipeD s own) (src.xs.drop (i + 1)) M2).bind fun ys M3 => finL mu (ds ++ ys) M3)), fun H3 z => z, fun x H3 y => ?_⟩
        obtain ⟨ι3, F3, l3, r3, rx⟩ := w.yld ok2 r2 hch (List.getElem?_eq_getElem hlt) y
        cases eg : γ src.xs[i] M2 (wipeD s own) with
        | none => rw [eg] at p2; exact p2.elim
        | some s3 =>
          rw [eg] at p2
          simp only at p2
          refine ⟨_, ι3, F3, wipeD s own, M2, _, s3, r3, rS2.le l3, rx, eg, fun σ4 rs4 hw => ⟨(hw own hsub).trans wipe_wipe, ?_⟩⟩
          refine ⟨_, ι3, F3, s3, M2, r3, rs4, ?_⟩
          cases et : τ s3 M2 with
          | er x M => rw [et] at p2; exact p2.elim
          | bad => rw [et] at p2; exact p2.elim
          | ok b M4 =>
            rw [et] at p2
            simp only at p2
            intro ι4 F4 H4 v l4 r4 rb
            have rb' : v = b := rb
            subst rb'
            cases v with
            | false =>
              rw [if_neg Bool.false_ne_true] at p2
              refine iteF ⟨src.xs.length - (i + 1), by omega, rfl, hlt, ι4, F4, M4, ds, vs, w.mono (l3.trans l4) ok2, by omega, r4, RepL.le (l3.trans l4) rv2, rS2.le (l3.trans l4), Post.le (l3.trans l4) p2⟩
            | true =>
              rw [if_pos rfl] at p2
              refine iteT ⟨_, ι4, F4, s3, M4, r4, rs4.le l4, ?_⟩
              cases ep : φ s3 M4 with
              | er x M => rw [ep] at p2; exact p2.elim
              | bad => rw [ep] at p2; exact p2.elim
              | ok y5 M5 =>
                rw [ep] at p2
                intro ι5 F5 H5 v5 l5 r5 rv5
                have lt := (l3.trans l4).trans l5
                have hl := RepL.length rv2
                have hs := line_eq
                refine ⟨vs, (r5.rsv _ List.mem_cons_self).1, by omega, src.xs.length - (i + 1), by omega, rfl, hlt, ι5, F5, M5, ds ++ [y5], vs ++ [v5], w.mono lt ok2, by rw [List.length_append]; simp; omega, r5.rewr hp, (RepL.le lt rv2).append (.one rv5), rS2.le lt, ?_⟩
                refine Post.le lt ?_
                simp only at p2
                cases ec : compV src.chk γ τ φ (wipeD s own) (List.drop (i + 1) src.xs) M5 with
                | er x M => rw [ec] at p2; exact p2
                | bad => rw [ec] at p2; exact p2
                | ok ys M6 =>
                  rw [ec] at p2
                  simp only [R.bind_ok, List.append_assoc, List.singleton_append] at p2 ⊢
                  exact p2
    · have ei : i = src.xs.length := by omega
      subst ei
      rw [List.drop_length, compV] at p2
      cases hch : src.chk M2 with
      | false => rw [hch, if_neg Bool.false_ne_true] at p2; exact p2.elim
      | true =>
        rw [hch, if_pos rfl, R.bind_ok, List.append_nil] at p2
        exact .inl ⟨w.stop ok2 r2 hch, finL_at r2 hp rv2 p2⟩
  · exact p1.elim
theorem PG.ex {tg : Expr} {f : List (Addr × HO) → TG} (h : ∀ rs, PG X tg (f rs)) : PG X tg (fun v σ H Q => ∃ rs, f rs v σ H Q) := ⟨fun pins s σ H v u Q I r ⟨rs, q⟩ => (h rs).run pins s σ H v u Q I r q⟩
theorem PE.ex {e : Expr} {f : List (Addr × HO) → TE} (h : ∀ rs, PE X e (f rs)) : PE X e (fun σ H Q => ∃ rs, f rs σ H Q) := ⟨fun pins s σ H Q I ⟨rs, q⟩ => (h rs).run pins s σ H Q I q⟩
theorem PTs.ex {e : List Expr} {f : List (Addr × HO) → TT} (h : ∀ rs, PTs X e (f rs)) : PTs X e (fun σ H Q => ∃ rs, f rs σ H Q) := ⟨fun pins s σ H Q I ⟨rs, q⟩ => (h rs).run pins s σ H Q I q⟩
variable {elt tg iter : Expr} {ifs : List Expr} {scope : Scope} {own : List (Str × Nat)} {pos spos : Pos} {χ : Sem1 Src} {γ : GSem} {idx : List Nat} {τ : Sem1 Bool} {φ : Sem1 LD.D} {mu : Bool}
theorem d_comp (hc : X.calm = true) (hN : X.N.Nodup) (ok : BlkOk X.N X.env.scope scope own) (hsub : ∀ i ∈ idx, i ∈ own.map (·.2)) (hi : KI X T W tg iter χ)
    (hg : ∀ (s : Shared) (H : Hp) (C : Addr) (cl : List (Str × Addr)) (fp : List Addr), KG (X.blk s H scope (compEnvC scope cl C X.env) fp) T tg γ idx)
    (ht : ∀ (s : Shared) (H : Hp) (C : Addr) (cl : List (Str × Addr)) (fp : List Addr), KTs (X.blk s H scope (compEnvC scope cl C X.env) fp) T WN ifs τ)
    (he : ∀ (s : Shared) (H : Hp) (C : Addr) (cl : List (Str × Addr)) (fp : List Addr), KE (X.blk s H scope (compEnvC scope cl C X.env) fp) T WN elt φ) (hs : ∀ x, foldedSetIterable iter X.env x = pure x) :
    KE X T W (.ListComp elt [⟨tg, iter, ifs, 0⟩] scope pos) (eComp mu χ γ τ φ (own.map (·.2))) := fun rs =>
  PE.imp (pe_lc hc hN (hi.pi rs) ok (fun s H C cl fp => PG.ex (hg s H C cl fp).pg) (fun s H C cl fp => PTs.ex (ht s H C cl fp).pt) (fun s H C cl fp => PE.ex (f := fun rs => LE (kx X T) rs WN φ) (he s H C cl fp)) hs) fun σ H Q h => lc_sem (K := kx X T) hsub h
theorem s_setLc {i : Nat} {y : Str} {py : Pos} (hc : X.calm = true) (hN : X.N.Nodup) (ok : BlkOk X.N X.env.scope scope own) (hsub : ∀ i ∈ idx, i ∈ own.map (·.2)) (hy : X.N[i]? = some y) (hyl : X.env.scope.names.lookup y = some .local)
    (hsw : swapsWith (.ListComp elt [⟨tg, iter, ifs, 0⟩] scope pos) (some (.Name y py)) spos.line X.env = pure true) (hi : KI X T W tg iter χ)
    (hg : ∀ (s : Shared) (H : Hp) (C : Addr) (cl : List (Str × Addr)) (fp : List Addr), KG (X.blk s H scope (compEnvC scope cl C X.env) fp) T tg γ idx)
    (ht : ∀ (s : Shared) (H : Hp) (C : Addr) (cl : List (Str × Addr)) (fp : List Addr), KTs (X.blk s H scope (compEnvC scope cl C X.env) fp) T WN ifs τ)
    (he : ∀ (s : Shared) (H : Hp) (C : Addr) (cl : List (Str × Addr)) (fp : List Addr), KE (X.blk s H scope (compEnvC scope cl C X.env) fp) T WN elt φ) (hs : ∀ x, foldedSetIterable iter X.env x = pure x) :
    KS X T W (.Assign [.Name y py] (.ListComp elt [⟨tg, iter, ifs, 0⟩] scope pos) spos) (sAsg (gNm i) (eComp mu χ γ τ φ (own.map (·.2)))) := ⟨fun rs =>
  PS.imp (ps_setLc hc hN hy hyl hsw (hi.pi rs) ok (fun s H C cl fp => PG.ex (hg s H C cl fp).pg) (fun s H C cl fp => PTs.ex (ht s H C cl fp).pt) (fun s H C cl fp => PE.ex (f := fun rs => LE (kx X T) rs WN φ) (he s H C cl fp)) hs) fun D σ H h => by
    refine lc_sem (K := kx X T) hsub (LG.imp (asg_core (idx := [i]) h) fun v H1 q => ?_)
    obtain ⟨ι, F, s, M, d, s', r, rS, rd, e, q⟩ := q
    cases e
    exact q _ (rS.set rd) fun vs hv => wipe_set (hv i (List.mem_singleton.mpr rfl))⟩
end
end LD
namespace LD
open PySem PySem.Spec PyProof.Rows L2

/-! ### stores -/
theorem nodup_inj {α : Type} : ∀ {l : List α} {i j : Nat} {x : α}, l.Nodup → l[i]? = some x → l[j]? = some x → i = j
  | [], i, j, x, _, h, _ => by simp at h
  | a :: l, 0, 0, x, _, _, _ => rfl
  | a :: l, 0, j + 1, x, n, h, h' => by
    have e : a = x := by simpa using h
    have m : x ∈ l := List.mem_of_getElem? (i := j) (by simpa using h')
    exact absurd (by rw [e]; exact m) (List.nodup_cons.mp n).1
  | a :: l, i + 1, 0, x, n, h, h' => by
    have e : a = x := by simpa using h'
    have m : x ∈ l := List.mem_of_getElem? (i := i) (by simpa using h)
    exact absurd (by rw [e]; exact m) (List.nodup_cons.mp n).1
  | a :: l, i + 1, j + 1, x, n, h, h' => by
    rw [nodup_inj (l := l) (i := i) (j := j) (List.nodup_cons.mp n).2 (by simpa using h) (by simpa using h')]
theorem nodup_len {α : Type} [DecidableEq α] : ∀ {xs ys : List α}, xs.Nodup → (∀ x ∈ xs, x ∈ ys) → xs.length ≤ ys.length
  | [], ys, _, _ => Nat.zero_le _
  | x :: xs, ys, h, s => by
    have hx := s x List.mem_cons_self
    obtain ⟨h1, h2⟩ := List.nodup_cons.mp h
    have q := nodup_len (ys := ys.erase x) h2 fun y hy => (List.mem_erase_of_ne (fun e => h1 (by rw [← e]; exact hy))).mpr (s y (List.mem_cons_of_mem _ hy))
    rw [List.length_erase_of_mem hx] at q
    have : 0 < ys.length := List.length_pos_of_mem hx
    rw [List.length_cons]
    omega
theorem keys_putF' (f : Str) (v : V) : ∀ fs : List (Str × V), (putF f v fs).map (·.1) = if f ∈ fs.map (·.1) then fs.map (·.1) else fs.map (·.1) ++ [f]
  | [] => by rfl
  | (g, x) :: r => by
    have ih := keys_putF' f v r
    rw [show putF f v ((g, x) :: r) = (if g = f then (g, v) :: r else (g, x) :: putF f v r) from rfl]
    by_cases h : g = f
    · subst h
      rw [if_pos rfl, if_pos (by simp)] <;> rfl
    · rw [if_neg h, List.map_cons, List.map_cons, ih]
      by_cases hr : f ∈ r.map (·.1)
      · rw [if_pos hr, if_pos (List.mem_cons_of_mem _ hr)]
      · rw [if_neg hr, if_neg (fun z => (List.mem_cons.mp z).elim (fun e => h e.symm) hr)] <;> rfl
def setD (x y d : D) (M : Mem) : Option Mem := match x with
  | .ref i => match M[i]? with
    | some (.lst xs) => match y with
      | .int k => match ixN xs.length k with
        | some j => some (M.set i (.lst (xs.set j d)))
        | none => none
      | _ => none
    | some (.dic kvs) => match keyOf y with
      | some k => if kvs.length < LINE then some (M.set i (.dic (putK' kvs k d))) else none
      | none => none
    | _ => none
  | _ => none
where putK' (kvs : List (Key × D)) (k : Key) (d : D) : List (Key × D) := if (kvs.any fun kv => decide (kv.1 = k)) = true then kvs.map (fun kv => if kv.1 = k then (kv.1, d) else kv) else kvs ++ [(k, d)]
def delD (x y : D) (M : Mem) : Option Mem := match x with
  | .ref i => match M[i]? with
    | some (.dic kvs) => match keyOf y with
      | some k => if (getK kvs k).isSome then some (M.set i (.dic (kvs.filter fun kv => decide (kv.1 ≠ k)))) else none
      | none => none
    | _ => none
  | _ => none
def sSub (o i a : Sem1 D) : SSem := fun s M => bindS (a s M) s fun d M1 => bindS (o s M1) s fun x M2 => bindS (i s M2) s fun y M3 => match setD x y d M3 with
  | some M4 => .nx s M4
  | none => .bad
def sDel (o i : Sem1 D) : SSem := fun s M => bindS (o s M) s fun x M2 => bindS (i s M2) s fun y M3 => match delD x y M3 with
  | some M4 => .nx s M4
  | none => .bad
def sFldD (tf : List (Nat × Nat)) (o a : Sem1 D) : SSem := fun s M => bindS (a s M) s fun d M1 => bindS (o s M1) s fun x M2 => match x with
  | .ref i => match M2[i]? with
    | some (.ins c fs) => match tf.lookup c with
      | some j => .nx s (M2.set i (.ins c (fs.set j (some d))))
      | none => .bad
    | _ => .bad
  | _ => .bad
/-- a new dict -/
def eDic0 (mu : Bool) : Sem1 D := fun _ M => .ok (newK mu [] M).1 (newK mu [] M).2
section
variable {X : Cx} {T : Tab} {W : WX} {K : KX} {ι ι' : List Addr} {F F' H : Hp} {M M' : Mem} {rs : List (Addr × HO)} {s : DS} {σ : L2.St} {o i a : Expr} {φ ψ χ : Sem1 LD.D} {pos pos' tpos : Pos} {x y d : LD.D}
theorem PSet.or {t t' : TSet} (h : PSet X t) (h' : PSet X t') : PSet X (fun o i v H Q => t o i v H Q ∨ t' o i v H Q) := fun pins s σ H o i v ov iv u Q I a b c q => q.elim (h pins s σ H o i v ov iv u Q I a b c) (h' pins s σ H o i v ov iv u Q I a b c)
theorem PSet.imp {t t' : TSet} (h : PSet X t) (f : ∀ o i v H Q, t' o i v H Q → t o i v H Q) : PSet X t' := fun pins s σ H o i v ov iv u Q I a b c q => h pins s σ H o i v ov iv u Q I a b c (f _ _ _ _ _ q)
theorem putK_rep {k : Key} {v : V} : ∀ {kvs : List (Key × LD.D)} {vs : List (Key × V)}, vs.map (·.1) = kvs.map (·.1) → RepL K ι F (kvs.map (·.2)) (vs.map (·.2)) → Rep K ι F d v →
    (vs.any fun kv => decide (kv.1 = k)) = (kvs.any fun kv => decide (kv.1 = k)) ∧ (vs.map (fun kv => if kv.1 = k then (kv.1, v) else kv)).map (·.1) = (kvs.map (fun kv => if kv.1 = k then (kv.1, d) else kv)).map (·.1) ∧
    RepL K ι F ((kvs.map (fun kv => if kv.1 = k then (kv.1, d) else kv)).map (·.2)) ((vs.map (fun kv => if kv.1 = k then (kv.1, v) else kv)).map (·.2))
  | [], [], _, _, _ => ⟨rfl, rfl, rfl⟩
  | [], _ :: _, e, _, _ => by cases e
  | _ :: _, [], e, _, _ => by cases e
  | (k1, d1) :: kvs, (k2, v2) :: vs, e, h, h' => by
    obtain ⟨v3, r, e1, h1, h2⟩ := h
    have e' : k2 = k1 ∧ vs.map (·.1) = kvs.map (·.1) := List.cons.inj e
    obtain ⟨rfl, e2⟩ := e'
    have e3 : v2 = v3 ∧ vs.map (·.2) = r := List.cons.inj e1
    obtain ⟨rfl, rfl⟩ := e3
    obtain ⟨a1, a2, a3⟩ := putK_rep e2 h2 h'
    refine ⟨by rw [List.any_cons, List.any_cons, a1], ?_, ?_⟩
    · simp only [List.map_cons]
      rw [a2]
      by_cases hk : k2 = k
      · rw [if_pos hk, if_pos hk]
      · rw [if_neg hk, if_neg hk]
    · simp only [List.map_cons]
      by_cases hk : k2 = k
      · rw [if_pos hk, if_pos hk]; exact ⟨v, _, rfl, h', a3⟩
      · rw [if_neg hk, if_neg hk]; exact ⟨v2, _, rfl, h1, a3⟩
theorem dropK_rep {k : Key} : ∀ {kvs : List (Key × LD.D)} {vs : List (Key × V)}, vs.map (·.1) = kvs.map (·.1) → RepL K ι F (kvs.map (·.2)) (vs.map (·.2)) →
    (vs.filter fun kv => decide (kv.1 ≠ k)).map (·.1) = (kvs.filter fun kv => decide (kv.1 ≠ k)).map (·.1) ∧ RepL K ι F ((kvs.filter fun kv => decide (kv.1 ≠ k)).map (·.2)) ((vs.filter fun kv => decide (kv.1 ≠ k)).map (·.2))
  | [], [], _, _ => ⟨rfl, rfl⟩
  | [], _ :: _, e, _ => by cases e
  | _ :: _, [], e, _ => by cases e
  | (k1, d1) :: kvs, (k2, v2) :: vs, e, h => by
    obtain ⟨v3, r, e1, h1, h2⟩ := h
    have e' : k2 = k1 ∧ vs.map (·.1) = kvs.map (·.1) := List.cons.inj e
    obtain ⟨rfl, e2⟩ := e'
    have e3 : v2 = v3 ∧ vs.map (·.2) = r := List.cons.inj e1
    obtain ⟨rfl, rfl⟩ := e3
    obtain ⟨a2, a3⟩ := dropK_rep (k := k) e2 h2
    by_cases hk : k2 = k
    · rw [List.filter_cons_of_neg (by simpa using hk), List.filter_cons_of_neg (by simpa using hk)]
      exact ⟨a2, a3⟩
    · rw [List.filter_cons_of_pos (by simpa using hk), List.filter_cons_of_pos (by simpa using hk)]
      exact ⟨by rw [List.map_cons, List.map_cons, a2], v2, _, rfl, h1, a3⟩
def RSt (K : KX) (rs : List (Addr × HO)) : TSet := fun o i v H Q => ∃ ι F M x y d M', Rel K ι F rs H M ∧ Rep K ι F x o ∧ Rep K ι F y i ∧ Rep K ι F d v ∧ setD x y d M = some M' ∧ ∀ H', Rel K ι F rs H' M' → Q H'
theorem set_d (hu : X.A.units + 1 < cLine) : PSet X (RSt (kx X T) rs) := PSet.imp (PSet.or set_list (set_dict hu)) fun o i v H Q h => by
  obtain ⟨ι, F, M, x, y, d, M', r, rx, ry, rd, e, q⟩ := h
  cases x with
  | ref j =>
    obtain ⟨a, rfl, hj⟩ := rx
    simp only [setD] at e
    split at e
    · rename_i xs hM
      obtain ⟨f0, vs, h2, h3⟩ := r.obj j _ a hM hj rfl
      split at e
      · rename_i k
        split at e
        · rename_i n hn
          cases e
          cases ry
          refine .inl ⟨a, vs, k, n, rfl, rfl, h2, by rw [RepL.length h3]; exact hn, q _ (r.write hM hj rfl ⟨_, upd_same, h3.set rd⟩)⟩
        · cases e
      · cases e
    · rename_i kvs hM
      obtain ⟨f0, vs, h2, h3, h4⟩ := r.obj j _ a hM hj rfl
      split at e
      · rename_i k hk
        split at e
        · rename_i hl
          cases e
          have ey := keyOf_rep hk ry
          subst ey
          have hlen : vs.length = kvs.length := by
            have := congrArg List.length h3
            rwa [List.length_map, List.length_map] at this
          refine .inr ⟨a, _, rfl, .inl ⟨vs, k, h2, rfl, by rw [hlen, ← line_eq]; exact hl, rfl⟩, q _ (r.write hM hj rfl ?_)⟩
          obtain ⟨a1, a2, a3⟩ := putK_rep (k := k) h3 h4 rd
          refine ⟨putK vs k v, upd_same, ?_⟩
          unfold putK setD.putK'
          rw [a1]
          split
          · exact ⟨a2, a3⟩
          · refine ⟨by rw [List.map_append, List.map_append, h3] <;> rfl, ?_⟩
            rw [List.map_append, List.map_append]
            exact h4.append (.one rd)
        · cases e
      · cases e
    · cases e
  | _ => cases e
theorem s_sub (hu : X.A.units + 1 < cLine) (ha : KE X T W a φ) (ho : KE X T W o ψ) (hi : KE X T W i χ) (hs : swapsWithSole [.Subscript o i pos'] a pos.line X.env = pure false) (hw : swappedStores [.Subscript o i pos'] a X.env = pure none)
    (h1 : (assignEach [.Subscript o i pos'] X.env).map (·.2) = [assign (.Subscript o i pos') X.env])
    (h2 : ∀ v, assign (.Subscript o i pos') X.env v = (do
      let ov ← holding [v] (eval o X.env)
      let iv ← holding [v, ov] (eval i X.env)
      standAt pos'
      holding [v, ov, iv] (setItem ov iv v)
      release [v, ov, iv] [])) : KS X T W (.Assign [.Subscript o i pos'] a pos) (sSub ψ χ φ) := ⟨fun rs =>
  PS.imp (ps_asg (ha rs) (pg_sub (ho rs) (hi rs) (set_d (T := T) (rs := rs) hu) h2) hs hw h1) fun D σ H h => by
    obtain ⟨ι, F, s, M, r, rS, p⟩ := h
    refine ⟨ι, F, s, M, r, rS, p.step rS fun v H1 ι1 F1 M1 d _ l1 r1 rv p1 => ?_⟩
    refine ⟨ι1, F1, s, M1, r1, rS.le l1, SPost.step p1 (rS.le l1) fun ov H2 ι2 F2 M2 x _ l2 r2 ro p2 => ?_⟩
    refine ⟨ι2, F2, s, M2, r2, (rS.le l1).le l2, SPost.step p2 ((rS.le l1).le l2) fun iv H3 ι3 F3 M3 y _ l3 r3 ri p3 => ?_⟩
    split at p3
    · rename_i M4 e
      exact ⟨ι3, F3, M3, x, y, d, M4, r3, l3 _ _ ro, ri, l3 _ _ (l2 _ _ rv), e, fun H' r' => p3 ι3 F3 H' σ Le.refl r' (((rS.le l1).le l2).le l3)⟩
    · exact p3.elim⟩
theorem s_del (ho : KE X T W o ψ) (hi : KE X T W i χ) : KS X T W (.Delete [.Subscript o i tpos] pos) (sDel ψ χ) := ⟨fun rs => PS.imp (ps_ddel (ho rs) (hi rs)) fun D σ H h => by
  obtain ⟨ι, F, s, M, r, rS, p⟩ := h
  refine ⟨ι, F, s, M, r, rS, p.step rS fun ov H2 ι2 F2 M2 x _ l2 r2 ro p2 => ?_⟩
  refine ⟨ι2, F2, s, M2, r2, rS.le l2, SPost.step p2 (rS.le l2) fun iv H3 ι3 F3 M3 y _ l3 r3 ri p3 => ?_⟩
  split at p3
  · rename_i M4 e
    have ro := l3 _ _ ro
    cases x with
    | ref j =>
      obtain ⟨a, rfl, hj⟩ := ro
      simp only [delD] at e
      split at e
      · rename_i kvs hM
        obtain ⟨f0, vs, h2, h3, h4⟩ := r3.obj j _ a hM hj rfl
        split at e
        · rename_i k hk
          split at e
          · rename_i hg
            cases e
            have ey := keyOf_rep hk ri
            subst ey
            have q := valV_rep (k := k) h3 h4
            cases hg' : getK kvs k with
            | none => rw [hg'] at hg; cases hg
            | some d =>
              rw [hg'] at q
              obtain ⟨u, q1, q2⟩ := q
              obtain ⟨a2, a3⟩ := dropK_rep (k := k) h3 h4
              exact ⟨a, vs, k, rfl, h2, rfl, by rw [q1] <;> rfl, p3 ι3 F3 _ σ Le.refl (r3.write hM hj rfl ⟨_, upd_same, a2, a3⟩) ((rS.le l2).le l3)⟩
          · cases e
        · cases e
      · cases e
    | _ => cases e
  · exact p3.elim⟩
theorem d_dic0 {mu : Bool} : KE X T W (.Dict [] [] pos) (eDic0 mu) := fun rs => PE.imp pe_dnewK fun σ H Q h p hp => by
  obtain ⟨ι, F, s, M, r, rS, q⟩ := h
  cases mu with
  | true => exact q (ι ++ [p]) F _ _ Le.push (r.fresh hp rfl (u := .dic []) ⟨[], upd_same, rfl, rfl⟩) ⟨p, rfl, by rw [← r.len]; simp⟩
  | false => exact q ι (upd F p (.dK [])) _ _ (Le.new (r.free hp)) (r.frozen hp) ⟨p, [], rfl, .inl upd_same, rfl, rfl⟩
theorem s_fld {tf : List (Nat × Nat)} {m : Str} (hf : ∀ c j, tf.lookup c = some j → ∃ C ly, T.ct[c]? = some (C, ly) ∧ Cls X.K C ∧ NoAttr X.K C m ∧ ly[j]? = some m ∧ ly.length < 1000 ∧ ly.Nodup)
    (ha : KE X T W a φ) (ho : KE X T W o ψ) (hs : swapsWith a (some (.Attribute o m pos')) pos.line X.env = pure false) : KS X T W (.Assign [.Attribute o m pos'] a pos) (sFldD tf ψ φ) := ⟨fun rs => PS.imp (ps_fld (ho rs) (ha rs) hs) fun D σ H h => by
  obtain ⟨ι, F, s, M, r, rS, p⟩ := h
  refine ⟨ι, F, s, M, r, rS, p.step rS fun v H1 ι1 F1 M1 d _ l1 r1 rv p1 => ?_⟩
  refine ⟨ι1, F1, s, M1, r1, rS.le l1, SPost.step p1 (rS.le l1) fun ov H2 ι2 F2 M2 x _ l2 r2 ro p2 => ?_⟩
  cases x with
  | ref i =>
    simp only at p2
    split at p2
    · rename_i c fs hM
      split at p2
      · rename_i j hj
        obtain ⟨a, rfl, hi⟩ := ro
        obtain ⟨C, ly, hc, cl, na, hl, hz, hn⟩ := hf c j hj
        obtain ⟨f0, C', ly', dx, vs, hc', hH, hnd, hsub, hlen, hg⟩ := r2.obj i _ a hM hi rfl
        have e2 : (C, ly) = (C', ly') := Option.some.inj (hc.symm.trans hc')
        cases e2
        have hvl : vs.length ≤ ly.length := by
          have := nodup_len hnd hsub
          rwa [List.length_map] at this
        refine ⟨a, C, dx, vs, rfl, hH, cl, na, by omega, p2 ι2 F2 _ σ Le.refl (r2.write hM hi rfl ?_) ((rS.le l1).le l2)⟩
        have hm : m ∈ ly := List.mem_of_getElem? hl
        refine ⟨C, ly, dx, putF m v vs, hc, upd_same, ?_, ?_, by rw [List.length_set]; exact hlen, fun j' f e1 d' e2 => ?_⟩
        · rw [keys_putF']
          split
          · exact hnd
          · rename_i hnm
            rw [List.nodup_append]
            refine ⟨hnd, List.nodup_cons.mpr ⟨by simp, List.nodup_nil⟩, fun x hx y hy e => ?_⟩
            rw [List.mem_singleton.mp hy] at e
            exact hnm (by rw [← e]; exact hx)
        · intro f hf'
          rw [keys_putF'] at hf'
          split at hf'
          · exact hsub f hf'
          · rcases List.mem_append.mp hf' with h | h
            · exact hsub f h
            · rw [List.mem_singleton.mp h]; exact hm
        · rw [lookup_putF]
          by_cases hjj : j = j'
          · subst hjj
            rw [hl] at e1
            cases e1
            have hlt : j < fs.length := by rw [hlen]; exact (List.getElem?_eq_some_iff.mp hl).1
            rw [List.getElem?_set_self hlt] at e2
            cases e2
            exact ⟨v, if_pos rfl, l2 _ _ rv⟩
          · rw [List.getElem?_set_ne hjj] at e2
            have hff : f ≠ m := fun e => by
              subst e
              exact hjj (nodup_inj hn hl e1)
            rw [if_neg hff]
            exact hg j' f e1 d' e2
      · exact p2.elim
    · exact p2.elim
  | _ => exact p2.elim⟩
end

/-! ### defs -/
def startD (n : Nat) (ds : List D) : DS := ds.map some ++ List.replicate (n - ds.length) none
def defD (n np : Nat) (ψ : SSem) : FnD := fun ds M => if ds.length = np then (match ψ (startD n ds) M with
  | .nx _ M' => .ok .non M'
  | .rt d M' => .ok d M'
  | .er x _ M' => .er x M'
  | _ => .bad) else .bad
def spX (K : KX) (φ : FnD) : Sp := fun vs H Q E => ∃ rs, spD K rs φ vs H Q E
section
variable {P : Program} {w : World} {K : PySem.W.Frag} {mg : Str → Option Value} {base : Heap} {T : Tab}
theorem start_rep {KK : KX} {ι : List Addr} {F : Hp} {N : List Str} : ∀ {ds : List D} {vs : List V}, RepL KK ι F ds vs → RepS KK ι F (startD N.length ds) (L2.start N vs) := fun {ds vs} h => by
  have hl := RepL.length h
  refine ⟨by unfold L2.start startD; rw [List.length_append, List.length_append, List.length_map, List.length_map, List.length_replicate, List.length_replicate, hl], fun i d e => ?_⟩
  unfold startD at e
  unfold L2.start
  by_cases hi : i < ds.length
  · rw [List.getElem?_append_left (by rw [List.length_map]; exact hi), List.getElem?_map] at e
    obtain ⟨d', e1, e2⟩ := Option.map_eq_some_iff.mp e
    cases e2
    obtain ⟨v, h1, h2⟩ := RepL.get h e1
    exact ⟨v, by rw [List.getElem?_append_left (by rw [List.length_map, hl]; exact hi), List.getElem?_map, h1] <;> rfl, h2⟩
  · rw [List.getElem?_append_right (by rw [List.length_map]; omega), List.getElem?_replicate] at e
    split at e <;> cases e
/-- what a def promises at a call, at room k -/
structure FnX (P : Program) (w : World) (K : PySem.W.Frag) (mg : Str → Option Value) (base : Heap) (T : Tab) (k : Nat) (f : Addr) (fd : FuncData) (ps : List Str) (φ : FnD) : Prop where
  run : ∀ (rs : List (Addr × HO)) (A : Around) (outer : List Env) (s : Shared) (H : Hp) (args : Args) (us : List Value) (vs : List V) (Q : VK) (E : XK), Room k A → Env0 P w K mg base A outer s H → BindsTo s fd args (ps.zip us) → Vals vs us →
    spD ⟨K, T⟩ rs φ vs H Q E → codeAny (model P w) A (.call (.ref f) args) (CR (L2.CX P w) outer P w H s Q E) s
/-- one call of a def, by its body at this very state -/
theorem fn_at {x qual : Str} {st : Stmt} {f : Addr} {fd : FuncData} {N ps : List Str} {k : Nat} {A : Around} {outer : List Env} {s : Shared} {H : Hp} {args : Args} {us : List Value} {vs : List V} {Q : VK} {E : XK} (F : L2.Fun K x qual st f fd) (S : FnScope N ps (defScope st))
    (hr : Room (k + 1) A) (e0 : Env0 P w K mg base A outer s H) (hb : BindsTo s fd args (ps.zip us)) (r : Vals vs us) (hl : vs.length = ps.length)
    (ht : ∀ cdv, Room k (A.deeper (envOfC qual (defScope st) s.heap.objs.size f cdv)) → ∃ t, PSs (cxOf (L2.CX P w) P w K mg base N qual (defScope st) f cdv A outer s H E) (defBody st) t ∧ t { nx := fun _ H' => Q .non H', rt := Q } (L2.start N vs) H) :
    codeAny (model P w) A (.call (.ref f) args) (CR (L2.CX P w) outer P w H s Q E) s := by
  obtain ⟨oc, od, kV, doc, pm, an, cdv, ct, osl, rfl, lk, hcd⟩ := F.ex
  have KX : K.In s.heap := e0.mod.kin.keeps fun b o e => (e0.bs b o e).1
  have lim : s.heap.NoLimit := e0.mod.nolimit.keeps fun b o e => (e0.bs b o e).1
  refine Att.call_fn KX lim lk hcd hr.l2.depth hb (List.all_eq_true.mpr fun y hy => ?_) (fun s1 x => ?_) S.co S.gen S.kind
  · rcases S.par y.1 (List.of_mem_zip hy).1 with q | q <;> rw [q] <;> rfl
  · obtain ⟨t, h1, h2⟩ := ht cdv (hr.deeper _)
    have I : Inv (cxOf (L2.CX P w) P w K mg base N qual (defScope st) f cdv A outer s H E) [] (L2.start N vs) H s1 := inv_start S hr.hd e0 hl r x
    refine wpAny_mono (h1.run [] s1 (L2.start N vs) H _ I h2) (fun fl s' hs => ?_) fun e s' hs => hs
    have fin : ∀ {σ' : L2.St} {H' : Hp} {v : V} {u : Value}, Inv (cxOf (L2.CX P w) P w K mg base N qual (defScope st) f cdv A outer s H E) [] σ' H' s' → RelV v u → Q v H' → CE outer P w H s Q u s' :=
      fun {σ' H' v u} J rv q => ⟨v, H', J.os, J.bare, J.base, J.hok, rv, q⟩
    cases fl with
    | ret u =>
      obtain ⟨v, σ', H', J, rv, q⟩ := hs
      exact fin J rv q
    | next =>
      obtain ⟨σ', H', J, q⟩ := hs
      exact fin (v := V.non) (u := Value.none) J rfl q
    | brk => exact (hs.choose_spec.choose_spec.2 : False).elim
    | cont => exact (hs.choose_spec.choose_spec.2 : False).elim
theorem kfn {x qual : Str} {st : Stmt} {f : Addr} {fd : FuncData} {N ps : List Str} {k : Nat} {ψ : SSem} (F : L2.Fun K x qual st f fd) (S : FnScope N ps (defScope st))
    (hbody : ∀ (cdv : Value) (A : Around) (outer : List Env) (s : Shared) (H : Hp) (E : XK), Room k (A.deeper (envOfC qual (defScope st) s.heap.objs.size f cdv)) →
      KB (cxOf (L2.CX P w) P w K mg base N qual (defScope st) f cdv A outer s H E) T (fun c d _ H => E c d H) (defBody st) ψ) :
    FnX P w K mg base T (k + 1) f fd ps (defD N.length ps.length ψ) := by
  refine ⟨fun rs A outer s H args us vs Q E hr e0 hb hv h => ?_⟩
  obtain ⟨ι, F', ds, M, r, rd, p⟩ := h
  unfold defD at p
  split at p
  · rename_i hl
    refine fn_at F S hr e0 hb hv (by rw [RepL.length rd, hl]) fun cdv hr' => ⟨_, (hbody cdv A outer s H E hr').ps rs, ι, F', startD N.length ds, M, r, start_rep rd, ?_⟩
    cases e : ψ (startD N.length ds) M with
    | nx s' M' => rw [e] at p; exact fun ι' F' H' σ' l r' _ => p ι' F' H' .non l r' rfl
    | rt d M' => rw [e] at p; exact p
    | er x s' M' => rw [e] at p; exact fun ι' F' H' σ' c dx l r' _ rx => p ι' F' H' c dx l r' rx
    | bk s' M' => rw [e] at p; exact p.elim
    | ct s' M' => rw [e] at p; exact p.elim
    | bad => rw [e] at p; exact p.elim
  · exact p.elim
theorem callee_of {f : Addr} {fd : FuncData} {ps ks : List Str} {k n : Nat} {φ : FnD} (F : FnX P w K mg base T k f fd ps φ)
    (hb : ∀ (s : Shared) (us ws : List Value), us.length = n → ws.length = ks.length → BindsTo s fd ⟨us, ks.zip ws⟩ (ps.zip (us ++ ws))) : Callee P w K mg base T k f n ks φ := ⟨fun rs A outer s H us ws vs zs Q E hr e0 h1 h2 r1 r2 h =>
  F.run rs A outer s H _ (us ++ ws) (vs ++ zs) Q E hr e0 (hb s us ws h1 h2) (r1.append r2) h⟩
theorem takes_k {N : List Str} {qual : Str} {scope : Scope} {f : Addr} {cd : Value} {A : Around} {outer : List Env} {s : Shared} {H : Hp} {E : XK} : Takes (cxOf (L2.CX P w) P w K mg base N qual scope f cd A outer s H E) (fun c d _ H => E c d H) :=
  takes_of rfl rfl rfl rfl
theorem passes_k {N : List Str} {qual : Str} {scope : Scope} {f : Addr} {cd : Value} {A : Around} {outer : List Env} {s : Shared} {H : Hp} {E : XK} : PassesOwn (model P w) (cxOf (L2.CX P w) P w K mg base N qual scope f cd A outer s H E).A (cxOf (L2.CX P w) P w K mg base N qual scope f cd A outer s H E).env (cxOf (L2.CX P w) P w K mg base N qual scope f cd A outer s H E).xe :=
  PassesOwn.leaving
def intsD (ns : List Int) : D := .lst (ns.map D.int)
def LawD (n : Nat) (φ : FnD) : Prop := ∀ ns : List Int, ns.length ≤ n → ∃ M, φ [intsD ns] [] = .ok (.bl true) M
theorem intsD_rep {KK : KX} {ι : List Addr} {F : Hp} : ∀ (ns : List Int), RepL KK ι F (ns.map D.int) (ns.map V.int)
  | [] => rfl
  | n :: ns => ⟨_, _, rfl, rfl, intsD_rep ns⟩
end
end LD
namespace LD
open PySem PySem.Spec PyProof.Rows L2

/-- x in y, also by an own __contains__ -/
def inO (tbl : List (Nat × FnD)) (neg : Bool) : O2 := fun x y M => match y with
  | .ref i => match M[i]? with
    | some (.ins c _) => match tbl.lookup c with
      | some φ => match φ [.ref i, x] M with
        | .ok (.bl k) M' => some (.bl (k != neg), M')
        | _ => none
      | none => none
    | _ => (inD M x y).map fun k => (.bl (k != neg), M)
  | _ => (inD M x y).map fun k => (.bl (k != neg), M)
section
variable {X : Cx} {T : Tab} {W : WX} {rs : List (Addr × HO)}
theorem own_in {tbl : List (Nat × FnD)} {neg : Bool} (ht : ∀ c φ, tbl.lookup c = some φ → ∃ C ly g k, T.ct[c]? = some (C, ly) ∧ PySem.W.findIn X.K (.ref C) "__contains__" = some (some (.ref g)) ∧ PySem.W.isFn X.K (.ref g) = true ∧
      Callee X.prog X.w X.K X.mg X.base T k g 2 [] φ ∧ Room k X.A)
    {pins : List (Addr × Obj)} {s : Shared} {σ : L2.St} {H : Hp} {x : V} {u : Value} {a : Addr} {Q : VK} {ι : List Addr} {F : Hp} {M M' : Mem} {i c : Nat} {fs : List (Option D)} {d : D} {φ : FnD} {k : Bool}
    (I : Inv X pins σ H s) (rx : RelV x u) (r : Rel (kx X T) ι F rs H M) (rd : Rep (kx X T) ι F d x) (hi : ι[i]? = some a) (hM : M[i]? = some (.ins c fs)) (hφ : tbl.lookup c = some φ) (e : φ [.ref i, d] M = .ok (.bl k) M')
    (q : ∀ ι' F' H' u, Le (kx X T) ι F ι' F' → Rel (kx X T) ι' F' rs H' M' → Rep (kx X T) ι' F' (.bl (k != neg)) u → Q u H') :
    wpAny (model X.prog X.w) X.A (compareOp (if neg then .NotIn else .In) u (.ref a)) (EP X pins σ Q) X.xe s := by
  obtain ⟨C, ly, g, kk, hc, hs, hf, ce, hr⟩ := ht c φ hφ
  obtain ⟨_, C', ly', dx, vs, hc', hH, _, _, _, _⟩ := r.obj i _ a hM hi rfl
  have e2 : (C, ly) = (C', ly') := Option.some.inj (hc.symm.trans hc')
  cases e2
  obtain ⟨mA, J, _⟩ := ins_get I.hok hH
  obtain ⟨od, J, _⟩ := J.look
  obtain ⟨m, hF⟩ := I.fr
  have go : ∀ {Q' : Value → Shared → Prop}, (∀ k' s', (∃ H', Inv X pins σ H' s' ∧ ∃ ι' F', Le (kx X T) ι F ι' F' ∧ Rel (kx X T) ι' F' rs H' M') → k' = k → Q' (.bool k') s') → wpAny (model X.prog X.w) X.A (call (.ref g) [.ref a, u]) Q' X.xe s := by
    intro Q' hq'
    refine wpAny_call (codeAny_mono (ce.run rs X.A X.stack s H [.ref a, u] [] [.ref a, x] [] (fun v H' => v = .bl k ∧ ∃ ι' F', Le (kx X T) ι F ι' F' ∧ Rel (kx X T) ι' F' rs H' M') (fun _ _ _ => False) hr I.env0 rfl rfl (.cons rfl (.cons rx .nil)) .nil
      ⟨ι, F, [.ref i, d], M, r, ⟨_, _, rfl, ⟨a, rfl, hi⟩, .one rd⟩, by rw [e]; exact fun ι' F' H' v l r' rv => ⟨rv, ι', F', l, r'⟩⟩) fun r s' hq => ?_)
    cases r with
    | error er =>
      obtain ⟨a, B, H', cls, d, _, _, _, _, _, _, _, z⟩ := hq
      exact z.elim
    | ok fl =>
      cases fl with
      | ret w =>
        obtain ⟨z, H', I', rz, ez, ι', F', l, r'⟩ := I.after hq
        subst ez
        cases rz
        exact hq' _ _ ⟨H', I', ι', F', l, r'⟩ rfl
      | next => exact False.elim hq
      | brk => exact False.elim hq
      | cont => exact False.elim hq
  cases neg with
  | false =>
    refine PySem.W.in_K hF I.ok.mod.kin J hs hf (go fun k' s' ⟨H', I', ι', F', l, r'⟩ ek => wpAny_truthy_bool ⟨.bl k', H', I', rfl, ?_⟩)
    subst ek
    exact q ι' F' H' _ l r' (by cases k' <;> rfl)
  | true =>
    refine PySem.W.notIn_K hF I.ok.mod.kin J hs hf (go fun k' s' ⟨H', I', ι', F', l, r'⟩ ek => wpAny_truthy_bool ⟨.bl (!k'), H', I', rfl, ?_⟩)
    subst ek
    exact q ι' F' H' _ l r' (by cases k' <;> rfl)
theorem inO_split {tbl : List (Nat × FnD)} {neg : Bool} {x y : V} {H : Hp} {Q : VK} (h : RO2 (kx X T) rs (inO tbl neg) x y H Q) : RO2 (kx X T) rs (boD (if neg then notB inD else inD)) x y H Q ∨
    ∃ a ι F M M' i c fs d φ k, y = .ref a ∧ Rel (kx X T) ι F rs H M ∧ Rep (kx X T) ι F d x ∧ ι[i]? = some a ∧ M[i]? = some (.ins c fs) ∧ tbl.lookup c = some φ ∧ φ [.ref i, d] M = .ok (.bl k) M' ∧
      ∀ ι' F' H' u, Le (kx X T) ι F ι' F' → Rel (kx X T) ι' F' rs H' M' → Rep (kx X T) ι' F' (.bl (k != neg)) u → Q u H' := by
  obtain ⟨ι, F, M, d, e, z, M', r, r1, r2, g, q⟩ := h
  have plain : (inD M d e).map (fun k => (D.bl (k != neg), M)) = some (z, M') → RO2 (kx X T) rs (boD (if neg then notB inD else inD)) x y H Q := fun g => by
    refine ⟨ι, F, M, d, e, z, M', r, r1, r2, ?_, q⟩
    obtain ⟨k, h1, h2⟩ := Option.map_eq_some_iff.mp g
    unfold boD
    cases neg with
    | false => rw [if_neg Bool.false_ne_true, h1, ← h2]; cases k <;> rfl
    | true => rw [if_pos rfl]; unfold notB; rw [h1, ← h2]; cases k <;> rfl
  cases e with
  | ref i =>
    simp only [inO] at g
    split at g
    · rename_i c fs hM
      split at g
      · rename_i φ hφ
        split at g
        · rename_i k M2 he
          cases g
          obtain ⟨a, rfl, hi⟩ := r2
          exact .inr ⟨a, ι, F, M, _, i, c, fs, d, φ, k, rfl, r, r1, hi, hM, hφ, he, q⟩
        · cases g
      · cases g
    · exact .inl (plain g)
  | _ => exact .inl (plain g)
theorem o_inO {tbl : List (Nat × FnD)} (hu : X.A.units + 65 < cLine) (ht : ∀ c φ, tbl.lookup c = some φ → ∃ C ly g k, T.ct[c]? = some (C, ly) ∧ PySem.W.findIn X.K (.ref C) "__contains__" = some (some (.ref g)) ∧ PySem.W.isFn X.K (.ref g) = true ∧
      Callee X.prog X.w X.K X.mg X.base T k g 2 [] φ ∧ Room k X.A) : OpR X (compareOp .In) (RO2 (kx X T) rs (inO tbl false)) := by
  intro pins s σ H x y v u Q I rx ry h
  rcases inO_split h with h | ⟨a, ι, F, M, M', i, c, fs, d, φ, k, rfl, r, rd, hi, hM, hφ, e, q⟩
  · exact o_in hu pins s σ H x y v u Q I rx ry h
  · cases ry
    exact own_in (neg := false) ht I rx r rd hi hM hφ e q
theorem o_notinO {tbl : List (Nat × FnD)} (hu : X.A.units + 65 < cLine) (ht : ∀ c φ, tbl.lookup c = some φ → ∃ C ly g k, T.ct[c]? = some (C, ly) ∧ PySem.W.findIn X.K (.ref C) "__contains__" = some (some (.ref g)) ∧ PySem.W.isFn X.K (.ref g) = true ∧
      Callee X.prog X.w X.K X.mg X.base T k g 2 [] φ ∧ Room k X.A) : OpR X (compareOp .NotIn) (RO2 (kx X T) rs (inO tbl true)) := by
  intro pins s σ H x y v u Q I rx ry h
  rcases inO_split h with h | ⟨a, ι, F, M, M', i, c, fs, d, φ, k, rfl, r, rd, hi, hM, hφ, e, q⟩
  · exact o_notin hu pins s σ H x y v u Q I rx ry h
  · cases ry
    exact own_in (neg := true) ht I rx r rd hi hM hφ e q
end
end LD
namespace LD
open PySem PySem.Spec PyProof.Rows L2

/-! ### short words for derivations -/
theorem u1 {A : Around} {k : Nat} (hr : Room k A) : A.units + 1 < cLine := by have := hr.un; omega
theorem u64 {A : Around} {k : Nat} (hr : Room k A) : A.units + 64 < cLine := hr.units
theorem u65 {A : Around} {k : Nat} (hr : Room k A) : A.units + 65 < cLine := by have := hr.un; omega
theorem u0 {A : Around} {k : Nat} (hr : Room k A) : A.units < cLine := by have := hr.un; omega
theorem tblN {β : Type} {P : Nat → β → Prop} : ∀ c φ, ([] : List (Nat × β)).lookup c = some φ → P c φ := fun c φ h => by cases h
theorem tblC {β : Type} {P : Nat → β → Prop} {c0 : Nat} {φ0 : β} {l : List (Nat × β)} (h : P c0 φ0) (r : ∀ c φ, l.lookup c = some φ → P c φ) : ∀ c φ, ((c0, φ0) :: l).lookup c = some φ → P c φ := fun c φ e => by
  rw [List.lookup_cons] at e
  split at e
  · rename_i hc
    cases beq_iff_eq.mp hc
    cases e
    exact h
  · exact r c φ e
/-- a method that may be called -/
def MetD (P : Program) (w : World) (K : PySem.W.Frag) (mg : Str → Option Value) (base : Heap) (T : Tab) (k c : Nat) (m : Str) (n : Nat) (ks : List Str) (φ : FnD) : Prop :=
  ∃ C ly g, T.ct[c]? = some (C, ly) ∧ m ∉ ly ∧ Cls K C ∧ Meth K C m g ∧ Callee P w K mg base T k g (n + 1) ks φ
/-- a field -/
def FldD (K : PySem.W.Frag) (T : Tab) (c : Nat) (m : Str) (j : Nat) : Prop := ∃ C ly, T.ct[c]? = some (C, ly) ∧ Cls K C ∧ NoAttr K C m ∧ ly[j]? = some m ∧ ly.length < 1000 ∧ ly.Nodup
/-- a property -/
def PrpD (P : Program) (w : World) (K : PySem.W.Frag) (mg : Str → Option Value) (base : Heap) (T : Tab) (k c : Nat) (m : Str) (φ : FnD) : Prop :=
  ∃ C ly pp g, T.ct[c]? = some (C, ly) ∧ Cls K C ∧ PropOf K C m pp g ∧ Callee P w K mg base T k g 1 [] φ
/-- an own __contains__ -/
def ConD (P : Program) (w : World) (K : PySem.W.Frag) (mg : Str → Option Value) (base : Heap) (T : Tab) (k c : Nat) (φ : FnD) : Prop :=
  ∃ C ly g, T.ct[c]? = some (C, ly) ∧ PySem.W.findIn K (.ref C) "__contains__" = some (some (.ref g)) ∧ PySem.W.isFn K (.ref g) = true ∧ Callee P w K mg base T k g 2 [] φ
section
variable {X : Cx} {T : Tab} {W : WX} {a b e o : Expr} {es : List Expr} {kws : List Keyword} {φ ψ χ : Sem1 D} {α κ : Sem1 (List D)} {pos p pos' apos p2 tpos : Pos} {x m : Str} {k k' : Nat}
theorem Vr (i : Nat) (hN : X.N[i]? = some x := by rfl) (hv : Vis X.env.scope x := by first | exact Or.inl rfl | exact Or.inr (Or.inl rfl) | exact Or.inr (Or.inr rfl)) (hd : (x == ("__debug__" : Str)) = false := by decide) (hcd : (x == ("__classdict__" : Str)) = false := by decide) :
    KE X T W (.Name x pos) (eVar i) := d_var hN hv hd hcd
theorem A1 (ha : KE X T W a φ) (hr : KA X T W es α) (hs : isStar a = false := by rfl) : KA X T W (a :: es) (aCons φ α) := a_cons ha hr (star_cons hs)
theorem Cq {op : CmpOp} {g : O2} (ho : ∀ rs, OpR X (compareOp op) (RO2 (kx X T) rs g)) (ha : KE X T W a φ) (hb : KE X T W b ψ) (hm : behindInMarks op b = false := by first | exact nobehind _ (by decide) (by decide) | rfl) : KE X T W (.Compare a [op] [b] pos) (eBin g φ ψ) := d_cmp ho ha hb hm
theorem Tq {op : CmpOp} {g : O2} (ho : ∀ rs, OpR X (compareOp op) (RO2 (kx X T) rs g)) (ha : KE X T W a φ) (hb : KE X T W b ψ) (hm : behindInMarks op b = false := by first | exact nobehind _ (by decide) (by decide) | rfl) : KT X T W (.Compare a [op] [b] pos) (tCmp g φ ψ) := t_cmp ho ha hb hm
theorem Tv (ha : KE X T W a φ) (he : ∀ whole, isTrue a X.env whole = (do let v ← whole; standAt a.pos; holding [v] (truthy v)) := by intro _; rfl) : KT X T W a (tOf φ) := t_val ha he
theorem Tw {τ : Sem1 Bool} (h : KWt X T W a τ) : KT X T W a τ := fun rs => (h rs).pt
theorem Ix (hu : X.A.units + 1 < cLine) (ha : KE X T W a φ) (hb : KE X T W b ψ) (hs : PlainIx b := by intro _ _; rfl) : KE X T W (.Subscript a b pos) (eBin ixD φ ψ) := d_sub hu ha hb hs
theorem Call {f : Addr} {φf : FnD} (c : Callee X.prog X.w X.K X.mg X.base T k' f es.length (kws.filterMap kwN) φf) (hr : Room k X.A) (tk : Takes X W) (hm : X.mg x = some (.ref f)) (hk : PySem.W.keepIn X.K (.ref f) = true) (ha : KA X T W es α) (hkw : KK X T W kws κ)
    (hl : k' ≤ k := by first | decide | omega) (hg : Gl X x := by rfl) (hdb : (x == ("__debug__" : Str)) = false := by decide) (hα : es = [] → α = aNil := by first | exact (fun _ => rfl) | exact (fun h => nomatch h)) (h2 : es.any isStar = false := by rfl) (h3 : kws.all (fun k => (kwN k).isSome) = true := by rfl) :
    KE X T W (.Call (.Name x p) es kws pos) (eCall φf α κ) := d_call c (hr.mono hl) tk hg hm hk hdb hα h2 h3 ha hkw
theorem Mke {f C : Addr} {φf : FnD} {c n : Nat} {ly : List Str} (hc : T.ct[c]? = some (C, ly)) (hn : n = ly.length) (M : Mk X.K C f) (cl : Callee X.prog X.w X.K X.mg X.base T k' f (es.length + 1) (kws.filterMap kwN) φf) (hr : Room k X.A) (tk : Takes X W) (hm : X.mg x = some (.ref C))
    (ha : KA X T W es α) (hkw : KK X T W kws κ) (hl : k' + 1 ≤ k := by first | decide | omega) (hg : Gl X x := by rfl) (hdb : (x == ("__debug__" : Str)) = false := by decide) (hα : es = [] → α = aNil := by first | exact (fun _ => rfl) | exact (fun h => nomatch h)) (h2 : es.any isStar = false := by rfl)
    (h3 : kws.all (fun k => (kwN k).isSome) = true := by rfl) : KE X T W (.Call (.Name x p) es kws pos) (eCall (mkF c n φf) α κ) := d_make hc hn M cl (hr.mono hl) tk hg hm hdb hα h2 h3 ha hkw
theorem Met {tbl : List (Nat × FnD)} (ht : ∀ c φ, tbl.lookup c = some φ → MetD X.prog X.w X.K X.mg X.base T k' c m es.length (kws.filterMap kwN) φ) (hr : Room k X.A) (tk : Takes X W) (ho : KE X T W o ψ) (ha : KA X T W es α) (hkw : KK X T W kws κ) (hl : k' ≤ k := by first | decide | omega) (h1 : isSup o = false := by rfl)
    (h4 : decide (es.length + kws.length < 29) = true := by rfl) (h5 : (apos.endLine == pos.line) = true := by rfl) (hα : es = [] → α = aNil := by first | exact (fun _ => rfl) | exact (fun h => nomatch h)) (h2 : es.any isStar = false := by rfl) (h3 : kws.all (fun k => (kwN k).isSome) = true := by rfl) :
    KE X T W (.Call (.Attribute o m apos) es kws pos) (eMeth tbl ψ α κ) := d_meth (fun c φ h => by
  obtain ⟨C, ly, g, a1, a2, a3, a4, a5⟩ := ht c φ h
  exact ⟨C, ly, g, k', a1, a2, a3, a4, a5, hr.mono hl⟩) tk ho h1 h4 h5 hα h2 h3 ha hkw
theorem Att {tp : List (Nat × FnD)} {tf : List (Nat × Nat)} (ht : ∀ c φ, tp.lookup c = some φ → PrpD X.prog X.w X.K X.mg X.base T k' c m φ) (hf : ∀ c j, tf.lookup c = some j → FldD X.K T c m j) (hr : Room k X.A) (ho : KE X T W o ψ) (hl : k' + 1 ≤ k := by first | decide | omega) (h1 : isSup o = false := by rfl) :
    KE X T W (.Attribute o m pos) (eAttr tp tf ψ) := d_attr (fun c φ h => by
  obtain ⟨C, ly, pp, g, a1, a2, a3, a4⟩ := ht c φ h
  exact ⟨C, ly, pp, g, k', a1, a2, a3, a4, hr.mono hl⟩) (fun c j _ h => by
  obtain ⟨C, ly, a1, a2, a3, a4, _⟩ := hf c j h
  exact ⟨C, ly, a1, a2, a3, a4⟩) ho h1
theorem Fld {tf : List (Nat × Nat)} (hf : ∀ c j, tf.lookup c = some j → FldD X.K T c m j) (ho : KE X T W o ψ) (h1 : isSup o = false := by rfl) : KE X T W (.Attribute o m pos) (eAttr [] tf ψ) := d_attr tblN (fun c j _ h => by
  obtain ⟨C, ly, a1, a2, a3, a4, _⟩ := hf c j h
  exact ⟨C, ly, a1, a2, a3, a4⟩) ho h1
theorem Con {C : Addr} {mc : Value} {v : V} {u : Value} {d : D} (hm : X.mg x = some (.ref C)) (cr : ClX.CRead X.K C mc) (cv : ClX.CVal X.K C mc m v u) (hr : ∀ ι F, Rep (kx X T) ι F d v) (hg : Gl X x := by rfl) (hdb : (x == ("__debug__" : Str)) = false := by decide) :
    KE X T W (.Attribute (.Name x p2) m pos) (eC d) := d_ccon hg hm hdb cr cv hr
theorem Blt {id : String} {g : OL} (hc : ∀ rs, CallR X (.builtin id) (RC (kx X T) rs g)) (hm : X.mg x = none) (ha : KA X T W (e :: es) α) (hv : bootBuiltins x = some (.builtin id) := by rfl) (hg : Gl X x := by rfl) (hn : x ≠ "__name__" := by decide) (hdb : (x == ("__debug__" : Str)) = false := by decide)
    (h2 : (e :: es).any isStar = false := by rfl) : KE X T W (.Call (.Name x p) (e :: es) [] pos) (eBlt g α) := by
  first
  | exact d_blt hc hg hm hv hn hdb ha h2
  | exact d_blt hc hg hm hv hn hdb h2 ha
theorem Bty {id : String} {g : OL} (hc : ∀ rs, CallR X (.type id) (RC (kx X T) rs g)) (hm : X.mg x = none) (ha : KA X T W (e :: es) α) (hv : bootBuiltins x = some (.type id) := by rfl) (hg : Gl X x := by rfl) (hn : x ≠ "__name__" := by decide) (hdb : (x == ("__debug__" : Str)) = false := by decide)
    (h2 : (e :: es).any isStar = false := by rfl) : KE X T W (.Call (.Name x p) (e :: es) [] pos) (eBlt g α) := by
  first
  | exact d_bty hc hg hm hv hn hdb ha h2
  | exact d_bty hc hg hm hv hn hdb h2 ha
end
end LD
namespace LD
open PySem PySem.Spec PyProof.Rows L2
/-- the def at f as the text has it -/
def FnAt (K : PySem.W.Frag) (x qual : Str) (st : Stmt) (f : Addr) : Prop := ∃ (oc : Value) (od : Option Addr) (kV doc pm : Value) (an : Option Addr) (cdv ct : Value) (osl : Array (Option Value)),
  K.lookup f = some ⟨oc, od, .func (PySem.W.fnOf x qual (defArgs st) (defBody st) (defScope st) .none kV doc pm an cdv ct), osl⟩ ∧ PySem.W.codeIn K cdv qual = true ∧ PySem.W.keepIn K (.ref f) = true
theorem fnAt_mk {K : PySem.W.Frag} {x qual : Str} {st : Stmt} {f : Addr} {oc : Value} {od : Option Addr} {kV doc pm : Value} {an : Option Addr} {cdv ct : Value} {osl : Array (Option Value)}
    (l : K.lookup f = some ⟨oc, od, .func (PySem.W.fnOf x qual (defArgs st) (defBody st) (defScope st) .none kV doc pm an cdv ct), osl⟩) (c : PySem.W.codeIn K cdv qual = true) (k : PySem.W.keepIn K (.ref f) = true) : FnAt K x qual st f := ⟨_, _, _, _, _, _, _, _, _, l, c, k⟩
theorem ownC {X : Cx} {T : Tab} {k k' : Nat} {tbl : List (Nat × FnD)} (ht : ∀ c φ, tbl.lookup c = some φ → ConD X.prog X.w X.K X.mg X.base T k' c φ) (hr : Room k X.A) (hl : k' ≤ k) :
    ∀ c φ, tbl.lookup c = some φ → ∃ C ly g k, T.ct[c]? = some (C, ly) ∧ PySem.W.findIn X.K (.ref C) "__contains__" = some (some (.ref g)) ∧ PySem.W.isFn X.K (.ref g) = true ∧ Callee X.prog X.w X.K X.mg X.base T k g 2 [] φ ∧ Room k X.A := fun c φ h => by
  obtain ⟨C, ly, g, a1, a2, a3, a4⟩ := ht c φ h
  exact ⟨C, ly, g, k', a1, a2, a3, a4, hr.mono hl⟩
theorem tup_const {K : PySem.W.Frag} {F : Hp} {a : Addr} {dd : Option Addr} {n : Nat} {sl : Array (Option Value)} {its : Array Value} {vs : List V} (l : K.lookup a = some ⟨.type "tuple", dd, .seq its n, sl⟩) (z : its.size ≤ sizeLine) (h : Vals vs its.toList) : SqT K F a vs :=
  .inr ⟨_, its, n, l, rfl, rfl, z, h⟩
end LD
namespace LD
open PySem PySem.Spec PyProof.Rows L2
/-- the law's def is called on the script behind the top: nothing but the script is known, and it stays -/
theorem law_at {P : Program} {w : World} {K : PySem.W.Frag} {mg mb : Str → Option Value} {T : Tab} {k : Nat} {fa a : Addr} {fd : FuncData} {x : Str} {φ : FnD} {s₁ : Shared} {vs : List Value} {ns : List Int}
    (KX : K.In s₁.heap) (hns : s₁.heap.Ns mainGlobals mg) (hb : s₁.heap.Ns builtinsNs mb) (hbb : ∀ x : Str, x ≠ "__name__" → mb x = bootBuiltins x) (hlim : s₁.heap.NoLimit) (hg : s₁.gens = #[])
    (ha : s₁.heap.get? a = some { cls := .type "list", data := .seq vs.toArray }) (hi : IntsAre vs ns) (hl : ns.length ≤ 63) (hr : Room k callerA)
    (F : ∀ base : Heap, K.In base → base.Ns mainGlobals mg → FnX P w K mg base T k fa fd [x] φ) (hbind : ∀ (s : Shared) (u : Value), BindsTo s fd ⟨[u], []⟩ [(x, u)]) (L : LawD 63 φ) :
    codeAny (model P w) callerA (.call (.ref fa) ⟨[.ref a], []⟩) (fun r s' => r = .ok (.ret (.bool true)) ∧ OldK s₁.heap s'.heap ∧ s'.os = s₁.os ∧ AllBare s'.gens) s₁ := by
  have rv := vals_ints hi
  have lenV := hi.length
  have h63 : (63 : Nat) ≤ sizeLine := by rw [sizeLine_eq]; decide
  obtain ⟨M, hM⟩ := L ns hl
  have go : ∀ H : Hp, SqL K H a (ns.map V.int) → HOk P w H s₁.heap → (∀ b u, H b = some u → b = a ∧ K.lookup a = none ∧ u = .frz { cls := .type "list", data := .seq vs.toArray } (.lst (ns.map V.int))) →
      codeAny (model P w) callerA (.call (.ref fa) ⟨[.ref a], []⟩) (fun r s' => r = .ok (.ret (.bool true)) ∧ OldK s₁.heap s'.heap ∧ s'.os = s₁.os ∧ AllBare s'.gens) s₁ := by
    intro H hS hok hA
    have noD : ∀ {b : Addr} {o : Obj} {es : Array DictEntry} {ep : Nat}, s₁.heap.get? b = some o → o.data = .dict es ep → H b = none := fun {b o es ep} e d => by
      cases q : H b with
      | none => rfl
      | some u =>
        obtain ⟨e1, _, _⟩ := hA b u q
        rw [e1, ha] at e
        cases e
        cases d
    have hid : ∀ {b : Addr} {m : Str → Option Value}, s₁.heap.Ns b m → (hidT s₁.heap H).Ns b m := fun {b m} ⟨o, es, ep, e, d, r⟩ => ⟨o, es, ep, hidT_get e (noD e d), d, r⟩
    have hKb : K.In (hidT s₁.heap H) := fun b o e => hidT_get (KX b o e) (by
      cases q : H b with
      | none => rfl
      | some u =>
        obtain ⟨e1, e2, _⟩ := hA b u q
        rw [e1, e2] at e
        cases e)
    obtain ⟨mc, l1, l2⟩ := hlim
    have e0 : Env0 P w K mg (hidT s₁.heap H) callerA [] s₁ H := ⟨rfl, ⟨hKb, hid hns, ⟨mb, hid hb, hbb⟩, ⟨mc, hid l1, l2⟩⟩, fun b o e => of_hidT e, Nat.le_of_eq (hidT_size _ _), trivial, fun b hb => (nomatch hb), hok, .of_eq hg⟩
    refine codeAny_mono ((F _ hKb (hid hns)).run [] callerA [] s₁ H ⟨[.ref a], []⟩ [.ref a] [.ref a] (fun v _ => v = .bl true) (fun _ _ _ => False) hr e0 (hbind s₁ (.ref a)) (.cons rfl .nil)
      ⟨[], H, [intsD ns], [], ⟨rfl, fun _ _ h => h, fun i o a e => by simp at e, fun i j a e => by simp at e, fun i a e => by simp at e, fun p hp => by simp at hp⟩, ⟨_, _, rfl, ⟨a, _, rfl, hS, intsD_rep ns⟩, rfl⟩, by
        rw [hM]
        intro ι' F' H' v _ _ rv
        exact rv⟩) fun r s' h => ?_
    cases r with
    | error e =>
      obtain ⟨_, _, _, _, _, _, _, _, _, _, _, _, z⟩ := h
      exact z.elim
    | ok fl =>
      cases fl with
      | next => exact False.elim h
      | brk => exact False.elim h
      | cont => exact False.elim h
      | ret u =>
        obtain ⟨v, H', os, bare, un, hok', r', q⟩ := h
        have q' : v = .bl true := q
        subst q'
        obtain rfl : u = Value.bool true := r'
        refine ⟨rfl, OldK.of_keep fun b o e => ?_, os, bare⟩
        cases q : H b with
        | none => exact un.keep b o e q (fun z => nomatch z) (fun z => nomatch z)
        | some u =>
          obtain ⟨e1, _, e3⟩ := hA b u q
          subst e3
          obtain ⟨f1, _⟩ := hok b _ q
          obtain ⟨f2, _⟩ := hok' b _ (un.frzs b _ _ q)
          exact f2.trans (f1.symm.trans e)
  cases hk : K.lookup a with
  | some o =>
    have e := KX a o hk
    rw [ha] at e
    cases e
    exact go (fun _ => none) (.inr ⟨_, vs.toArray, _, hk, rfl, rfl, rfl, by rw [List.size_toArray, lenV]; omega, by simpa using rv⟩) (fun b u z => nomatch z) fun b u z => nomatch z
  | none =>
    have at_ : ∀ b u, (if b = a then some (HO.frz { cls := .type "list", data := .seq vs.toArray } (.lst (ns.map V.int))) else none) = some u → b = a ∧ u = .frz { cls := .type "list", data := .seq vs.toArray } (.lst (ns.map V.int)) := fun b u z => by
      split at z
      · rename_i hb
        cases z
        exact ⟨hb, rfl⟩
      · cases z
    refine go (fun b => if b = a then some (.frz { cls := .type "list", data := .seq vs.toArray } (.lst (ns.map V.int))) else none) (.inl (.inr ⟨_, if_pos rfl⟩)) (fun b u z => ?_) fun b u z => ⟨(at_ b u z).1, hk, (at_ b u z).2⟩
    obtain ⟨e1, e2⟩ := at_ b u z
    subst e1 e2
    exact ⟨ha, by rw [List.length_map]; omega, vs, _, rv, ha⟩
theorem walk_d {l : PySem.W.OpenLaw} {k : Nat} {q : Program} {loose : List Str} {XP : (Str → Option Value) → Heap → Prop} {YP : World → Heap → Prop} {d : DefRec} {K : Params → PySem.W.Frag} {x : Str} {φ : FnD} (hn : l.most = some 63) (hdf : d.params.defaults = [])
    (hY : ∀ (w : World) (h : Heap), YP w h → (K w.params).In h) (hr : L2.Room k callerA) (L : LawD 63 φ)
    (F : ∀ (w : World) (mg : Str → Option Value) (fa : Addr) (h : Heap), (K w.params).In h → h.Ns mainGlobals mg → mg d.name = some (.ref fa) →
      ∃ (T : Tab) (fd : FuncData), (∀ (s : Shared) (u : Value), BindsTo s fd ⟨[u], []⟩ [(x, u)]) ∧ ∀ base : Heap, (K w.params).In base → base.Ns mainGlobals mg → FnX l.prog w (K w.params) mg base T k fa fd [x] φ) :
    PySem.W.WalkO q loose XP YP l.row.toRowW d [] (fun f vs => PySem.call f vs) := by
  refine Att.attach_call hn hdf fun w s₀ s₁ mg mb fa o pm cd doc a vs ns G Y ho hd hcd hmg hobj hints hlen hg => ?_
  have KX := hY w _ Y
  obtain ⟨T, fd, hb, hF⟩ := F w mg fa _ KX G.T.g hmg
  exact law_at KX G.T.g G.T.b G.T.builtins G.T.nolimit hg hobj hints hlen ⟨hr, rfl⟩ hF hb L
end LD
namespace LD
open PySem PySem.Spec PyProof.Rows L2

/-! ### evaluation, step by step: every row holds by computation -/
/-- what is not looked into before its turn -/
inductive Tg {α : Type} (a : α) : Type
  | mk
def pick {α : Type} (k : Bool) (a b : α) (_ : Tg a) (_ : Tg b) : α := if k then a else b
theorem pick_t {α : Type} {a b : α} {t : Tg a} {u : Tg b} : pick true a b t u = a := rfl
theorem pick_f {α : Type} {a b : α} {t : Tg a} {u : Tg b} : pick false a b t u = b := rfl
def bnd {α β : Type} (r : R α) (f : α → Mem → R β) (_ : Tg f) : R β := r.bind f
theorem bind_k {α β : Type} {a : α} {M : Mem} {f : α → Mem → R β} {t : Tg f} : bnd (R.ok a M) f t = f a M := rfl
theorem bind_b {α β : Type} {f : α → Mem → R β} {t : Tg f} : bnd (R.bad : R α) f t = .bad := rfl
theorem bind_e {α β : Type} {x : Exn} {M : Mem} {f : α → Mem → R β} {t : Tg f} : bnd (R.er x M : R α) f t = .er x M := rfl
def bndS {α : Type} (r : R α) (s : DS) (f : α → Mem → RS) (_ : Tg f) : RS := bindS r s f
theorem bindS_k {α : Type} {a : α} {M : Mem} {s : DS} {k : α → Mem → RS} {t : Tg k} : bndS (.ok a M) s k t = k a M := rfl
theorem bindS_e {α : Type} {x : Exn} {M : Mem} {s : DS} {k : α → Mem → RS} {t : Tg k} : bndS (.er x M : R α) s k t = .er x s M := rfl
theorem ofO_s {α : Type} {a : α} {M : Mem} : ofO (some (a, M)) = .ok a M := rfl
def getV (o : Option (Option D)) (M : Mem) : R D := match o with
  | some (some d) => .ok d M
  | _ => .bad
theorem getV_s {d : D} {M : Mem} : getV (some (some d)) M = .ok d M := rfl
def truK (o : Option Bool) (k : Bool → R α) (_ : Tg k) : R α := match o with
  | some b => k b
  | none => .bad
theorem truK_s {α : Type} {b : Bool} {k : Bool → R α} {t : Tg k} : truK (some b) k t = k b := rfl
def blK (z : D) (k : Bool → R α) (_ : Tg k) : R α := match z with
  | .bl b => k b
  | _ => .bad
theorem blK_b {α : Type} {b : Bool} {k : Bool → R α} {t : Tg k} : blK (.bl b) k t = k b := rfl
section
variable {s : DS} {M : Mem} {d x y : D} {i j : Nat} {a b c : Sem1 D} {τ υ : Sem1 Bool} {g g' : O2} {u : O1} {α κ : Sem1 (List D)} {φ : FnD} {ψ χ : SSem} {γ : GSem}
theorem q_C : eC d s M = .ok d M := rfl
theorem q_Var : eVar i s M = getV s[i]? M := rfl
theorem q_Bin : eBin g a b s M = bnd (a s M) (fun x M1 => bnd (b s M1) (fun y M2 => ofO (g x y M2)) .mk) .mk := rfl
theorem q_Un : eUn u a s M = bnd (a s M) (fun x M1 => ofO (u x M1)) .mk := rfl
theorem q_tOf : tOf a s M = bnd (a s M) (fun x M1 => truK (truD M1 x) (fun b => .ok b M1) .mk) .mk := by
  show (a s M).bind _ = (a s M).bind _
  congr 1
theorem q_tCmp : tCmp g a b s M = bnd (eBin g a b s M) (fun z M1 => blK z (fun k => .ok k M1) .mk) .mk := by
  show (eBin g a b s M).bind _ = (eBin g a b s M).bind _
  congr 1
theorem q_tAnd : tAnd τ υ s M = bnd (τ s M) (fun k M1 => pick k (υ s M1) (.ok false M1) .mk .mk) .mk := rfl
theorem q_tOr : tOr τ υ s M = bnd (τ s M) (fun k M1 => pick k (.ok true M1) (υ s M1) .mk .mk) .mk := rfl
theorem q_tNot : tNot τ s M = bnd (τ s M) (fun k M1 => .ok (!k) M1) .mk := rfl
theorem q_And : eAnd a b s M = bnd (a s M) (fun x M1 => truK (truD M1 x) (fun k => pick k (b s M1) (.ok x M1) .mk .mk) .mk) .mk := by
  show (a s M).bind _ = (a s M).bind _
  congr 1
theorem q_Or : eOr a b s M = bnd (a s M) (fun x M1 => truK (truD M1 x) (fun k => pick k (.ok x M1) (b s M1) .mk .mk) .mk) .mk := by
  show (a s M).bind _ = (a s M).bind _
  congr 1
theorem q_Not : eNot a s M = bnd (a s M) (fun x M1 => truK (truD M1 x) (fun k => .ok (.bl (!k)) M1) .mk) .mk := by
  show (a s M).bind _ = (a s M).bind _
  congr 1
theorem q_If : eIf τ a b s M = bnd (τ s M) (fun k M1 => pick k (a s M1) (b s M1) .mk .mk) .mk := rfl
theorem q_Nil : aNil s M = .ok [] M := rfl
theorem q_Cons : aCons a α s M = bnd (a s M) (fun x M1 => bnd (α s M1) (fun xs M2 => .ok (x :: xs) M2) .mk) .mk := rfl
theorem q_Tup : eTup α s M = bnd (α s M) (fun xs M1 => if xs.length ≤ LINE then .ok (.tup xs) M1 else .bad) .mk := rfl
theorem q_Lst : eLst false α s M = bnd (α s M) (fun xs M1 => if xs.length ≤ LINE then .ok (.lst xs) M1 else .bad) .mk := rfl
theorem q_LstM : eLst true α s M = bnd (α s M) (fun xs M1 => if xs.length ≤ LINE then .ok (.ref M1.length) (M1 ++ [.lst xs]) else .bad) .mk := rfl
theorem q_Call : eCall φ α κ s M = bnd (α s M) (fun ds M1 => bnd (κ s M1) (fun zs M2 => φ (ds ++ zs) M2) .mk) .mk := rfl
def nonK (z r : D) (M : Mem) : R D := match z with
  | .non => .ok r M
  | _ => .bad
theorem nonK_n {r : D} : nonK .non r M = .ok r M := rfl
theorem q_mkF {c n : Nat} {xs : List D} : mkF c n φ xs M = bnd (φ (.ref M.length :: xs) (M ++ [.ins c (List.replicate n none)])) (fun v M' => nonK v (.ref M.length) M') .mk := by
  show R.bind _ _ = R.bind _ _
  congr 1
def okK (r : R D) : R D := match r with
  | .ok d M1 => .ok d M1
  | _ => .bad
theorem okK_o : okK (.ok d M) = .ok d M := rfl
def insK (o : Option DO) (k : Nat → List (Option D) → R D) (_ : Tg k) : R D := match o with
  | some (.ins c fs) => k c fs
  | _ => .bad
def refK (x : D) (k : Nat → R D) (_ : Tg k) : R D := match x with
  | .ref i => k i
  | _ => .bad
def lookK {β : Type} (o : Option β) (k : β → R D) (e : R D) (_ : Tg k) (_ : Tg e) : R D := match o with
  | some φ => k φ
  | none => e
theorem refK_r {k : Nat → R D} {t : Tg k} : refK (.ref i) k t = k i := rfl
theorem insK_i {c : Nat} {fs : List (Option D)} {k : Nat → List (Option D) → R D} {t : Tg k} : insK (some (.ins c fs)) k t = k c fs := rfl
theorem lookK_s {β : Type} {p : β} {k : β → R D} {e : R D} {t : Tg k} {u : Tg e} : lookK (some p) k e t u = k p := rfl
theorem lookK_n {β : Type} {k : β → R D} {e : R D} {t : Tg k} {u : Tg e} : lookK none k e t u = e := rfl
theorem q_Meth {tbl : List (Nat × FnD)} : eMeth tbl a α κ s M = bnd (a s M) (fun x M0 => refK x (fun i => insK M0[i]? (fun c _ => lookK (tbl.lookup c) (fun φ => bnd (α s M0) (fun ds M1 => bnd (κ s M1) (fun zs M2 => φ ([.ref i] ++ ds ++ zs) M2) .mk) .mk) .bad .mk .mk) .mk) .mk) .mk := by
  show R.bind _ _ = R.bind _ _
  congr 1
  funext x M0
  cases x <;> try rfl
  rename_i i
  simp only [refK]
  cases M0[i]? with
  | none => rfl
  | some o =>
    cases o <;> try rfl
    rename_i c fs
    simp only [insK]
    cases tbl.lookup c <;> rfl
theorem q_Attr {tp : List (Nat × FnD)} {tf : List (Nat × Nat)} : eAttr tp tf a s M = bnd (a s M) (fun x M0 => refK x (fun i => insK M0[i]? (fun c fs => lookK (tp.lookup c) (fun φ => okK (φ [.ref i] M0)) (lookK (tf.lookup c) (fun j => getV fs[j]? M0) .bad .mk .mk) .mk .mk) .mk) .mk) .mk := by
  show R.bind _ _ = R.bind _ _
  congr 1
  funext x M0
  cases x <;> try rfl
  rename_i i
  simp only [refK]
  cases M0[i]? with
  | none => rfl
  | some o =>
    cases o <;> try rfl
    rename_i c fs
    simp only [insK]
    cases tp.lookup c with
    | some φ => rfl
    | none =>
      simp only [lookK]
      cases tf.lookup c with
      | none => rfl
      | some j =>
        simp only
        cases fs[j]? with
        | none => rfl
        | some o => cases o <;> rfl
theorem q_Blt {h : OL} : eBlt h α s M = bnd (α s M) (fun ds M1 => ofO (h ds M1)) .mk := rfl
def cmpK (mu : Bool) (src : Src) (γ : GSem) (τ : Sem1 Bool) (a : Sem1 D) (s : DS) (M : Mem) : R D := if src.xs.length ≤ LINE then bnd (compV src.chk γ τ a s src.xs M) (fun ys M2 => finL mu ys M2) .mk else .bad
theorem cmpK_l {mu : Bool} {xs : List D} {chk : Mem → Bool} (h : xs.length ≤ LINE) : cmpK mu ⟨xs, chk⟩ γ τ a s M = bnd (compV chk γ τ a s xs M) (fun ys M2 => finL mu ys M2) .mk := if_pos h
theorem q_Comp {mu : Bool} {χ : Sem1 Src} {own : List Nat} : eComp mu χ γ τ a own s M = bnd (χ s M) (fun src M1 => cmpK mu src γ τ a (wipeD s own) M1) .mk := rfl
theorem finL_f {xs : List D} : finL false xs M = .ok (.lst xs) M := rfl
theorem finL_t {xs : List D} : finL true xs M = .ok (.ref M.length) (M ++ [.lst xs]) := rfl
def srcK (o : Option Src) (M : Mem) : R Src := match o with
  | some src => .ok src M
  | none => .bad
theorem srcK_s {c : Src} : srcK (some c) M = .ok c M := rfl
theorem q_iOf : iOf a s M = bnd (a s M) (fun x M1 => srcK (srcOf M1 x) M1) .mk := by
  unfold iOf srcK ; rfl
def rngK (xs : List D) (M : Mem) : R Src := match xs with
  | [.int n] => if mid n then .ok ⟨rangeL 0 n.toNat 1, fun _ => true⟩ M else .bad
  | [.int m, .int n] => if mid m && mid n then .ok ⟨rangeL m (n - m).toNat 1, fun _ => true⟩ M else .bad
  | _ => .bad
theorem q_iRange : iRange α s M = bnd (α s M) (fun xs M1 => rngK xs M1) .mk := rfl
theorem rngK_1 {n : Int} (h : mid n = true) : rngK [.int n] M = .ok ⟨rangeL 0 n.toNat 1, fun _ => true⟩ M := by
  show (if mid n = true then _ else _) = _
  rw [if_pos h]
/-! statements -/
def RS.seq (r : RS) (k : DS → Mem → RS) (_ : Tg k) : RS := match r with
  | .nx s M => k s M
  | r => r
theorem seq_n {k : DS → Mem → RS} {t : Tg k} : (RS.nx s M).seq k t = k s M := rfl
theorem seq_r {k : DS → Mem → RS} {t : Tg k} : (RS.rt d M).seq k t = .rt d M := rfl
theorem seq_b {k : DS → Mem → RS} {t : Tg k} : (RS.bk s M).seq k t = .bk s M := rfl
theorem seq_c {k : DS → Mem → RS} {t : Tg k} : (RS.ct s M).seq k t = .ct s M := rfl
theorem seq_e {e : Exn} {k : DS → Mem → RS} {t : Tg k} : (RS.er e s M).seq k t = .er e s M := rfl
theorem q_Next : sNext s M = .nx s M := rfl
theorem q_Seq : sSeq ψ χ s M = (ψ s M).seq χ .mk := by
  unfold sSeq RS.seq
  cases ψ s M <;> rfl
theorem q_Expr : sExpr a s M = bndS (a s M) s (fun _ M' => .nx s M') .mk := rfl
theorem q_Ret : sRet a s M = bndS (a s M) s (fun d M' => .rt d M') .mk := rfl
theorem q_RetN : sRetN s M = .rt .non M := rfl
theorem q_SIf : sIf τ ψ χ s M = bndS (τ s M) s (fun k M' => pick k (ψ s M') (χ s M') .mk .mk) .mk := rfl
theorem q_Bk : sBk s M = .bk s M := rfl
theorem q_Ct : sCt s M = .ct s M := rfl
def storeK (o : Option DS) (M : Mem) : RS := match o with
  | some s' => .nx s' M
  | none => .bad
theorem storeK_s : storeK (some s) M = .nx s M := rfl
theorem q_Asg : sAsg γ a s M = bndS (a s M) s (fun d M' => storeK (γ d M' s) M') .mk := by
  unfold sAsg storeK ; rfl
theorem q_Nm : gNm i d M s = some (s.set i (some d)) := rfl
def memK (o : Option Mem) (s : DS) : RS := match o with
  | some M => .nx s M
  | none => .bad
theorem memK_s : memK (some M) s = .nx s M := rfl
theorem q_Sub : sSub a b c s M = bndS (c s M) s (fun d M1 => bndS (a s M1) s (fun x M2 => bndS (b s M2) s (fun y M3 => memK (setD x y d M3) s) .mk) .mk) .mk := by
  unfold sSub memK ; rfl
theorem q_Del : sDel a b s M = bndS (a s M) s (fun x M2 => bndS (b s M2) s (fun y M3 => memK (delD x y M3) s) .mk) .mk := by
  unfold sDel memK ; rfl
def refS (x : D) (k : Nat → RS) (_ : Tg k) : RS := match x with
  | .ref i => k i
  | _ => .bad
def insS (o : Option DO) (k : Nat → List (Option D) → RS) (_ : Tg k) : RS := match o with
  | some (.ins c fs) => k c fs
  | _ => .bad
def lookS {β : Type} (o : Option β) (k : β → RS) (_ : Tg k) : RS := match o with
  | some φ => k φ
  | none => .bad
theorem refS_r {k : Nat → RS} {t : Tg k} : refS (.ref i) k t = k i := rfl
theorem insS_i {c : Nat} {fs : List (Option D)} {k : Nat → List (Option D) → RS} {t : Tg k} : insS (some (.ins c fs)) k t = k c fs := rfl
theorem lookS_s {β : Type} {p : β} {k : β → RS} {t : Tg k} : lookS (some p) k t = k p := rfl
theorem q_Fld {tf : List (Nat × Nat)} : sFldD tf a b s M = bndS (b s M) s (fun d M1 => bndS (a s M1) s (fun x M2 => refS x (fun i => insS M2[i]? (fun c fs => lookS (tf.lookup c) (fun j => .nx s (M2.set i (.ins c (fs.set j (some d))))) .mk) .mk) .mk) .mk) .mk := by
  show bindS _ _ _ = bindS _ _ _
  congr 1
  funext d M1
  show bindS _ _ _ = bindS _ _ _
  congr 1
  funext x M2
  cases x <;> try rfl
  rename_i i
  simp only [refS]
  cases M2[i]? with
  | none => rfl
  | some o =>
    cases o <;> try rfl
    rename_i c fs
    simp only [insS]
    cases tf.lookup c <;> rfl
theorem q_Dic : eDic0 true s M = .ok (.ref M.length) (M ++ [.dic []]) := rfl
theorem q_For {χ : Sem1 Src} : sFor χ γ ψ s M = bndS (χ s M) s (fun src M1 => forV src.chk γ ψ src.xs s M1) .mk := rfl
def endF (r : RS) : R D := match r with
  | .nx _ M' => .ok .non M'
  | .rt d M' => .ok d M'
  | .er x _ M' => .er x M'
  | _ => .bad
theorem endF_n : endF (.nx s M) = .ok .non M := rfl
theorem endF_r : endF (.rt d M) = .ok d M := rfl
theorem endF_e {e : Exn} : endF (.er e s M) = .er e M := rfl
theorem q_def {n np : Nat} {ds : List D} (h : ds.length = np) : defD n np ψ ds M = endF (ψ (startD n ds) M) := by
  unfold defD
  exact (if_pos h).trans (by cases ψ (startD n ds) M <;> rfl)
theorem run_def {n np : Nat} {ds : List D} {r : R D} (h : ds.length = np) (e : endF (ψ (startD n ds) M) = r) : defD n np ψ ds M = r := (q_def h).trans e
/-! operators -/
theorem ifT {α : Type} {h : Decidable True} {a b : α} : (@ite α True h a b) = a := if_pos trivial
theorem le0 : (0 ≤ LINE) = True := eq_true (by decide)
theorem le1 : (1 ≤ LINE) = True := eq_true (by decide)
theorem le2 : (2 ≤ LINE) = True := eq_true (by decide)
theorem le3 : (3 ≤ LINE) = True := eq_true (by decide)
theorem le4 : (4 ≤ LINE) = True := eq_true (by decide)
theorem le5 : (5 ≤ LINE) = True := eq_true (by decide)
theorem le6 : (6 ≤ LINE) = True := eq_true (by decide)
variable {p q : Int}
theorem v_add : addD (.int p) (.int q) M = some (.int (p + q), M) := rfl
theorem v_sub : subD (.int p) (.int q) M = some (.int (p - q), M) := rfl
theorem v_mul (h : (small p || small q) = true) : mulD (.int p) (.int q) M = some (.int (p * q), M) := if_pos h
theorem v_fdiv (h : 0 < q) (h2 : q < 1073741824) : fdivD (.int p) (.int q) M = some (.int (p / q), M) := if_pos (fdok_iff.mpr ⟨h, h2⟩)
theorem v_mulR (h : -18446744073709551616 < q) (h2 : q < 18446744073709551616) : mulD (.int p) (.int q) M = some (.int (p * q), M) := v_mul (by
  have : small q = true := small_iff.mpr ⟨h, h2⟩
  rw [this, Bool.or_true])
theorem v_mulL (h : -18446744073709551616 < p) (h2 : p < 18446744073709551616) : mulD (.int p) (.int q) M = some (.int (p * q), M) := v_mul (by
  have : small p = true := small_iff.mpr ⟨h, h2⟩
  rw [this, Bool.true_or])
theorem v_mod (h : 0 < q) : modD (.int p) (.int q) M = some (.int (p % q), M) := if_pos (decide_eq_true h)
theorem v_int : intC [.int p] M = some (.int p, M) := rfl
theorem v_lt : boD ltB (.int p) (.int q) M = some (.bl (decide (p < q)), M) := rfl
theorem v_le : boD leB (.int p) (.int q) M = some (.bl (decide (p ≤ q)), M) := rfl
theorem v_gt : boD gtB (.int p) (.int q) M = some (.bl (decide (q < p)), M) := rfl
theorem v_ge : boD geB (.int p) (.int q) M = some (.bl (decide (q ≤ p)), M) := rfl
theorem v_eq : boD eqD (.int p) (.int q) M = some (.bl (p == q), M) := rfl
theorem v_ne : boD (notB eqD) (.int p) (.int q) M = some (.bl (!(p == q)), M) := rfl
theorem v_len {xs : List D} : lenC [.lst xs] M = some (.int xs.length, M) := rfl
theorem v_tix {xs : List D} : ixD (.tup xs) (.int p) M = (atI xs p).map fun d => (d, M) := rfl
theorem v_lix {xs : List D} : ixD (.lst xs) (.int p) M = (atI xs p).map fun d => (d, M) := rfl
def rixK (o : Option DO) (y : D) (M : Mem) : Option (D × Mem) := match o with
  | some (.lst xs) => (match y with
    | .int i => (atI xs i).map fun d => (d, M)
    | _ => none)
  | some (.dic kvs) => (keyOf y).bind fun k => (getK kvs k).map fun d => (d, M)
  | _ => none
theorem v_rix : ixD (.ref i) y M = rixK M[i]? y M := by
  unfold ixD rixK
  simp only [dcOf, lsOf]
  cases M[i]? with
  | none => rfl
  | some o => cases o <;> rfl
theorem rixK_l {xs : List D} : rixK (some (.lst xs)) (.int p) M = (atI xs p).map fun d => (d, M) := rfl
theorem rixK_d {kvs : List (Key × D)} : rixK (some (.dic kvs)) (.int p) M = (getK kvs (.inl p)).map fun d => (d, M) := rfl
theorem v_truB {b : Bool} : truD M (.bl b) = some b := rfl
theorem v_truL {xs : List D} : truD M (.lst xs) = some (!xs.isEmpty) := rfl
theorem v_truN : truD M .non = some false := rfl
theorem v_srcL {xs : List D} : srcOf M (.lst xs) = some ⟨xs, fun _ => true⟩ := rfl
theorem v_neg : negD (.int p) M = some (.int (-p), M) := rfl
theorem nn_n : isNon .non = true := rfl
theorem nn_i : isNon (.int p) = false := rfl
theorem nn_t {xs : List D} : isNon (.tup xs) = false := rfl
theorem nn_l {xs : List D} : isNon (.lst xs) = false := rfl
theorem nn_r : isNon (.ref i) = false := rfl
theorem nn_b {b : Bool} : isNon (.bl b) = false := rfl
theorem nn_s {x : Str} : isNon (.str x) = false := rfl
theorem v_isN {b : Bool} : boD isB (.bl b) (.bl c') M = some (.bl (b == c'), M) := rfl
theorem v_isnN {b : Bool} : boD (notB isB) (.bl b) (.bl c') M = some (.bl (!(b == c')), M) := rfl
theorem v_isNone : boD isB x .non M = some (.bl (isNon x), M) := rfl
theorem v_isNoneN : boD (notB isB) x .non M = some (.bl (!isNon x), M) := rfl
end
end LD
namespace LD
open PySem PySem.Spec PyProof.Rows L2

/-! ### equal to itself -/
mutual
def okD : Nat → D → Bool
  | _, .non => true
  | _, .bl _ => true
  | _, .int _ => true
  | _, .str x => (PyData.str x).canLay0
  | n + 1, .lst xs => okL n xs
  | n + 1, .tup xs => okL n xs
  | _, _ => false
def okL : Nat → List D → Bool
  | _, [] => true
  | n, x :: xs => okD n x && okL n xs
end
mutual
theorem okD_py : ∀ (n : Nat) (d : D), okD n d = true → ∃ p, pyD d = some p ∧ p.canLay0 = true ∧ p.depth ≤ n
  | n, .non, _ => ⟨_, rfl, by simp [PyData.canLay0], by simp [PyData.depth]⟩
  | n, .bl b, _ => ⟨_, rfl, by simp [PyData.canLay0], by simp [PyData.depth]⟩
  | n, .int b, _ => ⟨_, rfl, by simp [PyData.canLay0], by simp [PyData.depth]⟩
  | n + 1, .lst xs, h => by
    rw [okD] at h
    obtain ⟨ps, h1, h2, h3⟩ := okL_py n xs h
    exact ⟨.list ps, by rw [pyD, h1] <;> rfl, by rw [PyData.canLay0]; exact h2, by rw [PyData.depth]; omega⟩
  | n + 1, .tup xs, h => by
    rw [okD] at h
    obtain ⟨ps, h1, h2, h3⟩ := okL_py n xs h
    exact ⟨.tuple ps, by rw [pyD, h1] <;> rfl, by rw [PyData.canLay0]; exact h2, by rw [PyData.depth]; omega⟩
  | n, .str x, h => ⟨.str x, rfl, by simpa only [okD] using h, by simp [PyData.depth]⟩
  | n, .ty _, h => by simp [okD] at h
  | n, .dic _ _, h => by simp [okD] at h
  | n, .ref _, h => by simp [okD] at h
  | n, .glb _, h => by simp [okD] at h
  | 0, .lst _, h => by simp [okD] at h
  | 0, .tup _, h => by simp [okD] at h
theorem okL_py : ∀ (n : Nat) (ds : List D), okL n ds = true → ∃ ps, pyL ds = some ps ∧ PyData.canLayAll0 ps = true ∧ PyData.depthAll ps ≤ n
  | n, [], _ => ⟨[], rfl, rfl, by simp [PyData.depthAll]⟩
  | n, x :: xs, h => by
    rw [okL, Bool.and_eq_true] at h
    obtain ⟨p, h1, h2, h3⟩ := okD_py n x h.1
    obtain ⟨ps, h4, h5, h6⟩ := okL_py n xs h.2
    exact ⟨p :: ps, by rw [pyL, h1, h4] <;> rfl, by rw [PyData.canLayAll0, h2, h5] <;> rfl, by rw [PyData.depthAll]; omega⟩
end
theorem okL_map {α : Type} {n : Nat} {e : α → D} : ∀ {as : List α}, (∀ a ∈ as, okD n (e a) = true) → okL n (as.map e) = true
  | [], _ => by simp [okL]
  | a :: as, h => by
    rw [List.map_cons, okL, h a List.mem_cons_self, okL_map fun b hb => h b (List.mem_cons_of_mem _ hb)] <;> rfl
theorem eqD_self {n : Nat} {d : D} {M : Mem} (h : okD n d = true) (hn : n ≤ 64) : eqD M d d = some true := by
  obtain ⟨p, h1, h2, h3⟩ := okD_py n d h
  have hp : pyOf M d = some p := by
    cases d <;> first | exact h1 | (simp [okD] at h)
  unfold eqD
  split
  · rename_i hf
    cases d <;> first | rfl | (simp [eqF]; done) | (simp [isF] at hf)
  · rw [hp]
    show (if (SeqAt.shaped p && SeqAt.shaped p) = true then some (PyData.eqv p p) else none) = some true
    have hs : SeqAt.shaped p = true := by
      unfold SeqAt.shaped
      rw [h2, decide_eq_true (by omega)] <;> rfl
    rw [hs, SeqAt.eqv_refl p h2] <;> rfl
theorem v_eqS {n : Nat} {d : D} {M : Mem} (h : okD n d = true) (hn : n ≤ 64) : boD eqD d d M = some (.bl true, M) := by
  unfold boD
  rw [eqD_self h hn] <;> rfl
theorem v_neS {n : Nat} {d : D} {M : Mem} (h : okD n d = true) (hn : n ≤ 64) : boD (notB eqD) d d M = some (.bl false, M) := by
  unfold boD notB
  rw [eqD_self h hn] <;> rfl

/-! ### comprehensions and loops -/
theorem compV_map {α : Type} {chk : Mem → Bool} {γ : GSem} {τ : Sem1 Bool} {φ : Sem1 D} {s : DS} {M : Mem} {e g : α → D} {p : α → Bool} (hc : chk M = true) : ∀ {as : List α},
    (∀ a ∈ as, ∃ s1, γ (e a) M s = some s1 ∧ τ s1 M = .ok (p a) M ∧ (p a = true → φ s1 M = .ok (g a) M)) → compV chk γ τ φ s (as.map e) M = .ok ((as.filter p).map g) M
  | [], _ => by
    show (if chk M then _ else _) = _
    rw [if_pos hc] <;> rfl
  | a :: as, h => by
    obtain ⟨s1, h1, h2, h3⟩ := h a List.mem_cons_self
    have ih := compV_map (chk := chk) (γ := γ) (τ := τ) (φ := φ) (s := s) (M := M) (e := e) (g := g) (p := p) hc (as := as) fun b hb => h b (List.mem_cons_of_mem _ hb)
    rw [List.map_cons, compV, if_pos hc, h1]
    simp only [h2]
    by_cases hp : p a = true
    · rw [if_pos hp, h3 hp, List.filter_cons_of_pos hp, List.map_cons]
      simp only [ih, R.bind_ok]
    · rw [if_neg hp, List.filter_cons_of_neg hp, ih]
theorem forV_ind {chk : Mem → Bool} {γ : GSem} {ψ : SSem} (P : Nat → DS → Mem → Prop) : ∀ (xs : List D) (k : Nat) (s : DS) (M : Mem), P k s M → (∀ i x s M, xs[i]? = some x → P (k + i) s M → chk M = true ∧ ∃ s1, γ x M s = some s1 ∧ ∃ s2 M2, (ψ s1 M = .nx s2 M2 ∨ ψ s1 M = .ct s2 M2) ∧ P (k + i + 1) s2 M2) →
    (∀ s M, P (k + xs.length) s M → chk M = true) → ∃ s' M', forV chk γ ψ xs s M = .nx s' M' ∧ P (k + xs.length) s' M'
  | [], k, s, M, h, _, e => by
    refine ⟨s, M, ?_, h⟩
    rw [forV, if_pos (e s M h)]
  | x :: xs, k, s, M, h, t, e => by
    obtain ⟨c, s1, h1, s2, M2, h2, h3⟩ := t 0 x s M rfl h
    obtain ⟨s', M', a1, a2⟩ := forV_ind (chk := chk) (γ := γ) (ψ := ψ) P xs (k + 1) s2 M2 h3 (fun i y s M hy hp => by
      have z := t (i + 1) y s M hy (by rw [show k + (i + 1) = k + 1 + i by omega]; exact hp)
      rw [show k + (i + 1) = k + 1 + i by omega] at z
      exact z) (fun s M hp => e s M (by rw [List.length_cons, show k + (xs.length + 1) = k + 1 + xs.length by omega]; exact hp))
    refine ⟨s', M', ?_, by rw [List.length_cons, show k + (xs.length + 1) = k + 1 + xs.length by omega]; exact a2⟩
    rw [forV, if_pos c, h1]
    rcases h2 with h2 | h2
    · simp only [h2, a1]
    · simp only [h2, a1]
theorem forV_n {chk : Mem → Bool} {γ : GSem} {ψ : SSem} {s : DS} {M : Mem} (hc : chk M = true) : forV chk γ ψ [] s M = .nx s M := if_pos hc
theorem forV_c {chk : Mem → Bool} {γ : GSem} {ψ : SSem} {s s1 s2 : DS} {M M2 : Mem} {x : D} {xs : List D} (hc : chk M = true) (hg : γ x M s = some s1) (h : ψ s1 M = .nx s2 M2) : forV chk γ ψ (x :: xs) s M = forV chk γ ψ xs s2 M2 := by
  rw [forV, if_pos hc, hg]
  simp only [h]
theorem forV_r {chk : Mem → Bool} {γ : GSem} {ψ : SSem} {s s1 : DS} {M M2 : Mem} {x d : D} {xs : List D} (hc : chk M = true) (hg : γ x M s = some s1) (h : ψ s1 M = .rt d M2) : forV chk γ ψ (x :: xs) s M = .rt d M2 := by
  rw [forV, if_pos hc, hg]
  simp only [h]
theorem rangeL_mem {n : Nat} {x : D} (h : x ∈ rangeL 0 n 1) : ∃ k : Nat, x = .int (k : Int) ∧ k < n := by
  unfold rangeL at h
  obtain ⟨k, h1, rfl⟩ := List.mem_map.mp h
  exact ⟨k, by rw [Int.mul_one, Int.zero_add], List.mem_range.mp h1⟩
theorem rangeL_map (n : Nat) : rangeL 0 n 1 = ((List.range n).map fun i : Nat => (i : Int)).map D.int := by
  unfold rangeL
  rw [List.map_map]
  apply List.map_congr_left
  intro i _
  show D.int (0 + (i : Int) * 1) = D.int (i : Int)
  congr 1
  omega
theorem rng4 : rangeL 0 4 1 = [(0 : Int), 1, 2, 3].map D.int := rfl
theorem at0 {α : Type} {x : α} {xs : List α} : atI (x :: xs) 0 = some x := by
  unfold atI ixN
  simp
theorem atN {α : Type} {xs : List α} {n : Nat} {x : α} (h : xs[n]? = some x) : atI xs (n : Int) = some x := by
  have hl := (List.getElem?_eq_some_iff.mp h).1
  unfold atI ixN
  rw [if_pos (by omega), if_pos (by omega)]
  show xs[((n : Int)).toNat]? = _
  rw [Int.toNat_natCast, h]
theorem at1 {α : Type} {x y : α} {xs : List α} : atI (x :: y :: xs) 1 = some y := atN (n := 1) rfl
theorem atL {α : Type} {xs : List α} {x : α} (h : xs.getLast? = some x) : atI xs (-1) = some x := by
  have hne : xs ≠ [] := fun e => by rw [e] at h; cases h
  have hp : 0 < xs.length := List.length_pos_iff.mpr hne
  unfold atI ixN
  rw [if_neg (by omega), if_pos (by omega)]
  show xs[(-1 + (xs.length : Int)).toNat]? = _
  rw [List.getLast?_eq_getElem?] at h
  rw [← h]
  congr 1
  omega
theorem rngN {n : Int} {M : Mem} (h0 : -1000000 < n) (h : n < 1000000) : rngK [.int n] M = .ok ⟨rangeL 0 n.toNat 1, fun _ => true⟩ M := rngK_1 (mid_iff.mpr ⟨by omega, by omega⟩)
theorem rangeL_len {a : Int} {n : Nat} {c : Int} : (rangeL a n c).length = n := by
  unfold rangeL
  rw [List.length_map, List.length_range]
theorem gTp2 {i j : Nat} {x y : D} {M : Mem} {s : DS} : gTp [i, j] (.tup [x, y]) M s = some ((s.set i (some x)).set j (some y)) := rfl
/-- a text in lists of ints -/
theorem eqb_mut {i : Nat} {xs : List D} {M : Mem} (h : M[i]? = some (.lst xs)) : mutChk i xs M = true := by
  unfold mutChk
  rw [h]
  exact eqbL_refl xs
theorem v_addL {a b : List D} {M : Mem} (h : a.length + b.length ≤ LINE) : addD (.lst a) (.lst b) M = some (.lst (a ++ b), M) := if_pos h
theorem pyL_map {α : Type} {e : α → D} {f : α → PyData} (h : ∀ a, pyD (e a) = some (f a)) : ∀ as : List α, pyL (as.map e) = some (as.map f)
  | [] => rfl
  | a :: as => by
    rw [List.map_cons, pyL, h a, pyL_map h as] <;> rfl
theorem eqF_int {a b : Int} : eqF (.int a) (.int b) = (a == b) := rfl
theorem any_int {k : Int} : ∀ ls : List Int, ((ls.map D.int).any fun z => eqF z (.int k)) = decide (k ∈ ls)
  | [] => rfl
  | a :: r => by
    rw [List.map_cons, List.any_cons, any_int r, eqF_int]
    by_cases h : a = k
    · subst h
      simp
    · have h' : ¬ k = a := fun e => h e.symm
      simp [h, h']
theorem all_int : ∀ ls : List Int, (ls.map D.int).all isF = true
  | [] => rfl
  | a :: r => by rw [List.map_cons, List.all_cons, all_int r] <;> rfl
theorem v_inI {k : Int} {ls : List Int} {M : Mem} : inD M (.int k) (.lst (ls.map D.int)) = some (decide (k ∈ ls)) := by
  show (if (isF (.int k) && (ls.map D.int).all isF) = true then some ((ls.map D.int).any fun z => eqF z (.int k)) else _) = _
  rw [all_int, show (isF (.int k) && true) = true from rfl, if_pos rfl, any_int]
def pr2 (p : Int × Int) : D := .tup [.int p.1, .int p.2]
theorem v_inP {p : Int × Int} {ps : List (Int × Int)} {M : Mem} : inD M (pr2 p) (.lst (ps.map pr2)) = some (decide (p ∈ ps)) := by
  have e1 : pyL (ps.map pr2) = some (ps.map fun q => PyData.tuple [.int q.1, .int q.2]) := pyL_map (fun _ => rfl) ps
  have cl : ∀ qs : List (Int × Int), PyData.canLayAll0 (qs.map fun q => PyData.tuple [.int q.1, .int q.2]) = true := fun qs => by
    induction qs with
    | nil => rfl
    | cons q qs ih => rw [List.map_cons, PyData.canLayAll0, ih]; simp [PyData.canLay0, PyData.canLayAll0]
  have dp : ∀ qs : List (Int × Int), PyData.depthAll (qs.map fun q => PyData.tuple [.int q.1, .int q.2]) ≤ 1 := fun qs => by
    induction qs with
    | nil => simp [PyData.depthAll]
    | cons q qs ih =>
      rw [List.map_cons, PyData.depthAll]
      have : (PyData.tuple [.int q.1, .int q.2]).depth ≤ 1 := by simp [PyData.depth, PyData.depthAll]
      omega
  have h1 : SeqAt.shaped (PyData.tuple [.int p.1, .int p.2]) = true := by
    unfold SeqAt.shaped
    rw [show (PyData.tuple [.int p.1, .int p.2]).canLay0 = true by simp [PyData.canLay0, PyData.canLayAll0], decide_eq_true (show (PyData.tuple [.int p.1, .int p.2]).depth ≤ 64 by simp [PyData.depth, PyData.depthAll])] <;> rfl
  have h2 : SeqAt.shaped (PyData.list (ps.map fun q => PyData.tuple [.int q.1, .int q.2])) = true := by
    unfold SeqAt.shaped
    rw [show (PyData.list (ps.map fun q => PyData.tuple [.int q.1, .int q.2])).canLay0 = true by rw [PyData.canLay0]; exact cl ps, decide_eq_true (show (PyData.list (ps.map fun q => PyData.tuple [.int q.1, .int q.2])).depth ≤ 64 by rw [PyData.depth]; have := dp ps; omega)] <;> rfl
  have a : ∀ qs : List (Int × Int), ((qs.map fun q => PyData.tuple [.int q.1, .int q.2]).any fun z => PyData.eqv z (.tuple [.int p.1, .int p.2])) = decide (p ∈ qs) := fun qs => by
    induction qs with
    | nil => rfl
    | cons q qs ih =>
      rw [List.map_cons, List.any_cons, ih]
      have e : PyData.eqv (.tuple [.int q.1, .int q.2]) (.tuple [.int p.1, .int p.2]) = decide (p = q) := by
        simp only [PyData.eqv, PyData.eqvAll, Bool.and_true]
        obtain ⟨a, b⟩ := p
        obtain ⟨c, d⟩ := q
        dsimp only
        by_cases h1 : c = a
        · by_cases h2 : d = b
          · subst h1; subst h2; simp
          · have : ¬ b = d := fun e => h2 e.symm
            simp [h1, h2, this]
        · have : ¬ a = c := fun e => h1 e.symm
          simp [h1, this]
      rw [e]
      by_cases h : p = q
      · subst h; simp
      · simp [h]
  show (pyOf M (pr2 p)).bind (fun x => (pyL (ps.map pr2)).bind fun xs => if (SeqAt.shaped x && SeqAt.shaped (.list xs)) = true then some (xs.any fun z => PyData.eqv z x) else none) = _
  rw [e1]
  show (if (SeqAt.shaped (PyData.tuple [.int p.1, .int p.2]) && SeqAt.shaped (.list (ps.map fun q => PyData.tuple [.int q.1, .int q.2]))) = true then some ((ps.map fun q => PyData.tuple [.int q.1, .int q.2]).any fun z => PyData.eqv z (.tuple [.int p.1, .int p.2])) else none) = _
  rw [h1, h2, a] <;> rfl
theorem v_min {ks : List Int} {kvs : List (Key × D)} {M : Mem} {i : Nat} (h : M[i]? = some (.dic kvs)) (h2 : kvs.map (·.1) = ks.map Sum.inl) (h3 : ks ≠ []) : minC [.ref i] M = some (.int (minI ks), M) := by
  have hk : ∀ ns : List Int, intK (ns.map Sum.inl) = some ns := fun ns => by
    induction ns with
    | nil => rfl
    | cons n ns ih => rw [List.map_cons, intK, ih] <;> rfl
  unfold minC
  simp only [h, h2, hk]
  show (if ks.isEmpty = true then none else _) = _
  rw [if_neg]
  cases ks with
  | nil => exact absurd rfl h3
  | cons k ks => simp
end LD
namespace LD
open PySem PySem.Spec PyProof.Rows L2

/-! ### isinstance -/
def tyD (M : Mem) : D → Option String
  | .non => some "NoneType"
  | .bl _ => some "bool"
  | .int _ => some "int"
  | .str _ => some "str"
  | .lst _ => some "list"
  | .tup _ => some "tuple"
  | .dic _ _ => some "dict"
  | .ref i => match M[i]? with
    | some (.lst _) => some "list"
    | some (.dic _) => some "dict"
    | _ => none
  | _ => none
def isiC : OL := fun ds M => match ds with
  | [x, .ty t] => (tyD M x).bind fun a => (kitB a t).map fun b => (.bl b, M)
  | _ => none
section
variable {X : Cx} {T : Tab} {W : WX} {K : KX} {ι : List Addr} {F H : Hp} {M : Mem} {rs : List (Addr × HO)} {pos : Pos} {x : Str}
theorem tyL {a : Addr} {vs : List V} (h : SqL K.fr H a vs) : TyX K.fr H (.ref a) (.type "list") := by
  rcases h with (h | ⟨o, h⟩) | ⟨o, its, n, h1, h2, _⟩
  · exact .base (.lst h)
  · exact .base (.frz h)
  · exact .kList h1 h2
theorem tyT {a : Addr} {vs : List V} (h : SqT K.fr H a vs) : TyX K.fr H (.ref a) (.type "tuple") := by
  rcases h with (h | ⟨o, h⟩) | ⟨o, its, n, h1, h2, _⟩
  · exact .base (.tup h)
  · exact .fTuple h
  · exact .kTuple h1 h2
theorem tyDd {a : Addr} {vs : List (Key × V)} (h : Rd H a (.dK vs)) : TyX K.fr H (.ref a) (.type "dict") := by
  rcases h with h | ⟨o, h⟩
  · exact .base (.dK h)
  · exact .fDict h
theorem tyD_at {d : D} {v : V} {t : String} (r : Rel K ι F rs H M) (h : Rep K ι F d v) (e : tyD M d = some t) : TyX K.fr H v (.type t) := by
  cases d with
  | non => cases h; cases e; exact .base .non
  | bl b => cases h; cases e; exact .base (.bl b)
  | int b => cases h; cases e; exact .base (.int b)
  | str b => cases h; cases e; exact .base (.str b)
  | lst xs => obtain ⟨a, vs, rfl, h1, h2⟩ := h; cases e; exact tyL (sql_sub r h1)
  | tup xs => obtain ⟨a, vs, rfl, h1, h2⟩ := h; cases e; exact tyT (sqt_sub r h1)
  | dic ks xs => obtain ⟨a, vs, rfl, h1, h2⟩ := h; cases e; exact tyDd (rd_sub r h1)
  | ref i =>
    obtain ⟨a, rfl, h1⟩ := h
    simp only [tyD] at e
    split at e
    · rename_i xs hM
      cases e
      obtain ⟨_, vs, h2, h3⟩ := r.obj i _ a hM h1 rfl
      exact .base (.lst h2)
    · rename_i kvs hM
      cases e
      obtain ⟨_, vs, h2, h3⟩ := r.obj i _ a hM h1 rfl
      exact .base (.dK h2)
    · cases e
  | _ => cases e
theorem c_isi : CallR X (.builtin "isinstance") (RC (kx X T) rs isiC) := CallR.imp call_isi fun vs H Q h => by
  obtain ⟨ι, F, M, ds, z, M', r, rv, e, q⟩ := h
  unfold isiC at e
  split at e
  · rename_i x t
    obtain ⟨a, h1, e⟩ := Option.bind_eq_some_iff.mp e
    obtain ⟨b, h2, e⟩ := Option.map_eq_some_iff.mp e
    cases e
    obtain ⟨v, w, rfl, r1, r2⟩ := two_of rv
    cases r2
    exact ⟨v, _, .type a, .type t, b, rfl, .ty t, tyD_at r r1 h1, kit_ty h2, q ι F H _ Le.refl r rfl⟩
  · cases e
theorem Ty {t : String} (hm : X.mg x = none) (hv : bootBuiltins x = some (.type t) := by rfl) (hg : Gl X x := by rfl) (hn : x ≠ "__name__" := by decide) (hd : (x == ("__debug__" : Str)) = false := by decide) : KE X T W (.Name x pos) (eC (.ty t)) := fun rs => PE.imp (pe_bltn hg hm hv (v := .ty t) rfl hn hd) fun σ H Q h => by
  obtain ⟨ι, F, s, M, r, rS, p⟩ := h
  exact p.fin r rfl
theorem kit_ii : kitB "int" "int" = some true := by decide +kernel
theorem kit_ib : kitB "int" "bool" = some false := by decide +kernel
theorem kit_bi : kitB "bool" "int" = some true := by decide +kernel
theorem kit_bb : kitB "bool" "bool" = some true := by decide +kernel
theorem v_isiI {i : Int} : isiC [.int i, .ty "int"] M = some (.bl true, M) := by
  simp only [isiC, tyD, Option.bind_some, kit_ii, Option.map_some]
theorem v_isiB {i : Int} : isiC [.int i, .ty "bool"] M = some (.bl false, M) := by
  simp only [isiC, tyD, Option.bind_some, kit_ib, Option.map_some]
end
end LD
namespace LD
open PySem PySem.Spec PyProof.Rows L2

/-! ### methods of built-in values -/
abbrev OMt := D → List D → Mem → Option (D × Mem)
def eBm (ok : Mem → D → Bool) (g : OMt) (o : Sem1 D) (α : Sem1 (List D)) : Sem1 D := fun s M => (o s M).bind fun x M1 => if ok M1 x then (α s M1).bind fun ds M2 => ofO (g x ds M2) else .bad
def RM (K : KX) (rs : List (Addr × HO)) (g : OMt) : V → List V → Hp → VK → Prop := fun v ws H Q => ∃ ι F M x ds z M', Rel K ι F rs H M ∧ Rep K ι F x v ∧ RepL K ι F ds ws ∧ g x ds M = some (z, M') ∧ ∀ ι' F' H' u, Le K ι F ι' F' → Rel K ι' F' rs H' M' → Rep K ι' F' z u → Q u H'
def isLst (M : Mem) (x : D) : Bool := (lsOf M x).isSome
def isStrD (_ : Mem) : D → Bool
  | .str _ => true
  | _ => false
def isDcM (M : Mem) : D → Bool
  | .ref i => match M[i]? with
    | some (.dic _) => true
    | _ => false
  | _ => false
def appG : OMt := fun x ds M => match x, ds with
  | .ref i, [d] => match M[i]? with
    | some (.lst xs) => if xs.length < LINE then some (.non, M.set i (.lst (xs ++ [d]))) else none
    | _ => none
  | _, _ => none
def popG : OMt := fun x ds M => match x, ds with
  | .ref i, [] => match M[i]? with
    | some (.lst xs) => (xs[xs.length - 1]?).map fun d => (d, M.set i (.lst xs.dropLast))
    | _ => none
  | _, _ => none
section
variable {X : Cx} {T : Tab} {W : WX} {K : KX} {ι : List Addr} {F H : Hp} {M : Mem} {rs : List (Addr × HO)} {o e : Expr} {es : List Expr} {φ : Sem1 D} {α : Sem1 (List D)} {name : Str} {apos pos : Pos}
theorem ty_lst {x : D} {v : V} (r : Rel K ι F rs H M) (h : Rep K ι F x v) (e : isLst M x = true) : tyV K.fr "list" v H := by
  obtain ⟨xs, hx⟩ := Option.isSome_iff_exists.mp e
  obtain ⟨a, vs, rfl, h1, h2⟩ := lsOf_at r hx h
  exact .inl ⟨rfl, vs, h1⟩
theorem ty_str {x : D} {v : V} (r : Rel K ι F rs H M) (h : Rep K ι F x v) (e : isStrD M x = true) : tyV K.fr "str" v H := by
  cases x with
  | str z => cases h; rfl
  | _ => cases e
theorem ty_dcm {x : D} {v : V} (r : Rel K ι F rs H M) (h : Rep K ι F x v) (e : isDcM M x = true) : tyV K.fr "dict" v H := by
  cases x with
  | ref i =>
    obtain ⟨a, rfl, h1⟩ := h
    simp only [isDcM] at e
    split at e
    · rename_i kvs hM
      obtain ⟨_, vs, h2, _⟩ := r.obj i _ a hM h1 rfl
      exact .inr (.inr (.inl ⟨rfl, .inl ⟨vs, h2⟩⟩))
    · cases e
  | _ => cases e
theorem d_bm {ok : Mem → D → Bool} {g : OMt} {Ty id : String} (pa : PlainAttrs Ty) (slot : Slot Ty name id) (hty : typeOf (.builtin id) = pure (.type "method_descriptor")) (hm : ∀ rs, MtR X id (RM (kx X T) rs g))
    (tyo : ∀ {ι F rs H M x v}, Rel (kx X T) ι F rs H M → Rep (kx X T) ι F x v → ok M x = true → tyV X.K Ty v H) (ho : KE X T W o φ) (ha : KA X T W (e :: es) α)
    (h1 : isSup o = false := by rfl) (hfew : ((backTo pos (starEach (e :: es) X.env)).all (fun x => !x.1) && (backToKw pos (keywordEach [] X.env)).all (fun x => x.1.isSome)
      && decide ((e :: es).length + ([] : List Keyword).length + (if ([] : List Keyword).isEmpty then 0 else 1) < 30)) = true := by rfl)
    (hline : (apos.endLine == pos.line) = true := by rfl) (h2 : (e :: es).any isStar = false := by rfl) : KE X T W (.Call (.Attribute o name apos) (e :: es) [] pos) (eBm ok g φ α) := fun rs => by
  have h2' := h2
  rw [List.any_cons, Bool.or_eq_false_iff] at h2'
  refine PE.imp (pe_bm pa slot hty (hm rs) (ho rs) (ha.pa rs) (noSup h1) hfew hline (star_cons h2'.1) (star_any h2'.2)) fun σ H Q h => ?_
  obtain ⟨ι, F, s, M, r, rS, p⟩ := h
  refine ⟨ι, F, s, M, r, rS, p.step fun v H1 ι1 F1 M1 x l1 r1 rv p1 => ?_⟩
  split at p1
  · rename_i hok
    refine ⟨tyo r1 rv hok, ι1, F1, s, M1, r1, rS.le l1, p1.step fun ws H2 ι2 F2 M2 ds l2 r2 rw2 p2 => ?_⟩
    cases eg : g x ds M2 with
    | none => rw [eg] at p2; exact p2.elim
    | some z =>
      obtain ⟨z, M'⟩ := z
      rw [eg] at p2
      exact ⟨ι2, F2, M2, x, ds, z, M', r2, l2 _ _ rv, rw2, eg, p2⟩
  · exact p1.elim
theorem d_bm0 {ok : Mem → D → Bool} {g : OMt} {Ty id : String} (pa : PlainAttrs Ty) (slot : Slot Ty name id) (hty : typeOf (.builtin id) = pure (.type "method_descriptor")) (hm : ∀ rs, MtR X id (RM (kx X T) rs g))
    (tyo : ∀ {ι F rs H M x v}, Rel (kx X T) ι F rs H M → Rep (kx X T) ι F x v → ok M x = true → tyV X.K Ty v H) (ho : KE X T W o φ)
    (h1 : isSup o = false := by rfl) (hline : (apos.endLine == pos.line) = true := by rfl) : KE X T W (.Call (.Attribute o name apos) [] [] pos) (eBm ok g φ aNil) := fun rs => by
  refine PE.imp (pe_bm0 pa slot hty (hm rs) (ho rs) (noSup h1) hline) fun σ H Q h => ?_
  obtain ⟨ι, F, s, M, r, rS, p⟩ := h
  refine ⟨ι, F, s, M, r, rS, p.step fun v H1 ι1 F1 M1 x l1 r1 rv p1 => ?_⟩
  split at p1
  · rename_i hok
    refine ⟨tyo r1 rv hok, ?_⟩
    unfold aNil at p1
    rw [R.bind_ok] at p1
    cases eg : g x [] M1 with
    | none => rw [eg] at p1; exact p1.elim
    | some z =>
      obtain ⟨z, M'⟩ := z
      rw [eg] at p1
      exact ⟨ι1, F1, M1, x, [], z, M', r1, rv, rfl, eg, p1⟩
  · exact p1.elim
theorem m_append : MtR X "list.append" (RM (kx X T) rs appG) := fun pins s σ H x xs v us Q I rx rxs h => by
  refine mt_append pins s σ H x xs v us Q I rx rxs ?_
  obtain ⟨ι, F, M, d, ds, z, M', r, rd, rds, e, q⟩ := h
  unfold appG at e
  split at e
  · rename_i i y
    obtain ⟨a, rfl, hi⟩ := rd
    obtain ⟨w, rfl, hw⟩ := one_of rds
    split at e
    · rename_i ys hM
      split at e
      · rename_i hl
        cases e
        obtain ⟨f0, vs, h2, h3⟩ := r.obj i _ a hM hi rfl
        refine ⟨a, vs, w, rfl, rfl, h2, by rw [RepL.length h3, ← line_eq]; exact hl, ?_⟩
        exact q ι F _ _ Le.refl (r.write hM hi rfl ⟨_, upd_same, h3.append (.one hw)⟩) rfl
      · cases e
    · cases e
  · cases e
theorem Glob {x : Str} {v : V} {u : Value} {d : D} (hm : X.mg x = some u) (rv : RelV v u) (hr : ∀ ι F, Rep (kx X T) ι F d v) (hg : Gl X x := by rfl) (hd : (x == ("__debug__" : Str)) = false := by decide) : KE X T W (.Name x pos) (eC d) := d_glob hg hm rv hd hr
theorem Append (ho : KE X T W o φ) (ha : KA X T W [e] α) (h1 : isSup o = false := by rfl) (hfew : ((backTo pos (starEach [e] X.env)).all (fun x => !x.1) && (backToKw pos (keywordEach [] X.env)).all (fun x => x.1.isSome)
      && decide (([e] : List Expr).length + ([] : List Keyword).length + (if ([] : List Keyword).isEmpty then 0 else 1) < 30)) = true := by rfl) (hline : (apos.endLine == pos.line) = true := by rfl) (h2 : [e].any isStar = false := by rfl) :
    KE X T W (.Call (.Attribute o "append" apos) [e] [] pos) (eBm isLst appG φ α) := d_bm PySem.F.plainAttrs_list PySem.F.slot_list_append PySem.F.type_list_append (fun _ => m_append) (fun r h e => ty_lst r h e) ho ha h1 hfew hline h2
end
end LD
namespace LD
open PySem PySem.Spec PyProof.Rows L2

/-! ### raise, try -/
def sRaise (c : Nat) (α : Sem1 (List D)) : SSem := fun s M => bindS (α s M) s fun ds M1 => if ds.length ≤ LINE then .er ⟨c, none⟩ s M1 else .bad
/-- which exceptions a clause takes -/
abbrev Hit := List (Nat × Bool)
def sTryAs (hit : Hit) (i : Nat) (ψ χ : SSem) : SSem := fun s M => match ψ s M with
  | .er x s1 M1 => match hit.lookup x.cls with
    | some true => match χ (s1.set i none) M1 with
      | .nx s2 M2 => .nx (s2.set i none) M2
      | .bk s2 M2 => .bk (s2.set i none) M2
      | .ct s2 M2 => .ct (s2.set i none) M2
      | .rt d M2 => .rt d M2
      | _ => .bad
    | some false => .er x s1 M1
    | none => .bad
  | r => r
def sTryOnly (hit : Hit) (ψ χ : SSem) : SSem := fun s M => match ψ s M with
  | .er x s1 M1 => match hit.lookup x.cls with
    | some true => match χ s1 M1 with
      | .er _ _ _ => .bad
      | r => r
    | some false => .er x s1 M1
    | none => .bad
  | r => r
section
variable {X : Cx} {T : Tab} {W : WX} {K : KX} {ι : List Addr} {F H : Hp} {M : Mem} {rs : List (Addr × HO)} {s : DS} {σ : L2.St} {e : Expr} {es : List Expr} {α : Sem1 (List LD.D)} {pos pos' p np : Pos} {x n : Str} {i : Nat} {body suite : List Stmt} {b₀ : Stmt} {ψ χ : SSem} {c : Value}
theorem RepS.blur {v : Option V} (h : RepS K ι F s σ) : RepS K ι F (s.set i none) (σ.set i v) :=
  ⟨by rw [List.length_set, List.length_set]; exact h.1, fun j e q => by
    by_cases hj : i = j
    · subst hj
      have hl : i < s.length := by
        have := (List.getElem?_eq_some_iff.mp q).1
        rwa [List.length_set] at this
      rw [List.getElem?_set_self hl] at q
      cases q
    · rw [List.getElem?_set_ne hj] at q
      obtain ⟨u, h1, h2⟩ := h.2 j e q
      exact ⟨u, by rw [List.getElem?_set_ne hj]; exact h1, h2⟩⟩
theorem s_raise {C : Addr} {bmB : List Value} {B newId initId : String} {ci : Nat} (F : ExcBaseFacts B newId initId bmB) (q : PySem.W.excIn X.K C bmB newId = true) (gC : X.mg x = some (.ref C)) (kC : PySem.W.keepIn X.K (.ref C) = true) (r : Raises X (.ref C))
    (hT : T.et[ci]? = some (.ref C)) (tk : Takes X W) (ha : KA X T W (e :: es) α) (hc : X.calm = true := by rfl) (hg : Gl X x := by rfl) (hdb : (x == ("__debug__" : Str)) = false := by decide) (h2 : (e :: es).any isStar = false := by rfl) :
    KS X T W (.Raise (some (.Call (.Name x p) (e :: es) [] pos')) none pos) (sRaise ci α) := ⟨fun rs => by
  have h2' := h2
  rw [List.any_cons, Bool.or_eq_false_iff] at h2'
  refine PS.imp (ps_raise hc tk (pmk_ownA F q gC kC r hg (ha.pa rs) hdb (star_cons h2'.1) (star_any h2'.2))) fun D σ H h => ?_
  obtain ⟨ι, F, s, M, r, rS, p⟩ := h
  refine ⟨ι, F, s, M, r, rS, p.step rS fun vs H1 ι1 F1 M1 ds _ l1 r1 rv p1 => ?_⟩
  split at p1
  · rename_i hl
    exact ⟨by rw [RepL.length rv, ← line_eq]; exact hl, p1 ι1 F1 H1 σ (.ref C) none Le.refl r1 (rS.le l1) ⟨hT, trivial⟩⟩
  · exact p1.elim⟩
theorem s_try_as {hit : Hit} (hs : X.stack = X.env :: X.outer) (hf : X.env.frame = some X.env.locals) (hN : X.N.Nodup) (hi : X.N[i]? = some n) (hln : X.env.kindOf n = some .local) (hc : Names X x c) (tk : Takes X W)
    (hh : ∀ j b, hit.lookup j = some b → ∃ cls, T.et[j]? = some cls ∧ PySem.W.exmOne X.K cls c = some b)
    (hb : ∀ (W : WX) (pn : List (Addr × Obj)) (xe : Value → Shared → Prop), Takes (X.tr pn xe) W → PassesOwn (model X.prog X.w) X.A X.env xe → KB (X.tr pn xe) T W body ψ)
    (hsu : ∀ (a : Addr) (oe : Obj) (pn : List (Addr × Obj)), (∃ vs, oe.data = .fields vs) → KB (X.suite a ((a, oe) :: pn)) T WN (b₀ :: suite) χ) :
    KS X T W (.Try body [.ExceptHandler (some (.Name x np)) (some n) (b₀ :: suite) pos'] [] [] pos) (sTryAs hit i ψ χ) := ⟨fun rs =>
  PS.imp (ps_try_as (tb := fun W => LS (kx X T) rs W ψ) (ts := fun _ _ _ => LS (kx X T) rs WN χ) (Wout := W) hs hf hN hi hln hc tk (fun W pn xe t ho => (hb W pn xe t ho).ps rs) fun a oe cls d pn _ hfl => (hsu a oe pn hfl).ps rs) fun D σ H h => by
    obtain ⟨ι, F, s, M, r, rS, p⟩ := h
    refine ⟨ι, F, s, M, r, rS, ?_⟩
    unfold sTryAs at p
    cases ep : ψ s M with
    | nx s' M' => rw [ep] at p; exact p
    | rt d M' => rw [ep] at p; exact p
    | bk s' M' => rw [ep] at p; exact p
    | ct s' M' => rw [ep] at p; exact p
    | bad => rw [ep] at p; exact p
    | er x s1 M1 =>
      rw [ep] at p
      intro ι1 F1 H1 σ1 cls dx l1 r1 rs1 rx
      simp only at p
      cases eh : hit.lookup x.cls with
      | none => rw [eh] at p; exact p.elim
      | some b =>
        rw [eh] at p
        obtain ⟨cls', h1, h2⟩ := hh _ _ eh
        have ec : cls' = cls := Option.some.inj (h1.symm.trans rx.1)
        subst ec
        refine ⟨b, h2, fun hb a ha => ?_, fun hb => ?_⟩
        · subst hb
          simp only at p
          refine ⟨ι1, F1, s1.set i none, M1, r1, rs1.blur, ?_⟩
          cases ex : χ (s1.set i none) M1 with
          | nx s' M' => rw [ex] at p; exact fun ι2 F2 H2 σ2 l2 r2 rs2 => p ι2 F2 H2 _ (l1.trans l2) r2 rs2.unset
          | bk s' M' => rw [ex] at p; exact fun ι2 F2 H2 σ2 l2 r2 rs2 => p ι2 F2 H2 _ (l1.trans l2) r2 rs2.unset
          | ct s' M' => rw [ex] at p; exact fun ι2 F2 H2 σ2 l2 r2 rs2 => p ι2 F2 H2 _ (l1.trans l2) r2 rs2.unset
          | rt d M' => rw [ex] at p; exact fun ι2 F2 H2 v l2 r2 rv => p ι2 F2 H2 v (l1.trans l2) r2 rv
          | er y s' M' => rw [ex] at p; exact p.elim
          | bad => rw [ex] at p; exact p.elim
        · subst hb
          simp only at p
          exact p ι1 F1 H1 σ1 _ dx l1 r1 rs1 rx⟩
theorem s_try_only {hit : Hit} (hs : X.stack = X.env :: X.outer) (hf : X.env.frame = some X.env.locals) (hc : Names X x c) (tk : Takes X W)
    (hh : ∀ j b, hit.lookup j = some b → ∃ cls, T.et[j]? = some cls ∧ PySem.W.exmOne X.K cls c = some b)
    (hb : ∀ (W : WX) (pn : List (Addr × Obj)) (xe : Value → Shared → Prop), Takes (X.tr pn xe) W → PassesOwn (model X.prog X.w) X.A X.env xe → KB (X.tr pn xe) T W body ψ)
    (hsu : ∀ (a : Addr) (oe : Obj) (pn : List (Addr × Obj)), (∃ vs, oe.data = .fields vs) → KB (X.suite a ((a, oe) :: pn)) T WN (b₀ :: suite) χ) :
    KS X T W (.Try body [.ExceptHandler (some (.Name x np)) none (b₀ :: suite) pos'] [] [] pos) (sTryOnly hit ψ χ) := ⟨fun rs =>
  PS.imp (ps_try_only (tb := fun W => LS (kx X T) rs W ψ) (ts := fun _ _ _ => LS (kx X T) rs WN χ) (Wout := W) hs hf hc tk (fun W pn xe t ho => (hb W pn xe t ho).ps rs) fun a oe cls d pn _ hfl => (hsu a oe pn hfl).ps rs) fun D σ H h => by
    obtain ⟨ι, F, s, M, r, rS, p⟩ := h
    refine ⟨ι, F, s, M, r, rS, ?_⟩
    unfold sTryOnly at p
    cases ep : ψ s M with
    | nx s' M' => rw [ep] at p; exact p
    | rt d M' => rw [ep] at p; exact p
    | bk s' M' => rw [ep] at p; exact p
    | ct s' M' => rw [ep] at p; exact p
    | bad => rw [ep] at p; exact p
    | er x s1 M1 =>
      rw [ep] at p
      intro ι1 F1 H1 σ1 cls dx l1 r1 rs1 rx
      simp only at p
      cases eh : hit.lookup x.cls with
      | none => rw [eh] at p; exact p.elim
      | some b =>
        rw [eh] at p
        obtain ⟨cls', h1, h2⟩ := hh _ _ eh
        have ec : cls' = cls := Option.some.inj (h1.symm.trans rx.1)
        subst ec
        refine ⟨b, h2, fun hb a ha => ?_, fun hb => ?_⟩
        · subst hb
          simp only at p
          refine ⟨ι1, F1, s1, M1, r1, rs1, ?_⟩
          cases ex : χ s1 M1 with
          | nx s' M' => rw [ex] at p; exact fun ι2 F2 H2 σ2 l2 r2 rs2 => p ι2 F2 H2 _ (l1.trans l2) r2 rs2
          | bk s' M' => rw [ex] at p; exact fun ι2 F2 H2 σ2 l2 r2 rs2 => p ι2 F2 H2 _ (l1.trans l2) r2 rs2
          | ct s' M' => rw [ex] at p; exact fun ι2 F2 H2 σ2 l2 r2 rs2 => p ι2 F2 H2 _ (l1.trans l2) r2 rs2
          | rt d M' => rw [ex] at p; exact fun ι2 F2 H2 v l2 r2 rv => p ι2 F2 H2 v (l1.trans l2) r2 rv
          | er y s' M' => rw [ex] at p; exact p.elim
          | bad => rw [ex] at p; exact p.elim
        · subst hb
          simp only at p
          exact p ι1 F1 H1 σ1 _ dx l1 r1 rs1 rx⟩
end
end LD
namespace LD
open PySem PySem.Spec PyProof.Rows L2

/-! ### try .. except X as e, where the suite asks isinstance(e, C) -/
def blurS (i : Nat) : RS → RS
  | .nx s M => .nx (s.set i none) M
  | .bk s M => .bk (s.set i none) M
  | .ct s M => .ct (s.set i none) M
  | .rt d M => .rt d M
  | _ => .bad
def sTryE (j i : Nat) (ψ : SSem) (χ : Addr → SSem) : SSem := fun s M => match ψ s M with
  | .er x s1 M1 => if x.cls = j ∧ x.fs.isNone = true then blurS i (χ 0 (s1.set i (some (.glb 0))) M1) else .bad
  | r => r
def eIsE (i : Nat) (a : Addr) (b : Bool) : Sem1 D := fun s M => match s[i]? with
  | some (some (.glb a')) => if a' = a then .ok (.bl b) M else .bad
  | _ => .bad
section
variable {X : Cx} {T : Tab} {W : WX} {pos pos' p np p2 p3 : Pos} {x n y z : Str} {i j : Nat} {body suite : List Stmt} {b₀ : Stmt} {ψ : SSem} {χ : Addr → SSem} {C : Addr}
theorem s_try_e (hs : X.stack = X.env :: X.outer) (hf : X.env.frame = some X.env.locals) (hN : X.N.Nodup) (hi : X.N[i]? = some n) (hln : X.env.kindOf n = some .local) (hc : Names X x (.ref C)) (tk : Takes X W)
    (D0 : Addr) (hj : T.et[j]? = some (.ref D0)) (hx : PySem.W.exmOne X.K (.ref D0) (.ref C) = some true)
    (hb : ∀ (W : WX) (pn : List (Addr × Obj)) (xe : Value → Shared → Prop), Takes (X.tr pn xe) W → PassesOwn (model X.prog X.w) X.A X.env xe → KB (X.tr pn xe) T W body ψ)
    (hsu : ∀ (a : Addr) (oe : Obj) (pn : List (Addr × Obj)), Zc (.ref D0) none oe → (∃ vs, oe.data = .fields vs) → KB (X.suite a ((a, oe) :: pn)) T WN (b₀ :: suite) (χ a))
    (hχ : ∀ (a : Addr) (s : DS) (M : Mem), blurS i (χ a (s.set i (some (.glb a))) M) = blurS i (χ 0 (s.set i (some (.glb 0))) M)) :
    KS X T W (.Try body [.ExceptHandler (some (.Name x np)) (some n) (b₀ :: suite) pos'] [] [] pos) (sTryE j i ψ χ) := ⟨fun rs =>
  PS.imp (ps_try_as (tb := fun W => LS (kx X T) rs W ψ) (ts := fun a cls d D σ H => cls = .ref D0 ∧ d = none ∧ LS (kx X T) rs WN (χ a) D σ H) (Wout := W) hs hf hN hi hln hc tk (fun W pn xe t ho => (hb W pn xe t ho).ps rs)
    fun a oe cls d pn hz hfl => ⟨fun pins s σ H Q I q => by
      obtain ⟨rfl, rfl, q⟩ := q
      exact ((hsu a oe pn hz hfl).ps rs).run pins s σ H Q I q⟩) fun D σ H h => by
    obtain ⟨ι, F, s, M, r, rS, p⟩ := h
    refine ⟨ι, F, s, M, r, rS, ?_⟩
    unfold sTryE at p
    cases ep : ψ s M with
    | nx s' M' => rw [ep] at p; exact p
    | rt d M' => rw [ep] at p; exact p
    | bk s' M' => rw [ep] at p; exact p
    | ct s' M' => rw [ep] at p; exact p
    | bad => rw [ep] at p; exact p
    | er x s1 M1 =>
      rw [ep] at p
      intro ι1 F1 H1 σ1 cls dx l1 r1 rs1 rx
      simp only at p
      by_cases hcl : x.cls = j ∧ x.fs.isNone = true
      · rw [if_pos hcl] at p
        have ec : cls = .ref D0 := by
          have := rx.1
          rw [hcl.1, hj] at this
          exact (Option.some.inj this).symm
        have ed : dx = none := by
          have h2 := rx.2
          have h3 : x.fs = none := Option.isNone_iff_eq_none.mp hcl.2
          rw [h3] at h2
          cases dx with
          | none => rfl
          | some d => exact h2.elim
        subst ec; subst ed
        refine ⟨true, hx, fun _ a ha => ⟨rfl, rfl, ι1, F1, s1.set i (some (.glb a)), M1, r1, rs1.set rfl, ?_⟩, fun h => by cases h⟩
        rw [← hχ a] at p
        cases ex : χ a (s1.set i (some (.glb a))) M1 with
        | nx s' M' => rw [ex] at p; exact fun ι2 F2 H2 σ2 l2 r2 rs2 => p ι2 F2 H2 _ (l1.trans l2) r2 rs2.unset
        | bk s' M' => rw [ex] at p; exact fun ι2 F2 H2 σ2 l2 r2 rs2 => p ι2 F2 H2 _ (l1.trans l2) r2 rs2.unset
        | ct s' M' => rw [ex] at p; exact fun ι2 F2 H2 σ2 l2 r2 rs2 => p ι2 F2 H2 _ (l1.trans l2) r2 rs2.unset
        | rt d M' => rw [ex] at p; exact fun ι2 F2 H2 v l2 r2 rv => p ι2 F2 H2 v (l1.trans l2) r2 rv
        | er y s' M' => rw [ex] at p; exact p.elim
        | bad => rw [ex] at p; exact p.elim
      · rw [if_neg hcl] at p
        exact p.elim⟩
/-- isinstance(e, C) in the suite -/
theorem d_isE {a D0 B : Addr} {oe : Obj} {pn : List (Addr × Obj)} {b : Bool} (ec : ExcC X.K D0) (hz : Zc (.ref D0) none oe) (hfl : ∃ vs, oe.data = .fields vs) (hi : X.N[i]? = some y) (hln : Vis X.env.scope y) (gB : X.mg z = some (.ref B)) (hk : PySem.W.kitOne X.K (.ref D0) (.ref B) = some b) (hm : X.mg "isinstance" = none)
    (hg : Gl X "isinstance" := by rfl) (hgz : Gl X z := by rfl) (hdb : (z == ("__debug__" : Str)) = false := by decide) (hdy : (y == ("__debug__" : Str)) = false := by decide) (hcy : (y == ("__classdict__" : Str)) = false := by decide) :
    KE (X.suite a ((a, oe) :: pn)) T WN (.Call (.Name "isinstance" p) [.Name y p2, .Name z p3] [] pos) (eIsE i a b) := fun rs =>
  PE.imp (pe_callB (X := X.suite a ((a, oe) :: pn)) (call_isE ec hz hfl) hg hm (by rfl) (pa_cons (pe_var (i := i) hi hln hdy hcy) (pa_cons (pe_glob (v := .ref B) hgz gB rfl hdb) pa_nil (by rfl)) (by rfl)) (by decide) (by decide) (by rfl) (by rfl)) fun σ H Q h => by
    obtain ⟨ι, F, s, M, r, rS, q⟩ := h
    unfold eIsE at q
    split at q
    · rename_i a' e
      split at q
      · rename_i ea
        subst ea
        obtain ⟨v, h1, h2⟩ := rS.2 _ _ e
        cases h2
        exact ⟨_, h1, V.ref B, Value.ref B, b, rfl, fun u hu => hu, hk, q.fin r rfl⟩
      · exact q.elim
    · exact q.elim
end
end LD
namespace LD
open PySem PySem.Spec PyProof.Rows L2

/-! ### texts: upper; a class's tuple of texts: index -/
def upperG : OMt := fun x ds M => match x, ds with
  | .str a, [] => if a.length ≤ 5592405 then some (.str (Txt.upper a), M) else none
  | _, _ => none
def strsOf : List D → Option (List Str)
  | [] => some []
  | .str x :: r => (strsOf r).map fun ys => x :: ys
  | _ => none
def idxS (z : Str) : List Str → Option Nat
  | [] => none
  | y :: ys => if y = z then some 0 else (idxS z ys).map (· + 1)
def eCIdx (ys : List Str) (α : Sem1 (List D)) : Sem1 D := fun s M => (α s M).bind fun ds M1 => match ds with
  | [.str z] => match idxS z ys with
    | some j => .ok (.int (j : Nat)) M1
    | none => .bad
  | _ => .bad
theorem idxS_at {z : Str} : ∀ {ys : List Str} {j : Nat}, idxS z ys = some j → ys[j]? = some z ∧ ∀ m, m < j → ys[m]? ≠ some z
  | [], j, h => by cases h
  | y :: ys, j, h => by
    unfold idxS at h
    split at h
    · rename_i e
      cases h
      exact ⟨by rw [e] <;> rfl, fun m hm => absurd hm (Nat.not_lt_zero _)⟩
    · rename_i hn
      obtain ⟨k, h1, rfl⟩ := Option.map_eq_some_iff.mp h
      obtain ⟨a1, a2⟩ := idxS_at h1
      refine ⟨by simpa using a1, fun m hm => ?_⟩
      cases m with
      | zero => intro q; exact hn (by simpa using q)
      | succ m => intro q; exact a2 m (by omega) (by simpa using q)
section
variable {X : Cx} {T : Tab} {W : WX} {K : KX} {rs : List (Addr × HO)} {o e : Expr} {φ : Sem1 D} {α : Sem1 (List D)} {apos pos p2 : Pos} {x m : Str} {C : Addr}
theorem m_upper : MtR X "str.upper" (RM (kx X T) rs upperG) := fun pins s σ H x xs v us Q I rx rxs h => by
  refine mt_upper pins s σ H x xs v us Q I rx rxs ?_
  obtain ⟨ι, F, M, d, ds, z, M', r, rd, rds, e, q⟩ := h
  unfold upperG at e
  split at e
  · rename_i a
    cases rd
    have hx : xs = [] := rds
    split at e
    · rename_i hl
      cases e
      exact ⟨a, rfl, hx, hl, q ι F H _ Le.refl r rfl⟩
    · cases e
  · cases e
theorem Upper (ho : KE X T W o φ) (h1 : isSup o = false := by rfl) (hline : (apos.endLine == pos.line) = true := by rfl) : KE X T W (.Call (.Attribute o "upper" apos) [] [] pos) (eBm isStrD upperG φ aNil) :=
  d_bm0 PySem.F.plainAttrs_str PySem.F.slot_str_upper PySem.F.type_str_upper (fun _ => m_upper) (fun r h e => ty_str r h e) ho h1 hline
theorem CIdx {mc : Value} {a : Addr} {ys : List Str} {p3 : Pos} (hm : X.mg x = some (.ref C)) (cr : ClX.CRead X.K C mc) (cv : ClX.CVal X.K C mc m (.ref a) (.ref a)) (hk : ∃ ob, X.K.lookup a = some ob ∧ ob.cls = .type "tuple" ∧ ob.dict = none) (hq : ∀ H, SqT X.K H a (ys.map V.str)) (ha : KA X T W [e] α)
    (hg : Gl X x := by rfl) (hdb : (x == ("__debug__" : Str)) = false := by decide) (hfew : ((backTo pos (starEach [e] X.env)).all (fun x => !x.1) && (backToKw pos (keywordEach [] X.env)).all (fun x => x.1.isSome)
      && decide (([e] : List Expr).length + ([] : List Keyword).length + (if ([] : List Keyword).isEmpty then 0 else 1) < 30)) = true := by rfl) (hline : (apos.endLine == pos.line) = true := by rfl) (h2 : [e].any isStar = false := by rfl) :
    KE X T W (.Call (.Attribute (.Attribute (.Name x p2) m p3) "index" apos) [e] [] pos) (eCIdx ys α) := fun rs => by
  have h2' := h2
  rw [List.any_cons, Bool.or_eq_false_iff] at h2'
  refine PE.imp (pe_bm PySem.F.plainAttrs_tuple PySem.F.slot_tuple_index PySem.F.type_tuple_index mt_tup_index (ClX.pe_cval (pe_glob (v := .ref C) hg hm rfl hdb) (noSup rfl)) (ha.pa rs) (noSup rfl) hfew hline (star_cons h2'.1) (star_any h2'.2)) fun σ H Q h => ?_
  obtain ⟨ι, F, s, M, r, rS, p⟩ := h
  refine ⟨C, mc, .ref a, .ref a, rfl, cr, cv, .inr (.inl ⟨rfl, hk⟩), ι, F, s, M, r, rS, p.step fun vs H1 ι1 F1 M1 ds l1 r1 rv p1 => ?_⟩
  split at p1
  · rename_i z
    split at p1
    · rename_i j hj
      obtain ⟨v, rfl, hv⟩ := one_of rv
      cases hv
      obtain ⟨a1, a2⟩ := idxS_at hj
      exact ⟨a, ys, z, j, rfl, rfl, hq H1, a1, a2, p1.fin r1 rfl⟩
    · exact p1.elim
  · exact p1.elim
end

theorem kit_of_sub {K : PySem.W.Frag} {D C : Addr} {b : Bool} (hd : PySem.W.hasDictIn K C = true) (ht : PySem.W.typeIn K (.ref C) = some (.type "type")) (h4 : PySem.W.subIn K (.ref D) (.ref C) = some b) (h5 : PySem.W.subIn K (.ref D) (.ref D) = some true) : PySem.W.kitOne K (.ref D) (.ref C) = some b := by
  obtain ⟨cd, hc, _⟩ := PySem.W.any_some hd
  have e2 : ((PySem.W.clsIn K C).isSome && PySem.W.typeIn K (.ref C) == some (.type "type")) = true := by rw [hc, ht] <;> rfl
  unfold PySem.W.kitOne PySem.W.kitCls
  by_cases h : (Value.ref D == Value.ref C) = true
  · rw [if_pos h]
    have e : D = C := Value.ref.inj (beq_iff_eq.mp h)
    subst e
    rw [h4] at h5
    exact h5.symm
  · rw [if_neg h]
    simp only
    rw [if_pos e2]
    exact h4
end LD
namespace LD
open PySem PySem.Spec PyProof.Rows L2

/-! ### own __len__ -/
def LenD (P : Program) (w : World) (K : PySem.W.Frag) (mg : Str → Option Value) (base : Heap) (T : Tab) (k c : Nat) (φ : FnD) : Prop :=
  ∃ C ly g, T.ct[c]? = some (C, ly) ∧ PySem.W.findIn K (.ref C) "__len__" = some (some (.ref g)) ∧ PySem.W.isFn K (.ref g) = true ∧ Callee P w K mg base T k g 1 [] φ
def lenO (tbl : List (Nat × FnD)) : OL := fun ds M => match ds with
  | [.ref i] => match M[i]? with
    | some (.ins c _) => match tbl.lookup c with
      | some φ => match φ [.ref i] M with
        | .ok (.int n) M' => if 0 ≤ n ∧ n < 2 ^ 63 then some (.int n, M') else none
        | _ => none
      | none => none
    | _ => lenC ds M
  | _ => lenC ds M
section
variable {X : Cx} {T : Tab} {W : WX} {rs : List (Addr × HO)}
theorem c_lenO {k k' : Nat} {tbl : List (Nat × FnD)} (ht : ∀ c φ, tbl.lookup c = some φ → LenD X.prog X.w X.K X.mg X.base T k' c φ) (hr : Room k X.A) (hl : k' + 1 ≤ k := by first | decide | omega) : CallR X (.builtin "len") (RC (kx X T) rs (lenO tbl)) := by
  intro pins s σ H vs us Q I rv h
  obtain ⟨ι, F, M, ds, z, M', r, rd, e, q⟩ := h
  have plain : lenC ds M = some (z, M') → wpAny (model X.prog X.w) X.A (call (.builtin "len") us) (EP X pins σ Q) X.xe s := fun e => c_len pins s σ H vs us Q I rv ⟨ι, F, M, ds, z, M', r, rd, e, q⟩
  unfold lenO at e
  split at e
  · rename_i i
    split at e
    · rename_i c fs hM
      split at e
      · rename_i φ hφ
        split at e
        · rename_i n M2 he
          split at e
          · rename_i hn
            cases e
            obtain ⟨v, rfl, a, rfl, hi⟩ := one_of rd
            obtain ⟨u, rfl, ru⟩ := vals1 rv
            cases ru
            obtain ⟨C, ly, g, hc, hs, hf, ce⟩ := ht c φ hφ
            obtain ⟨_, C', ly', dx, ws, hc', hH, _, _, _, _⟩ := r.obj i _ a hM hi rfl
            have e2 : (C, ly) = (C', ly') := Option.some.inj (hc.symm.trans hc')
            cases e2
            obtain ⟨mA, J, _⟩ := ins_get I.hok hH
            obtain ⟨od, J, _⟩ := J.look
            have hr1 : Room k' X.A.in1 := (hr.mono hl).in1
            refine Calls.call_function_entry PySem.kind_len PySem.plain_len PySem.entry_len (PySem.args_len1 _) ?_
            unfold Builtin.«len»
            refine wpAny_bind (m := oneArg "len" _) (wpAny_pure ?_)
            refine wpAny_bind (m := callSpecial? (.ref a) (PySem.Str.ofString "__len__")) (PySem.W.special_fn (name := "__len__") (args := []) I.kIn J hs (beq_iff_eq.mp hf) (wpAny_call (codeAny_mono (ce.run rs X.A.in1 X.stack s H [.ref a] [] [.ref a] [] (fun v H' => v = .int n ∧ ∃ ι' F', Le (kx X T) ι F ι' F' ∧ Rel (kx X T) ι' F' rs H' M') (fun _ _ _ => False) hr1 I.env0.in1 rfl rfl (.cons rfl .nil) .nil
              ⟨ι, F, [.ref i], M, r, .one ⟨a, rfl, hi⟩, by rw [he]; exact fun ι' F' H' v l r' rv => ⟨rv, ι', F', l, r'⟩⟩) fun r s' hq => ?_)))
            cases r with
            | error er =>
              obtain ⟨a, B, H', cls, d, _, _, _, _, _, _, _, z⟩ := hq
              exact z.elim
            | ok fl =>
              cases fl with
              | next => exact False.elim hq
              | brk => exact False.elim hq
              | cont => exact False.elim hq
              | ret w =>
                obtain ⟨z, H', I', rz, ez, ι', F', l, r'⟩ := I.after hq
                subst ez
                obtain ⟨t, rfl⟩ := rz
                refine wpAny_bind (wpAny_holding (wpAny_pure ?_))
                refine wpAny_bind (wpAny_letGo ?_)
                show wpAny _ _ (if (n : Int) < 0 then _ else _) _ _ _
                rw [if_neg (by omega)]
                show wpAny _ _ (if (n : Int) ≥ 2 ^ 63 then _ else _) _ _ _
                rw [if_neg (by omega)]
                exact wpAny_bind (wpAny_mkInt (wpAny_pure ⟨_, rfl, ⟨.int n, H', I'.tok _, ⟨_, rfl⟩, q ι' F' H' _ l r' rfl⟩⟩))
          · cases e
        · cases e
      · cases e
    · exact plain e
  · exact plain e
end

end LD
namespace LD
open PySem PySem.Spec PyProof.Rows L2

/-! ### repr -/
def mapO {α β : Type} (f : α → Option β) : List α → Option (List β)
  | [] => some []
  | a :: r => (f a).bind fun b => (mapO f r).map fun bs => b :: bs
def keyP : Key → PyData
  | .inl i => .int i
  | .inr x => .str x
def pyR : Nat → Mem → D → Option PyData
  | 0, _, _ => none
  | n + 1, M, d => match d with
    | .non => some .none
    | .bl b => some (.bool b)
    | .int i => some (.int i)
    | .str x => some (.str x)
    | .tup xs => (mapO (pyR n M) xs).map .tuple
    | d => match dcOf M d with
      | some kvs => (mapO (pyR n M) (kvs.map (·.2))).map fun ps => .dict ((kvs.map fun kv => keyP kv.1).zip ps)
      | none => match lsOf M d with
        | some xs => (mapO (pyR n M) xs).map .list
        | none => none
def reprC : OL := fun ds M => match ds with
  | [d] => match pyR 12 M d with
    | some p => if p.showable && decide (p.depth ≤ 60) && decide (p.shown.length ≤ LINE) then some (.str p.shown, M) else none
    | none => none
  | _ => none
/-- what is known of a value that may be shown -/
structure Rpr (prog : Program) (w : World) (h : Heap) (u : Value) (p : PyData) : Prop where
  rd : ∃ as, Reads h u p as
  rp : ∃ bs, ReadAtMost h p.depth bs ∧ ReprK prog w bs h p.depth u p.shown
  top : ∀ a, u = .ref a → ∃ T idr, ShowsBy prog w h a p T idr
theorem mapO_len {α β : Type} {f : α → Option β} : ∀ {xs : List α} {ys : List β}, mapO f xs = some ys → ys.length = xs.length
  | [], ys, e => by cases e; rfl
  | x :: xs, ys, e => by
    obtain ⟨b, _, e2⟩ := Option.bind_eq_some_iff.mp e
    obtain ⟨bs, e3, rfl⟩ := Option.map_eq_some_iff.mp e2
    rw [List.length_cons, List.length_cons, mapO_len e3]
section
variable {X : Cx} {T : Tab} {ι : List Addr} {F H : Hp} {M : Mem} {rs : List (Addr × HO)} {pins : List (Addr × Obj)} {σ : L2.St} {s : Shared}
theorem rpr_all {h : Heap} {prog : Program} {w : World} {f : D → Option PyData} (ih : ∀ d v u p, f d = some p → Rep (kx X T) ι F d v → RelV v u → p.showable = true → p.shown.length ≤ sizeLine → Rpr prog w h u p) :
    ∀ (ds : List D) (vs : List V) (us : List Value) (ps : List PyData), mapO f ds = some ps → RepL (kx X T) ι F ds vs → Vals vs us → PyData.showableAll ps = true → (∀ t ∈ PyData.shownAll ps, t.length ≤ sizeLine) →
      (∃ as, ReadsAll h us ps as) ∧ ∃ bs, ReadAtMost h (PyData.depthAll ps) bs ∧ ReprAllK prog w bs h (PyData.depthAll ps) us (PyData.shownAll ps)
  | [], vs, us, ps, e, r, rv, hs, hz => by
    cases e
    have e : vs = [] := r
    subst e
    cases rv
    exact ⟨⟨[], .nil⟩, [], (fun _ h => nomatch h), by simp only [PyData.shownAll]; exact .nil⟩
  | d :: ds, vs, us, ps, e, r, rv, hs, hz => by
    obtain ⟨p, e1, e2⟩ := Option.bind_eq_some_iff.mp e
    obtain ⟨ps', e3, rfl⟩ := Option.map_eq_some_iff.mp e2
    obtain ⟨v, vr, rfl, r1, r2⟩ := r
    cases rv with
    | cons rv1 rv2 =>
      have hs' : p.showable = true ∧ PyData.showableAll ps' = true := by simpa [PyData.showableAll] using hs
      obtain ⟨⟨a1, x1⟩, ⟨b1, hb1, k1⟩, _⟩ := ih d v _ p e1 r1 rv1 hs'.1 (hz _ (by simp only [PyData.shownAll]; exact List.mem_cons_self ..))
      obtain ⟨⟨a2, x2⟩, b2, hb2, k2⟩ := rpr_all ih ds vr _ ps' e3 r2 rv2 hs'.2 (fun t ht => hz t (by simp only [PyData.shownAll]; exact List.mem_cons_of_mem _ ht))
      refine ⟨⟨_, .cons x1 x2⟩, b1 ++ b2, ?_, ?_⟩
      · simp only [PyData.depthAll]
        exact (hb1.mono (Nat.le_max_left _ _)).append (hb2.mono (Nat.le_max_right _ _))
      · simp only [PyData.depthAll, PyData.shownAll]
        exact .cons ((k1.more fun b hb => List.mem_append_left _ hb).level_le (Nat.le_max_left _ _)) (k2.more_le (fun b hb => List.mem_append_right _ hb) (Nat.le_max_right _ _))
theorem rpr_list {prog : Program} {w : World} {h : Heap} {a : Addr} {o : Obj} {its : List Value} {n : Nat} {ps : List PyData} (ho : h.get? a = some o) (hc : o.cls = .type "list") (hd : o.data = .seq its.toArray n) (hz : (listText (PyData.shownAll ps)).length ≤ sizeLine)
    (x : (∃ as, ReadsAll h its ps as) ∧ ∃ bs, ReadAtMost h (PyData.depthAll ps) bs ∧ ReprAllK prog w bs h (PyData.depthAll ps) its (PyData.shownAll ps)) : Rpr prog w h (.ref a) (.list ps) := by
  obtain ⟨⟨as, x1⟩, bs, hb, hk⟩ := x
  have r : Reads h (.ref a) (.list ps) (a :: as) := .list ho hc hd (by simpa using x1)
  have hna : a ∉ bs := not_mem_of_deeper r (by simp only [PyData.depth]; omega) hb
  refine ⟨⟨_, r⟩, ⟨a :: bs, ReadAtMost.cons r (by simp only [PyData.depth]; omega) hb, ?_⟩, fun b e => ?_⟩
  · simp only [PyData.depth, PyData.shown]
    cases its with
    | nil =>
      cases x1
      simp only [PyData.shownAll, listText_nil]
      exact ReprK.listEmpty ho hc hd
    | cons x l => exact ReprK.list ho hc hd hna (by simpa using hk.length_eq) (fun i y e => hk.item i y (by simpa using e))
  · cases e
    refine ⟨"list", "list.__repr__", F.slot_list_repr.toG, F.slot_list_str, F.slot_list_format, fun s hk0 => ⟨o, hk0 _ _ ho, hc⟩, fun A E s Q hg hu hk0 hQ => ?_⟩
    simp only [PyData.depth] at hu
    simp only [PyData.shown] at hQ
    cases its with
    | nil =>
      cases x1
      simp only [PyData.shownAll, listText_nil] at hQ
      exact call_list_repr_empty ⟨o, hk0 _ _ ho, hc⟩ (hk0 _ _ ho) hd (hQ s.heap _ _ fun _ _ e => e)
    | cons x l => exact call_list_reprK ho hc hd hna (by simpa using hk.length_eq) (fun i y e => hk.item i y (by simpa using e)) hg (fun b _ => Clear.nil b) hu hk0 hQ hz
theorem rpr_tuple {prog : Program} {w : World} {h : Heap} {a : Addr} {o : Obj} {its : List Value} {n : Nat} {ps : List PyData} (ho : h.get? a = some o) (hc : o.cls = .type "tuple") (hd : o.data = .seq its.toArray n) (hz : (tupleText (PyData.shownAll ps)).length ≤ sizeLine)
    (x : (∃ as, ReadsAll h its ps as) ∧ ∃ bs, ReadAtMost h (PyData.depthAll ps) bs ∧ ReprAllK prog w bs h (PyData.depthAll ps) its (PyData.shownAll ps)) : Rpr prog w h (.ref a) (.tuple ps) := by
  obtain ⟨⟨as, x1⟩, bs, hb, hk⟩ := x
  have r : Reads h (.ref a) (.tuple ps) as := .tuple ho hc hd (by simpa using x1)
  have hna : a ∉ bs := not_mem_of_deeper r (by simp only [PyData.depth]; omega) hb
  have hk' : ReprAllK prog w bs h (PyData.depthAll ps) its.toArray.toList (PyData.shownAll ps) := by simpa using hk
  refine ⟨⟨_, r⟩, ⟨a :: bs, ReadAtMost.cons r (by simp only [PyData.depth]; omega) hb, ?_⟩, fun b e => ?_⟩
  · simp only [PyData.depth, PyData.shown]
    exact ReprK.tuple ho hc hd hna hk'
  · cases e
    refine ⟨"tuple", "tuple.__repr__", F.slot_tuple_repr, F.slot_tuple_str, F.slot_tuple_format, fun s hk0 => ⟨o, hk0 _ _ ho, hc⟩, fun A E s Q hg hu hk0 hQ => ?_⟩
    simp only [PyData.depth] at hu
    simp only [PyData.shown] at hQ
    exact call_tuple_reprK ho hc hd hna hk' hg (fun b _ => Clear.nil b) hu hk0 hQ hz
theorem rpr_dict {prog : Program} {w : World} {h : Heap} {a : Addr} {o : Obj} {es : Array DictEntry} {n : Nat} {kvs : List (PyData × PyData)} (ho : h.get? a = some o) (hc : o.cls = .type "dict") (hd : o.data = .dict es n) (hsys : (a == sysModules) = false)
    (hz : (dictText (PyData.shownKv kvs)).length ≤ sizeLine)
    (x : (∃ as, ReadsAll h (es.toList.map (·.key)) (kvs.map (·.1)) as) ∧ ∃ bs, ReadAtMost h (PyData.depthAll (kvs.map (·.1))) bs ∧ ReprAllK prog w bs h (PyData.depthAll (kvs.map (·.1))) (es.toList.map (·.key)) (PyData.shownAll (kvs.map (·.1))))
    (y : (∃ as, ReadsAll h (es.toList.map (·.val)) (kvs.map (·.2)) as) ∧ ∃ bs, ReadAtMost h (PyData.depthAll (kvs.map (·.2))) bs ∧ ReprAllK prog w bs h (PyData.depthAll (kvs.map (·.2))) (es.toList.map (·.val)) (PyData.shownAll (kvs.map (·.2)))) : Rpr prog w h (.ref a) (.dict kvs) := by
  obtain ⟨⟨as₁, h4⟩, b1, hb1, k1⟩ := x
  obtain ⟨⟨bs₁, h5⟩, b2, hb2, k2⟩ := y
  have r : Reads h (.ref a) (.dict kvs) _ := .dict ho hc hd h4 h5
  have hb : ReadAtMost h (PyData.depthKv kvs) (b1 ++ b2) := (hb1.mono (PyData.depthAll_keys_le kvs)).append (hb2.mono (PyData.depthAll_vals_le kvs))
  have hna : a ∉ b1 ++ b2 := not_mem_of_deeper r (by simp only [PyData.depth]; omega) hb
  have hE := ReprEntriesK.of_two es.toList _ _ (k1.more_le (fun b hb => List.mem_append_left b2 hb) (PyData.depthAll_keys_le kvs)) (k2.more_le (fun b hb => List.mem_append_right b1 hb) (PyData.depthAll_vals_le kvs))
  refine ⟨⟨_, r⟩, ⟨a :: (b1 ++ b2), ReadAtMost.cons r (by simp only [PyData.depth]; omega) hb, ?_⟩, fun b e => ?_⟩
  · simp only [PyData.depth, PyData.shown, PyData.shownKv_eq]
    exact ReprK.dict ho hc hd hsys hna hE
  · cases e
    refine ⟨"dict", "dict.__repr__", F.slot_dict_repr, F.slot_dict_str, F.slot_dict_format, fun s hk0 => ⟨o, hk0 _ _ ho, hc⟩, fun A E s Q hg hu hk0 hQ => ?_⟩
    simp only [PyData.depth] at hu
    simp only [PyData.shown, PyData.shownKv_eq] at hQ
    exact call_dict_reprK ho hc hd hsys hna hE hg (fun b _ => Clear.nil b) hu hk0 hQ (by rw [← PyData.shownKv_eq]; exact hz)
def keyDD : Key → D
  | .inl i => .int i
  | .inr x => .str x
theorem kv_vals {P : Program} {w : World} : ∀ {kvs : List (Key × V)} {vs : List (Key × Value)} {es : List DictEntry}, KV kvs vs → Pairs (mixKind P w) es vs → Vals (kvs.map fun kv => kV kv.1) (es.map (·.key)) ∧ Vals (kvs.map (·.2)) (es.map (·.val))
  | _, _, _, .nil, .nil => ⟨.nil, .nil⟩
  | _, _, _, .cons e r, .cons h1 h2 h3 => by
    obtain ⟨i1, i2⟩ := kv_vals r h3
    refine ⟨.cons ?_ i1, .cons ?_ i2⟩
    · have := relV_key h1
      show L2.RelV (kV _) _
      rw [e.1]
      exact this
    · show L2.RelV _ (DictEntry.val _)
      rw [h2]
      exact e.2
theorem keys_rep : ∀ (ks : List Key), RepL (kx X T) ι F (ks.map keyDD) (ks.map kV)
  | [] => rfl
  | .inl i :: ks => ⟨_, _, rfl, rfl, keys_rep ks⟩
  | .inr i :: ks => ⟨_, _, rfl, rfl, keys_rep ks⟩
def pyF (d : D) : Option PyData := if isF d then pyR 1 [] d else none
theorem keys_py : ∀ (ks : List Key), mapO pyF (ks.map keyDD) = some (ks.map keyP)
  | [] => rfl
  | .inl i :: ks => by
    show ((some (PyData.int i)).bind fun b => (mapO pyF (ks.map keyDD)).map fun bs => b :: bs) = _
    rw [keys_py ks] <;> rfl
  | .inr i :: ks => by
    show ((some (PyData.str i)).bind fun b => (mapO pyF (ks.map keyDD)).map fun bs => b :: bs) = _
    rw [keys_py ks] <;> rfl
theorem rpr_flat {prog : Program} {w : World} {h : Heap} {d : D} {v : V} {u : Value} {p : PyData} (e : pyR 1 [] d = some p) (hf : isF d = true) (r : Rep (kx X T) ι F d v) (rv : RelV v u) (hs : p.showable = true) (hz : p.shown.length ≤ sizeLine) : Rpr prog w h u p := by
  cases d with
  | non => cases e; cases r; cases rv; exact ⟨⟨_, .none⟩, ⟨[], (fun _ h => nomatch h), by simp only [PyData.shown]; exact .of_is ReprIs.none _ _ _⟩, fun a e => nomatch e⟩
  | bl b => cases e; cases r; cases rv; exact ⟨⟨_, .bool b⟩, ⟨[], (fun _ h => nomatch h), by simp only [PyData.shown]; exact .of_is (ReprIs.bool b) _ _ _⟩, fun a e => nomatch e⟩
  | int i =>
    cases e; cases r
    obtain ⟨t, rfl⟩ := rv
    exact ⟨⟨_, .int i t⟩, ⟨[], (fun _ h => nomatch h), by simp only [PyData.shown]; exact .of_is (ReprIs.int t (by simpa [PyData.showable] using hs)) _ _ _⟩, fun a e => nomatch e⟩
  | str x =>
    cases e; cases r
    obtain ⟨t, rfl⟩ := rv
    exact ⟨⟨_, .str x t⟩, ⟨[], (fun _ h => nomatch h), by simp only [PyData.shown]; exact .of_is (ReprIs.str x t (by simpa only [PyData.shown] using hz)) _ _ _⟩, fun a e => nomatch e⟩
  | _ => cases hf
theorem flat_py {d : D} {n : Nat} {M : Mem} (hf : isF d = true) : pyR (n + 1) M d = pyR 1 [] d := by
  cases d <;> first | rfl | cases hf
theorem rpr_of (I : Inv X pins σ H s) (r : Rel (kx X T) ι F rs H M) : ∀ (n : Nat) (d : D) (v : V) (u : Value) (p : PyData), pyR n M d = some p → Rep (kx X T) ι F d v → RelV v u → p.showable = true → p.shown.length ≤ sizeLine → Rpr X.prog X.w s.heap u p
  | 0, d, v, u, p, e, _, _, _, _ => nomatch e
  | n + 1, d, v, u, p, e, rd, rv, hs, hz => by
    by_cases hf : isF d = true
    · rw [flat_py hf] at e
      exact rpr_flat e hf rd rv hs hz
    have ih := rpr_of I r n
    have rest : ∀ {a : Addr}, v = .ref a → u = .ref a := fun {a} e => by subst e; exact rv
    by_cases ht : ∃ xs, d = .tup xs
    · obtain ⟨xs, rfl⟩ := ht
      obtain ⟨ps, e1, rfl⟩ := Option.map_eq_some_iff.mp (show (mapO (pyR n M) xs).map PyData.tuple = some p from e)
      obtain ⟨a, vs, ev, h1, h2⟩ := rd
      obtain rfl := rest ev
      obtain ⟨its, rvs, ⟨o, ho, hc, m, hd⟩, _⟩ := I.tuple (sqt_sub r h1)
      have hz' : (tupleText (PyData.shownAll ps)).length ≤ sizeLine := by simpa only [PyData.shown] using hz
      exact rpr_tuple ho hc hd hz' (rpr_all ih xs vs its ps e1 h2 rvs (by simpa [PyData.showable] using hs) fun t ht => Nat.le_trans (tupleText_mem_le ht) hz')
    have e' : (match dcOf M d with
      | some kvs => (mapO (pyR n M) (kvs.map (·.2))).map fun ps => PyData.dict ((kvs.map fun kv => keyP kv.1).zip ps)
      | none => match lsOf M d with
        | some xs => (mapO (pyR n M) xs).map .list
        | none => none) = some p := by
      cases d <;> first | exact e | exact absurd rfl hf | exact absurd ⟨_, rfl⟩ ht
    split at e'
    · rename_i kvs ek
      obtain ⟨ps, e1, rfl⟩ := Option.map_eq_some_iff.mp e'
      obtain ⟨a, vs, ev, h1, h2, h3⟩ := dcOf_at r ek rd
      obtain rfl := rest ev
      obtain ⟨_, hsys, us, rel, o, es, ep, ho, hx, hd, _, hp, _⟩ := dk_rd I.hok h1
      obtain ⟨r1, r2⟩ := kv_vals rel hp
      have hl : ps.length = kvs.length := by rw [mapO_len e1, List.length_map]
      have f1 : ((kvs.map fun kv => keyP kv.1).zip ps).map (·.1) = (kvs.map (·.1)).map keyP := by
        rw [List.map_map]
        exact List.map_fst_zip (by rw [List.length_map, hl]; exact Nat.le_refl _)
      have f2 : ((kvs.map fun kv => keyP kv.1).zip ps).map (·.2) = ps := List.map_snd_zip (by rw [List.length_map, hl]; exact Nat.le_refl _)
      have hz' : (dictText (PyData.shownKv ((kvs.map fun kv => keyP kv.1).zip ps))).length ≤ sizeLine := by simpa only [PyData.shown] using hz
      obtain ⟨hs1, hs2⟩ := PyData.showableKv_split _ (by simpa [PyData.showable] using hs : PyData.showableKv ((kvs.map fun kv => keyP kv.1).zip ps) = true)
      refine rpr_dict ho hx.1 hd hsys hz' ?_ ?_
      · have q1 := fun t ht => let ⟨p, hp, hl⟩ := PyData.shownKv_key_le ((kvs.map fun kv => keyP kv.1).zip ps) t ht; Nat.le_trans hl (Nat.le_trans (dictText_mem_le hp) hz')
        rw [f1] at hs1 q1 ⊢
        have m1 : kvs.map (·.1) = vs.map (·.1) := h2.symm
        refine rpr_all (X := X) (T := T) (ι := ι) (F := F) (f := pyF) (fun d v u p e rd rv hs hz => ?_) _ _ _ _ (keys_py (kvs.map (·.1))) (keys_rep _) (by rw [m1, List.map_map]; exact r1) hs1 q1
        unfold pyF at e
        split at e
        · rename_i hf
          exact rpr_flat e hf rd rv hs hz
        · cases e
      · have q2 := fun t ht => let ⟨p, hp, hl⟩ := PyData.shownKv_val_le ((kvs.map fun kv => keyP kv.1).zip ps) t ht; Nat.le_trans hl (Nat.le_trans (dictText_mem_le hp) hz')
        rw [f2] at hs2 q2 ⊢
        exact rpr_all ih _ _ _ _ e1 h3 r2 hs2 q2
    · split at e'
      · rename_i xs e1
        obtain ⟨ps, e2, rfl⟩ := Option.map_eq_some_iff.mp e'
        obtain ⟨a, vs, ev, h1, h2⟩ := lsOf_at r e1 rd
        obtain rfl := rest ev
        obtain ⟨its, rvs, ⟨o, m, ho, hc, _, hd⟩, _⟩ := I.list h1
        have hz' : (listText (PyData.shownAll ps)).length ≤ sizeLine := by simpa only [PyData.shown] using hz
        exact rpr_list ho hc hd hz' (rpr_all ih xs vs its ps e2 h2 rvs (by simpa [PyData.showable] using hs) fun t ht => Nat.le_trans (listText_mem_le ht) hz')
      · cases e'
/-- repr(x) -/
theorem c_repr {k : Nat} (hr : Room k X.A) : CallR X (.builtin "repr") (RC (kx X T) rs reprC) := by
  intro pins s σ H vs us Q I rv h
  obtain ⟨ι, F, M, ds, z, M', r, rd, e, q⟩ := h
  unfold reprC at e
  split at e
  · rename_i d
    split at e
    · rename_i p hp
      split at e
      · rename_i hc
        cases e
        rw [Bool.and_eq_true, Bool.and_eq_true, decide_eq_true_eq, decide_eq_true_eq] at hc
        obtain ⟨⟨hs, hd⟩, hz⟩ := hc
        rw [line_eq] at hz
        obtain ⟨v, rfl, h1⟩ := one_of rd
        obtain ⟨u, rfl, ru⟩ := vals1 rv
        have R := rpr_of I r 12 d v u p hp h1 ru hs hz
        have fin : ∀ h' t tk, (∀ b o, s.heap.get? b = some o → h'.get? b = some o) → EP X pins σ Q (.str p.shown t) { s with heap := h', toks := tk } := fun h' t tk k => ⟨.str p.shown, H, I.kept k, ⟨t, rfl⟩, q ι F H _ Le.refl r rfl⟩
        have hun := hr.un
        have ref : ∀ {a : Addr}, u = .ref a → wpAny (model X.prog X.w) X.A (call (.builtin "repr") [u]) (EP X pins σ Q) X.xe s := fun {a} eu => by
          subst eu
          obtain ⟨Ty, idr, S⟩ := R.top a rfl
          exact call_repr_slot (by omega) (S.typeIs s fun b o e => e) S.slotRepr (S.call X.A.in1 _ s _ hr.gu (by show X.A.units + 1 + p.depth < cLine; omega) (fun b o e => e) fun h' t tk k => ⟨_, _, rfl, fin h' t tk k⟩)
        cases d with
        | non =>
          cases h1; cases ru
          cases hp
          refine PySem.P.repr_of_none ?_
          have := fin s.heap s.toks (s.toks + 1) fun b o e => e
          simp only [PyData.shown] at this
          exact this
        | bl b =>
          cases h1; cases ru
          cases hp
          refine PySem.P.repr_of_bool ?_
          have := fin s.heap s.toks (s.toks + 1) fun b o e => e
          simp only [PyData.shown] at this
          exact this
        | int i =>
          cases h1
          obtain ⟨t, rfl⟩ := ru
          cases hp
          refine PySem.P.repr_of_int (by simpa [PyData.showable] using hs) ?_
          have := fin s.heap s.toks (s.toks + 1) fun b o e => e
          simp only [PyData.shown] at this
          exact this
        | str i =>
          cases h1
          obtain ⟨t, rfl⟩ := ru
          cases hp
          refine PySem.P.repr_of_str ?_ (by simpa only [PyData.shown] using hz)
          have := fin s.heap s.toks (s.toks + 1) fun b o e => e
          simp only [PyData.shown] at this
          exact this
        | ty i => cases hp
        | glb i => cases hp
        | lst xs => obtain ⟨a, vs, rfl, _⟩ := h1; exact ref ru
        | tup xs => obtain ⟨a, vs, rfl, _⟩ := h1; exact ref ru
        | dic xs ys => obtain ⟨a, vs, rfl, _⟩ := h1; exact ref ru
        | ref i => obtain ⟨a, rfl, _⟩ := h1; exact ref ru
      · cases e
    · cases e
  · cases e
end

/-! ### d.get(k, x) -/
def eGet (o a b : Sem1 D) : Sem1 D := fun s M => (o s M).bind fun x M1 => if (dcOf M1 x).isSome then (a s M1).bind fun y M2 => (b s M2).bind fun z M3 => match dcOf M3 x, keyOf y with
  | some kvs, some k => .ok ((getK kvs k).getD z) M3
  | _, _ => .bad else .bad
section
variable {X : Cx} {T : Tab} {W : WX} {o a b : Expr} {φ ψ χ : Sem1 D} {apos cpos : Pos}
theorem Get2 (hu : X.A.units + 1 < cLine) (ho : KE X T W o φ) (ha : KE X T W a ψ) (hb : KE X T W b χ) (m : M2 X o "get" apos a b cpos := by exact ⟨noSup rfl, rfl, rfl, rfl⟩) : KE X T W (.Call (.Attribute o "get" apos) [a, b] [] cpos) (eGet φ ψ χ) := fun rs => PE.imp (pe_dget2 hu (ho rs) (ha rs) (hb rs) m) fun σ H Q h => by
  obtain ⟨ι, F, s, M, r, rS, p⟩ := h
  refine ⟨ι, F, s, M, r, rS, p.step fun v H1 ι1 F1 M1 x l1 r1 rv p1 => ?_⟩
  split at p1
  · rename_i hsome
    obtain ⟨kvs0, e0⟩ := Option.isSome_iff_exists.mp hsome
    obtain ⟨c, vs0, rfl, h0, _, _⟩ := dcOf_at r1 e0 rv
    refine ⟨c, rfl, .inl ⟨vs0, h0⟩, ι1, F1, s, M1, r1, rS.le l1, p1.step fun y H2 ι2 F2 M2 yd l2 r2 ry p2 => ?_⟩
    refine ⟨ι2, F2, s, M2, r2, (rS.le l1).le l2, p2.step fun z H3 ι3 F3 M3 zd l3 r3 rz p3 => ?_⟩
    split at p3
    · rename_i kvs k e1 e2
      obtain ⟨c', vs, ec, hc, m1, m2⟩ := dcOf_at r3 e1 (l3 _ _ (l2 _ _ rv))
      cases ec
      have hv := valV_rep (k := k) m1 m2
      refine ⟨valV vs k, .inl ⟨vs, k, hc, keyOf_rep e2 (l3 _ _ ry), rfl⟩, ?_⟩
      split at hv
      · rename_i d' e3
        obtain ⟨w, e4, rw⟩ := hv
        rw [e3] at p3
        rw [e4]
        exact p3.fin r3 rw
      · rename_i e3
        rw [e3] at p3
        rw [hv]
        exact p3.fin r3 rz
    · exact p3.elim
  · exact p1.elim
end
end LD
namespace LD
open PySem PySem.Spec PyProof.Rows L2

/-! ### more evaluation rows -/
def okS {α : Type} (b : Bool) (r : R α) (_ : Tg r) : R α := if b then r else .bad
theorem okS_t {α : Type} {r : R α} {t : Tg r} : okS true r t = r := rfl
def lstK : Option DO → Bool
  | some (.lst _) => true
  | _ => false
theorem lstK_s {xs : List D} : lstK (some (.lst xs)) = true := rfl
def appK (o : Option DO) (i : Nat) (d : D) (M : Mem) : Option (D × Mem) := match o with
  | some (.lst xs) => if xs.length < LINE then some (.non, M.set i (.lst (xs ++ [d]))) else none
  | _ => none
def lsK (o : Option (List D)) (k : List D → R D) (_ : Tg k) : R D := match o with
  | some xs => k xs
  | none => .bad
theorem lsK_s {xs : List D} {k : List D → R D} {t : Tg k} : lsK (some xs) k t = k xs := rfl
def getKK (o : Option (List (Key × D))) (k : Option Key) (z : D) (M : Mem) : R D := match o, k with
  | some kvs, some k => .ok ((getK kvs k).getD z) M
  | _, _ => .bad
theorem getKK_s {kvs : List (Key × D)} {k : Key} {z : D} {M : Mem} : getKK (some kvs) (some k) z M = .ok ((getK kvs k).getD z) M := rfl
section
variable {s : DS} {M : Mem} {x y d : D} {i : Nat} {a b c : Sem1 D} {α : Sem1 (List D)}
theorem q_App : eBm isLst appG a α s M = bnd (a s M) (fun x M1 => okS (isLst M1 x) (bnd (α s M1) (fun ds M2 => ofO (appG x ds M2)) .mk) .mk) .mk := rfl
theorem v_isLst : isLst M (.ref i) = lstK M[i]? := by
  cases h : M[i]? with
  | none => simp only [isLst, lsOf, lstK, h] <;> rfl
  | some o => cases o <;> simp only [isLst, lsOf, lstK, h] <;> rfl
theorem v_app : appG (.ref i) [d] M = appK M[i]? i d M := by
  cases h : M[i]? with
  | none => simp only [appG, appK, h]
  | some o => cases o <;> simp only [appG, appK, h]
theorem appK_s {xs : List D} (h : xs.length < LINE) : appK (some (.lst xs)) i d M = some (.non, M.set i (.lst (xs ++ [d]))) := if_pos h
theorem q_Rev : eRev false a s M = bnd (a s M) (fun x M1 => lsK (lsOf M1 x) (fun xs => .ok (.lst xs.reverse) M1) .mk) .mk := by
  show R.bind _ _ = R.bind _ _
  congr 1
theorem q_Get : eGet a b c s M = bnd (a s M) (fun x M1 => okS (dcOf M1 x).isSome (bnd (b s M1) (fun y M2 => bnd (c s M2) (fun z M3 => getKK (dcOf M3 x) (keyOf y) z M3) .mk) .mk) .mk) .mk := by
  unfold eGet getKK
  rfl
theorem v_lsL {xs : List D} : lsOf M (.lst xs) = some xs := rfl
theorem v_lsR {xs : List D} (h : M[i]? = some (.lst xs)) : lsOf M (.ref i) = some xs := by
  simp only [lsOf, h]
theorem v_dcR {kvs : List (Key × D)} (h : M[i]? = some (.dic kvs)) : dcOf M (.ref i) = some kvs := by
  simp only [dcOf, h]
theorem v_keyI {k : Int} : keyOf (.int k) = some (.inl k) := rfl
theorem v_keyS {k : Str} : keyOf (.str k) = some (.inr k) := rfl
theorem v_srcR {xs : List D} (h : M[i]? = some (.lst xs)) : srcOf M (.ref i) = some ⟨xs, mutChk i xs⟩ := by
  simp only [srcOf, h]
  rfl
theorem v_listR {xs : List D} (h : M[i]? = some (.lst xs)) : listC false [.ref i] M = some (.lst xs, M) := by
  show (sqOf M (.ref i)).map _ = _
  have : sqOf M (.ref i) = some xs := by
    unfold sqOf
    exact v_lsR h
  rw [this] <;> rfl
theorem v_lenR {xs : List D} (h : M[i]? = some (.lst xs)) : lenC [.ref i] M = some (.int xs.length, M) := by
  unfold lenC
  simp only [h]
theorem v_lenRd {kvs : List (Key × D)} (h : M[i]? = some (.dic kvs)) : lenC [.ref i] M = some (.int kvs.length, M) := by
  unfold lenC
  simp only [h]
theorem v_eqs {p q : Str} : boD eqD (.str p) (.str q) M = some (.bl (p == q), M) := rfl
theorem v_nes {p q : Str} : boD (notB eqD) (.str p) (.str q) M = some (.bl (!(p == q)), M) := rfl
theorem v_adds {a b : Str} {M : Mem} (h : a.length + b.length ≤ LINE) : addD (.str a) (.str b) M = some (.str (a ++ b), M) := if_pos h
theorem v_isiBb {b : Bool} : isiC [.bl b, .ty "bool"] M = some (.bl true, M) := by cases b <;> rfl
/-- a list that may change and a value: equal if the items are the same -/
theorem v_neR {n : Nat} {xs : List D} (h : M[i]? = some (.lst xs)) (ho : okL n xs = true) (hn : n < 64) : boD (notB eqD) (.ref i) (.lst xs) M = some (.bl false, M) := by
  have e : eqD M (.ref i) (.lst xs) = eqD M (.lst xs) (.lst xs) := by
    unfold eqD
    have e1 : pyOf M (.ref i) = pyOf M (.lst xs) := by
      show (match M[i]? with | some (.lst xs) => (pyL xs).map PyData.list | _ => none) = _
      rw [h]
      show _ = pyD (.lst xs)
      rw [pyD]
    rw [e1] <;> rfl
  have e2 := eqD_self (n := n + 1) (d := .lst xs) (M := M) (by rw [okD]; exact ho) (by omega)
  show (notB eqD M (.ref i) (.lst xs)).map _ = _
  unfold notB
  rw [e, e2] <;> rfl
theorem v_repr {p : PyData} (h : pyR 12 M d = some p) (h1 : p.showable = true) (h2 : p.depth ≤ 60) (h3 : p.leavesShort 13 = true) (h4 : p.weight ≤ 2 ^ 20) : reprC [d] M = some (.str p.shown, M) := by
  simp only [reprC, h]
  rw [if_pos]
  rw [h1, decide_eq_true h2, decide_eq_true (show p.shown.length ≤ LINE by rw [line_eq]; exact PyData.shown_fits (by decide) (by decide) h3 h4)] <;> rfl
theorem mapO_map {α : Type} {f : D → Option PyData} {e : α → D} {g : α → PyData} : ∀ {as : List α}, (∀ a ∈ as, f (e a) = some (g a)) → mapO f (as.map e) = some (as.map g)
  | [], _ => rfl
  | a :: as, h => by
    show ((f (e a)).bind fun b => (mapO f (as.map e)).map fun bs => b :: bs) = _
    rw [h a List.mem_cons_self, mapO_map fun b hb => h b (List.mem_cons_of_mem _ hb)] <;> rfl
theorem seqN {ψ χ : SSem} {s1 : DS} {M1 : Mem} (h : ψ s M = .nx s1 M1) : sSeq ψ χ s M = χ s1 M1 := by rw [q_Seq, h] <;> rfl
theorem seqR {ψ χ : SSem} {M1 : Mem} (h : ψ s M = .rt d M1) : sSeq ψ χ s M = .rt d M1 := by rw [q_Seq, h] <;> rfl
end
end LD
namespace LD
open PySem PySem.Spec PyProof.Rows L2

/-! ### own __iter__: return iter(self.F) -/
def IterD (P : Program) (w : World) (K : PySem.W.Frag) (mg : Str → Option Value) (base : Heap) (T : Tab) (k c j : Nat) : Prop :=
  ∃ C ly g, T.ct[c]? = some (C, ly) ∧ PySem.W.findIn K (.ref C) "__iter__" = some (some (.ref g)) ∧ PySem.W.isFn K (.ref g) = true ∧
    ∀ (rs : List (Addr × HO)) (A : Around) (outer : List Env) (s : Shared) (H : Hp) (ι : List Addr) (F : Hp) (M : Mem) (i l : Nat) (fs : List (Option D)) (xs : List D) (a la : Addr), Room k A → Env0 P w K mg base A outer s H → Rel ⟨K, T⟩ ι F rs H M →
      M[i]? = some (.ins c fs) → fs[j]? = some (some (.ref l)) → M[l]? = some (.lst xs) → ι[i]? = some a → ι[l]? = some la →
      codeAny (model P w) A (.call (.ref g) ⟨[.ref a], []⟩) (CR (L2.CX P w) outer P w H s (fun v H' => ∃ it ι' F' H1, v = .ref it ∧ s.heap.objs.size ≤ it ∧ Le ⟨K, T⟩ ι F ι' F' ∧ Rel ⟨K, T⟩ ι' F' rs H1 M ∧ H1 it = none ∧ H' = upd H1 it (ItO la it 0)) fun _ _ _ => False) s
theorem iterD_of {P : Program} {w : World} {K : PySem.W.Frag} {mg : Str → Option Value} {base : Heap} {T : Tab} {k c j : Nat} {C g : Addr} {ly : List Str} {x qual self : Str} {st : Stmt} {fd : FuncData} (hc : T.ct[c]? = some (C, ly)) (hs : PySem.W.findIn K (.ref C) "__iter__" = some (some (.ref g)))
    (hf : PySem.W.isFn K (.ref g) = true) (Fx : L2.Fun K x qual st g fd) (S : FnScope [self] [self] (defScope st)) (hb : ∀ (s : Shared) (u : Value), BindsTo s fd ⟨[u], []⟩ [(self, u)])
    (hbody : ∀ (cdv : Value) (A : Around) (outer : List Env) (s : Shared) (H : Hp) (E : XK) (rs : List (Addr × HO)), PSs (cxOf (L2.CX P w) P w K mg base [self] qual (defScope st) g cdv A outer s H E) (defBody st)
      (tSeq (tRet (tCB (ItX.rIterN K s.heap.objs.size) (LA ⟨K, T⟩ rs (fun c d _ H => E c d H) (aCons (eAttr [] [(c, j)] (eVar 0)) aNil)))) tNext)) : IterD P w K mg base T (k + 1) c j := by
  refine ⟨C, ly, g, hc, hs, hf, fun rs A outer s H ι F M i l fs xs a la hr e0 r hM hj hl hi hil => ?_⟩
  refine fn_at (us := [Value.ref a]) (vs := [V.ref a]) Fx S hr e0 (hb s _) (.cons rfl .nil) rfl fun cdv hr' => ⟨_, hbody cdv A outer s H _ rs, ?_⟩
  have e : (aCons (eAttr [] [(c, j)] (eVar 0)) aNil) (startD 1 [D.ref i]) M = .ok [.ref l] M := by
    have e1 : eAttr [] [(c, j)] (eVar 0) (startD 1 [D.ref i]) M = .ok (.ref l) M := by
      rw [q_Attr]
      show bnd (R.ok (D.ref i) M) _ _ = _
      rw [bind_k, refK_r, hM, insK_i]
      show lookK none _ _ _ _ = _
      rw [lookK_n]
      show lookK (List.lookup c [(c, j)]) _ _ _ _ = _
      rw [List.lookup_cons, beq_self_eq_true]
      show lookK (some j) _ _ _ _ = _
      rw [lookK_s, hj] <;> rfl
    rw [q_Cons, e1] <;> rfl
  refine ⟨ι, F, startD 1 [D.ref i], M, r, start_rep (N := [self]) (ds := [D.ref i]) ⟨_, _, rfl, ⟨a, rfl, hi⟩, rfl⟩, ?_⟩
  rw [e]
  intro ι' F' H' vs le r' rv
  obtain ⟨v, rfl, la', rfl, h1⟩ := one_of rv
  obtain ⟨la2, e2, h2⟩ := le (.ref l) (.ref la) ⟨la, rfl, hil⟩
  cases e2
  rw [h1] at h2
  cases h2
  obtain ⟨_, us, h3, _⟩ := r'.obj l _ la hl h1 rfl
  exact ⟨la, us, rfl, .inl (.inl h3), fun it hn hs => ⟨it, ι', F', H', rfl, hs, le, r', hn, rfl⟩⟩
def iOwn (tbl : List (Nat × Nat)) (a : Sem1 D) : Sem1 Src := fun s M => (a s M).bind fun x M1 => match x with
  | .ref i => match M1[i]? with
    | some (.ins c fs) => match tbl.lookup c with
      | some j => match fs[j]? with
        | some (some (.ref l)) => match M1[l]? with
          | some (.lst xs) => .ok ⟨xs, mutChk l xs⟩ M1
          | _ => .bad
        | _ => .bad
      | none => .bad
    | _ => .bad
  | _ => .bad
theorem walk_mutF {K : KX} {a : Addr} {i : Nat} {xs : List D} : WalkD K (ItX.ItlF K.fr a 0) ⟨xs, mutChk i xs⟩ (fun ι F => Rep K ι F (.ref i) (.ref a)) where
  mono := fun l h => l _ _ h
  go := fun {ι F rs H M j} h r c hi => by
    have := (walk_mut (K := K) (a := a) (i := i) (xs := xs)).go h r c hi
    show (Itl K.fr a).go (0 + j) H
    rw [Nat.zero_add]; exact this
  stop := fun {ι F rs H M} h r c => by
    have := (walk_mut (K := K) (a := a) (i := i) (xs := xs)).stop h r c
    show (Itl K.fr a).stop (0 + _) H
    rw [Nat.zero_add]; exact this
  yld := fun {ι F rs H M j d x H'} h r c e y => by
    have y' : (Itl K.fr a).yld (0 + j) H x H' := y
    rw [Nat.zero_add] at y'
    exact (walk_mut (K := K) (a := a) (i := i) (xs := xs)).yld h r c e y'
section
variable {X : Cx} {T : Tab} {W : WX} {tg e : Expr} {φ : Sem1 D}
theorem ki_own {k k' : Nat} {tbl : List (Nat × Nat)} (ht : ∀ c j, tbl.lookup c = some j → IterD X.prog X.w X.K X.mg X.base T k' c j) (hr : Room k X.A) (he : KE X T W e φ) (hl : k' ≤ k := by first | decide | omega) : KI X T W tg e (iOwn tbl φ) := ⟨fun rs => ⟨fun pins s σ H R I h => by
  refine thn ((he rs).run pins s σ H (fun v H1 => ∃ ι F M i c fs j l xs, Rel (kx X T) ι F rs H1 M ∧ Rep (kx X T) ι F (.ref i) v ∧ M[i]? = some (.ins c fs) ∧ tbl.lookup c = some j ∧ fs[j]? = some (some (.ref l)) ∧ M[l]? = some (.lst xs) ∧
    ∀ ι' F' H' J, Le (kx X T) ι F ι' F' → Rel (kx X T) ι' F' rs H' M → repI (kx X T) ι' F' ⟨xs, mutChk l xs⟩ J → R J H') I ?_) fun u s1 ⟨v, H1, I1, rv, q⟩ => ?_
  · obtain ⟨ι, F, st, M, r, rS, p⟩ := h
    refine ⟨ι, F, st, M, r, rS, p.step fun v H1 ι1 F1 M1 x l1 r1 rv p1 => ?_⟩
    cases x with
    | ref i =>
      simp only at p1
      split at p1
      · rename_i c fs hM
        split at p1
        · rename_i j hj
          split at p1
          · rename_i l hfl
            split at p1
            · rename_i xs hl
              exact ⟨ι1, F1, M1, i, c, fs, j, l, xs, r1, rv, hM, hj, hfl, hl, p1⟩
            · exact p1.elim
          · exact p1.elim
        · exact p1.elim
      · exact p1.elim
    | _ => exact p1.elim
  · obtain ⟨ι, F, M, i, c, fs, j, l, xs, r, ri, hM, hj, hfl, hll, p⟩ := q
    obtain ⟨a, rfl, hi⟩ := ri
    obtain rfl : u = Value.ref a := rv
    obtain ⟨C, ly, g, hc, hs, hf, run⟩ := ht c j hj
    obtain ⟨_, C', ly', dx, vs, hc', hH, _, _, hlen, hget⟩ := r.obj i _ a hM hi rfl
    have e2 : (C, ly) = (C', ly') := Option.some.inj (hc.symm.trans hc')
    cases e2
    obtain ⟨mA, J, _⟩ := ins_get I1.hok hH
    obtain ⟨od, J, _⟩ := J.look
    obtain ⟨m, hF⟩ := I1.fr
    have hjl : j < ly.length := by rw [← hlen]; exact (List.getElem?_eq_some_iff.mp hfl).1
    obtain ⟨w, _, la, rfl, hla⟩ := hget j ly[j] (List.getElem?_eq_getElem hjl) _ hfl
    refine PySem.W.owit_iter hF I1.ok.mod.kin J hs hf (wpAny_call (codeAny_mono (run rs X.A X.stack s1 H1 ι F M i l fs xs a la (hr.mono hl) I1.env0 r hM hfl hll hi hla) fun rr s' hq => ?_))
    cases rr with
    | error er =>
      obtain ⟨_, _, _, _, _, _, _, _, _, _, _, _, z⟩ := hq
      exact z.elim
    | ok fl =>
      cases fl with
      | next => exact False.elim hq
      | brk => exact False.elim hq
      | cont => exact False.elim hq
      | ret u' =>
        obtain ⟨v', H2, I2, rv2, it, ι', F', H3, rfl, hsz, le, r3, hn, rfl⟩ := I1.after hq
        obtain rfl : u' = Value.ref it := rv2
        have hit : upd H3 it (ItO la it 0) it = some (ItO la it 0) := upd_same
        have eo := itO_get I2 hit
        have stt : s'.heap.IsListIter it la (0 + 0) := ⟨_, eo, rfl, rfl⟩
        unfold PySem.W.OwitIt
        refine wpAny_specialOf (T := "list_iterator") stt.typeIs PySem.slot_listiter_next.lookup ?_
        have hi' := hit
        unfold ItO at hi'
        have ed : ItX.dropH (upd H3 it (ItO la it 0)) it = H3 := ItX.dropH_upd hn
        refine ⟨it, [it], _, ItX.ItlF X.K la 0, H3, rfl, ?_, ItX.turn_listF la it 0, stt, fun b hb => ?_, p ι' F' H3 _ le r3 ⟨_, walk_mutF, le (.ref l) (.ref la) ⟨la, rfl, hla⟩⟩⟩
        · rw [← ed]
          exact ItX.inv_drop I2 hi'
        · have eb : b = it := by simpa using hb
          rw [eb, ← ed]
          exact ItX.inv_fp I2 hit (Nat.le_trans I1.sz hsz)⟩⟩
theorem q_iOwn {s : DS} {M : Mem} {tbl : List (Nat × Nat)} {i c j l : Nat} {fs : List (Option D)} {xs : List D} (h : φ s M = .ok (.ref i) M) (h1 : M[i]? = some (.ins c fs)) (h2 : tbl.lookup c = some j) (h3 : fs[j]? = some (some (.ref l))) (h4 : M[l]? = some (.lst xs)) : iOwn tbl φ s M = .ok ⟨xs, mutChk l xs⟩ M := by
  unfold iOwn
  rw [h]
  simp only [R.bind_ok, h1, h2, h3, h4]
end
end LD
namespace LD
open PySem PySem.Spec PyProof.Rows L2

/-! ### {'k': e, ..}: a dict that may change -/
structure KDs (X : Cx) (T : Tab) (W : WX) (pos : Pos) (keys : List (Option Expr)) (values : List Expr) (ks : List Key) (α : Sem1 (List D)) : Prop where
  pd : ∀ rs, ∃ trs, PPs X pos keys values trs ∧ ∀ σ H (Q : List (V × V) → Hp → Prop), LA (kx X T) rs W α σ H (fun vs H' => Q ((ks.map kV).zip vs) H') → tPairs trs σ H Q
  al : AL α keys.length
  kl : ks.length = keys.length
section
variable {X : Cx} {T : Tab} {W : WX} {pos p : Pos} {keys : List (Option Expr)} {values : List Expr} {ks : List Key} {α : Sem1 (List D)} {ψ : Sem1 D} {e v : Expr} {k : Key} {rs : List (Addr × HO)}
theorem kd_nil : KDs X T W pos [] [] [] aNil := ⟨fun rs => ⟨[], pps_nil, fun σ H Q h => by
  obtain ⟨ι, F, s, M, r, rS, p⟩ := h
  exact p.fin r rfl⟩, al_nil, rfl⟩
theorem keyD_rep {K : KX} {ι : List Addr} {F : Hp} {v : V} (h : Rep K ι F (keyDD k) v) : v = kV k := by
  cases k <;> exact h
theorem kd_cons (hk : KE X T W e (eC (keyDD k))) (hv : KE X T W v ψ) (hr : KDs X T W pos keys values ks α) : KDs X T W pos (some e :: keys) (v :: values) (k :: ks) (aCons ψ α) := ⟨fun rs => by
  obtain ⟨trs, hp, hq⟩ := hr.pd rs
  refine ⟨_, pps_cons (hk rs) (hv rs) hp, fun σ H Q h => ?_⟩
  obtain ⟨ι, F, s, M, r, rS, p⟩ := h
  refine ⟨ι, F, s, M, r, rS, fun ι1 F1 H1 x l1 r1 rx => ?_⟩
  have ex := keyD_rep rx
  subst ex
  refine ⟨ι1, F1, s, M, r1, rS.le l1, (Post.le l1 p).step fun w H2 ι2 F2 M2 d l2 r2 rw p2 => hq σ H2 _ ⟨ι2, F2, s, M2, r2, (rS.le l1).le l2, p2.step fun ws H3 ι3 F3 M3 ds l3 r3 rws p3 => ?_⟩⟩
  exact p3.fin r3 ⟨w, ws, rfl, l3 _ _ rw, rws⟩, al_cons hr.al, by rw [List.length_cons, List.length_cons, hr.kl]⟩
def eDisp (ks : List Key) (α : Sem1 (List D)) : Sem1 D := fun s M => (α s (M ++ [.dic []])).bind fun ds M1 => match M1[M.length]? with
  | some (.dic []) => .ok (.ref M.length) (M1.set M.length (.dic (ks.zip ds)))
  | _ => .bad
theorem merge_nodup : ∀ (more kvs : List (Key × V)), (kvs.map (·.1) ++ more.map (·.1)).Nodup → mergeK kvs more = kvs ++ more
  | [], kvs, _ => by rw [List.append_nil]; rfl
  | q :: more, kvs, h => by
    have hn : (kvs.any fun kv => decide (kv.1 = q.1)) = false := by
      rw [List.any_eq_false]
      intro kv hkv e
      have e' := of_decide_eq_true e
      exact (List.nodup_append.mp h).2.2 kv.1 (List.mem_map.mpr ⟨kv, hkv, rfl⟩) q.1 List.mem_cons_self e'
    show mergeK (putK kvs q.1 q.2) more = _
    have e1 : putK kvs q.1 q.2 = kvs ++ [q] := by
      unfold putK
      rw [hn, if_neg Bool.false_ne_true]
    rw [e1, merge_nodup more (kvs ++ [q]) (by rw [List.map_append, List.append_assoc]; exact h), List.append_assoc] <;> rfl
theorem zip_fst {α β : Type} : ∀ {l : List α} {m : List β}, l.length = m.length → (l.zip m).map (·.1) = l
  | [], _, _ => by simp
  | a :: l, [], h => by simp at h
  | a :: l, b :: m, h => by
    rw [List.zip_cons_cons, List.map_cons, zip_fst (by simpa using h)]
theorem zip_snd {α β : Type} : ∀ {l : List α} {m : List β}, l.length = m.length → (l.zip m).map (·.2) = m
  | [], [], _ => rfl
  | [], b :: m, h => by simp at h
  | a :: l, [], h => by simp at h
  | a :: l, b :: m, h => by
    rw [List.zip_cons_cons, List.map_cons, zip_snd (by simpa using h)]
theorem zip_map1 {α β γ : Type} {f : α → γ} : ∀ {l : List α} {m : List β}, (l.map f).zip m = (l.zip m).map fun p => (f p.1, p.2)
  | [], _ => by simp
  | a :: l, [] => by simp
  | a :: l, b :: m => by rw [List.map_cons, List.zip_cons_cons, List.zip_cons_cons, List.map_cons, zip_map1]
theorem d_disp (h : KDs X T W pos keys values ks α) (nd : ks.Nodup) (hall : keys.all (·.isSome) = true) (hl : keys.length = values.length) (h0 : keys ≠ []) (h15 : keys.length ≤ 15) : KE X T W (.Dict keys values pos) (eDisp ks α) := fun rs => by
  obtain ⟨trs, hp, hq⟩ := h.pd rs
  refine PE.imp (pe_disp hp hall hl h0 h15) fun σ H Q hw a ha => ?_
  obtain ⟨ι, F, st, M, r, rS, p⟩ := hw
  have p2 : Post (kx X T) rs (repD (kx X T)) ι F (fun c d => W c d σ) Q ((α st (M ++ [.dic []])).bind fun ds M1 => match M1[M.length]? with
    | some (.dic []) => .ok (.ref M.length) (M1.set M.length (.dic (ks.zip ds)))
    | _ => .bad) := p
  have r1 : Rel (kx X T) (ι ++ [a]) F rs (upd H a (.dK [])) (M ++ [.dic []]) := r.fresh ha rfl ⟨[], upd_same, rfl, rfl⟩
  refine hq σ _ _ ⟨ι ++ [a], F, st, M ++ [.dic []], r1, rS.le Le.push, Post.stepE (rep2 := repD (kx X T)) (Q := Q) (Post.le Le.push p2) fun vs H' ι' F' M' ds e l' r' rv p' => ?_⟩
  have hdl := h.al _ _ _ _ e
  split at p'
  · rename_i hM
    have hi : (ι ++ [a])[M.length]? = some a := by rw [← r.len]; simp
    obtain ⟨a', ea, hi'⟩ := l' (.ref M.length) (.ref a) ⟨a, rfl, hi⟩
    cases ea
    obtain ⟨_, us, h2, h3, h4⟩ := r'.obj _ _ _ hM hi' rfl
    have eus : us = [] := List.map_eq_nil_iff.mp h3
    subst eus
    have hvl : ks.length = vs.length := by rw [RepL.length rv, hdl, h.kl]
    have hdl' : ks.length = ds.length := by rw [hdl, h.kl]
    refine ⟨h2, ks.zip vs, zip_map1, by rw [List.length_zip, ← hvl, Nat.min_self, h.kl]; exact h15, ?_⟩
    rw [merge_nodup (ks.zip vs) [] (by rw [List.map_nil, List.nil_append, zip_fst hvl]; exact nd), List.nil_append]
    refine p'.fin (r'.write hM hi' rfl ⟨ks.zip vs, upd_same, by rw [zip_fst hvl, zip_fst hdl'], ?_⟩) ⟨a, rfl, hi'⟩
    rw [zip_snd hvl, zip_snd hdl']
    exact rv
  · exact p'.elim
theorem q_Disp {s : DS} {M : Mem} : eDisp ks α s M = (α s (M ++ [.dic []])).bind fun ds M1 => match M1[M.length]? with
  | some (.dic []) => .ok (.ref M.length) (M1.set M.length (.dic (ks.zip ds)))
  | _ => .bad := rfl

/-! ### xs.insert(i, y) -/
def insG : OMt := fun x ds M => match x, ds with
  | .ref i, [.int k, d] => match M[i]? with
    | some (.lst xs) => if xs.length < LINE ∧ 0 ≤ k ∧ k < 2 ^ 62 then some (.non, M.set i (.lst (xs.take k.toNat ++ [d] ++ xs.drop k.toNat))) else none
    | _ => none
  | _, _ => none
theorem m_insert : MtR X "list.insert" (RM (kx X T) rs insG) := fun pins s σ H x xs v us Q I rx rxs h => by
  refine mt_insert pins s σ H x xs v us Q I rx rxs ?_
  obtain ⟨ι, F, M, d, ds, z, M', r, rd, rds, e, q⟩ := h
  unfold insG at e
  split at e
  · rename_i i k y
    obtain ⟨a, rfl, hi⟩ := rd
    obtain ⟨w1, w2, rfl, hw1, hw2⟩ := two_of rds
    cases hw1
    split at e
    · rename_i ys hM
      split at e
      · rename_i hl
        cases e
        obtain ⟨f0, vs, h2, h3⟩ := r.obj i _ a hM hi rfl
        refine ⟨a, vs, k, w2, rfl, rfl, h2, by rw [RepL.length h3, ← line_eq]; exact hl.1, hl.2.1, by omega, ?_⟩
        exact q ι F _ _ Le.refl (r.write hM hi rfl ⟨_, upd_same, ((h3.take _).append (.one hw2)).append (h3.drop _)⟩) rfl
      · cases e
    · cases e
  · cases e
theorem Insert {o a b : Expr} {φ : Sem1 D} {apos : Pos} (ho : KE X T W o φ) (ha : KA X T W [a, b] α) (h1 : isSup o = false := by rfl) (hfew : ((backTo pos (starEach [a, b] X.env)).all (fun x => !x.1) && (backToKw pos (keywordEach [] X.env)).all (fun x => x.1.isSome)
      && decide (([a, b] : List Expr).length + ([] : List Keyword).length + (if ([] : List Keyword).isEmpty then 0 else 1) < 30)) = true := by rfl) (hline : (apos.endLine == pos.line) = true := by rfl) (h2 : [a, b].any isStar = false := by rfl) :
    KE X T W (.Call (.Attribute o "insert" apos) [a, b] [] pos) (eBm isLst insG φ α) := d_bm PySem.F.plainAttrs_list PySem.F.slot_list_insert PySem.F.type_list_insert (fun _ => m_insert) (fun r h e => ty_lst r h e) ho ha h1 hfew hline h2
theorem callee_bad {P : Program} {w : World} {K : PySem.W.Frag} {mg : Str → Option Value} {base : Heap} {T : Tab} {k n : Nat} {ks : List Str} {f : Addr} : Callee P w K mg base T k f n ks (fun _ _ => .bad) :=
  ⟨fun rs A outer s H us ws vs zs Q E hr e0 h1 h2 r1 r2 h => by
    obtain ⟨ι, F, ds, M, r, rd, p⟩ := h
    exact p.elim⟩
end
end LD
namespace LD
open PySem PySem.Spec PyProof.Rows L2
/-- list + list: one that may change -/
def addM : O2 := fun x y M => match lsOf M x, lsOf M y with
  | some a, some b => if a.length + b.length ≤ LINE then some (.ref M.length, M ++ [.lst (a ++ b)]) else none
  | _, _ => none
theorem o_addM {X : Cx} {T : Tab} {rs : List (Addr × HO)} : OpR X (binaryOp .Add) (RO2 (kx X T) rs addM) := OpR.imp op_catS fun x y H Q h => by
  obtain ⟨ι, F, M, d, e, z, M', r, h1, h2, g, q⟩ := h
  unfold addM at g
  split at g
  · rename_i xs ys e1 e2
    split at g
    · rename_i hz
      cases g
      obtain ⟨a, vs, rfl, s1, l1⟩ := lsOf_at r e1 h1
      obtain ⟨b, ws, rfl, s2, l2⟩ := lsOf_at r e2 h2
      refine ⟨a, b, vs, ws, rfl, rfl, s1, s2, by rw [l1.length, l2.length, ← line_eq]; exact hz, fun p hp => ?_⟩
      exact newL_at (mu := true) r (l1.append l2) rfl q p hp
    · cases g
  · cases g
theorem v_addM {x y : D} {a b : List D} {M : Mem} (h1 : lsOf M x = some a) (h2 : lsOf M y = some b) (h : a.length + b.length ≤ LINE) : addM x y M = some (.ref M.length, M ++ [.lst (a ++ b)]) := by
  unfold addM
  rw [h1, h2]
  exact if_pos h
end LD
namespace LD
open PySem PySem.Spec PyProof.Rows L2
def dispK (o : Option DO) (i : Nat) (ks : List Key) (ds : List D) (M : Mem) : R D := match o with
  | some (.dic []) => .ok (.ref i) (M.set i (.dic (ks.zip ds)))
  | _ => .bad
theorem dispK_s {i : Nat} {ks : List Key} {ds : List D} {M : Mem} : dispK (some (.dic [])) i ks ds M = .ok (.ref i) (M.set i (.dic (ks.zip ds))) := rfl
theorem q_DispK {ks : List Key} {α : Sem1 (List D)} {s : DS} {M : Mem} : eDisp ks α s M = bnd (α s (M ++ [.dic []])) (fun ds M1 => dispK M1[M.length]? M.length ks ds M1) .mk := rfl
theorem q_Ins {a : Sem1 D} {α : Sem1 (List D)} {s : DS} {M : Mem} : eBm isLst insG a α s M = bnd (a s M) (fun x M1 => okS (isLst M1 x) (bnd (α s M1) (fun ds M2 => ofO (insG x ds M2)) .mk) .mk) .mk := rfl
theorem v_ins {i : Nat} {k : Int} {d : D} {xs : List D} {M : Mem} (h : M[i]? = some (.lst xs)) (hl : xs.length < LINE) (h0 : 0 ≤ k) (h1 : k < 2 ^ 62) : insG (.ref i) [.int k, d] M = some (.non, M.set i (.lst (xs.take k.toNat ++ [d] ++ xs.drop k.toNat))) := by
  unfold insG
  simp only [h]
  rw [if_pos ⟨hl, h0, h1⟩]
end LD
namespace LD
open PySem PySem.Spec PyProof.Rows L2 SrtO

/-! ### sorted: tuples of ints and bools -/
def lexL : List Int → List Int → Bool
  | [], [] => false
  | [], _ :: _ => true
  | _ :: _, [] => false
  | x :: xs, y :: ys => if x = y then lexL xs ys else decide (x < y)
theorem lexL_asym : ∀ x y : List Int, lexL x y = true → lexL y x = false
  | [], [], h => nomatch h
  | [], _ :: _, _ => rfl
  | _ :: _, [], h => nomatch h
  | x :: xs, y :: ys, h => by
    rw [lexL] at h ⊢
    by_cases e : x = y
    · rw [if_pos e] at h
      rw [if_pos e.symm]
      exact lexL_asym xs ys h
    · rw [if_neg e, decide_eq_true_eq] at h
      rw [if_neg (fun z => e z.symm)]
      exact decide_eq_false (by omega)
theorem lexL_tr : ∀ x y z : List Int, lexL y x = false → lexL z y = false → lexL z x = false
  | [], [], [], _, _ => rfl
  | [], [], _ :: _, _, h => h
  | [], _ :: _, [], h, h2 => by cases h2
  | [], _ :: _, _ :: _, h, h2 => rfl
  | _ :: _, [], [], h, _ => h
  | _ :: _, [], _ :: _, h, _ => by cases h
  | _ :: _, _ :: _, [], _, h => by cases h
  | x :: xs, y :: ys, z :: zs, h1, h2 => by
    rw [lexL] at h1 h2 ⊢
    by_cases e1 : y = x
    · rw [if_pos e1] at h1
      by_cases e2 : z = y
      · rw [if_pos e2] at h2
        rw [if_pos (e2.trans e1)]
        exact lexL_tr xs ys zs h1 h2
      · rw [if_neg e2, decide_eq_false_iff_not] at h2
        rw [if_neg (fun w => e2 (w.trans e1.symm))]
        exact decide_eq_false (by omega)
    · rw [if_neg e1, decide_eq_false_iff_not] at h1
      by_cases e2 : z = y
      · rw [if_neg (fun w => e1 (e2.symm.trans w))]
        exact decide_eq_false (by omega)
      · rw [if_neg e2, decide_eq_false_iff_not] at h2
        rw [if_neg (by omega)]
        exact decide_eq_false (by omega)
theorem swo_key {α : Type} (k : α → List Int) : Swo fun a b => lexL (k a) (k b) := ⟨fun x y h => lexL_asym _ _ h, fun x y z h1 h2 => lexL_tr _ _ _ h1 h2⟩
/-- a sort that keeps equal ones in their order -/
def insT {α : Type} (lt : α → α → Bool) (x : α) : List α → List α
  | [] => [x]
  | y :: r => if lt y x then y :: insT lt x r else x :: y :: r
def isort {α : Type} (lt : α → α → Bool) : List α → List α
  | [] => []
  | x :: r => insT lt x (isort lt r)
section
variable {α β : Type} {lt : α → α → Bool}
theorem insT_perm (x : α) : ∀ l : List α, (insT lt x l).Perm (x :: l)
  | [] => List.Perm.refl _
  | y :: r => by
    unfold insT
    split
    · exact ((insT_perm x r).cons y).trans (List.Perm.swap x y r)
    · exact List.Perm.refl _
theorem isort_perm : ∀ l : List α, (isort lt l).Perm l
  | [] => List.Perm.refl _
  | x :: r => (insT_perm x _).trans ((isort_perm r).cons x)
theorem insT_srtd (O : Swo lt) (x : α) : ∀ l : List α, Srtd lt l → Srtd lt (insT lt x l)
  | [], _ => srtd_one x
  | y :: r, h => by
    have hh := List.pairwise_cons.mp h
    unfold insT
    split
    · rename_i hy
      refine List.pairwise_cons.mpr ⟨fun z hz => ?_, insT_srtd O x r hh.2⟩
      rcases List.mem_cons.mp ((insT_perm x r).mem_iff.mp hz) with rfl | hz
      · exact O.asym _ _ hy
      · exact hh.1 z hz
    · rename_i hy
      have hy' : lt y x = false := by cases e : lt y x with | true => exact absurd e hy | false => rfl
      refine List.pairwise_cons.mpr ⟨fun z hz => ?_, h⟩
      rcases List.mem_cons.mp hz with rfl | hz
      · exact hy'
      · exact O.tr _ _ _ hy' (hh.1 z hz)
theorem isort_srtd (O : Swo lt) : ∀ l : List α, Srtd lt (isort lt l)
  | [] => List.Pairwise.nil
  | x :: r => insT_srtd O x _ (isort_srtd O r)
theorem insT_stb (O : Swo lt) (x : α) : ∀ l : List α, Stb lt (insT lt x l) (x :: l)
  | [] => Stb.refl _
  | y :: r => by
    unfold insT
    split
    · rename_i hy
      have h1 : Stb lt ([y] ++ insT lt x r) ([y] ++ (x :: r)) := (Stb.refl _).app (insT_stb O x r)
      have h2 : Stb lt (([y] ++ [x]) ++ r) (([x] ++ [y]) ++ r) := (Stb.swap O (fun a ha b hb => by rw [List.mem_singleton.mp ha, List.mem_singleton.mp hb]; exact hy)).app (Stb.refl _)
      exact h1.trans h2
    · exact Stb.refl _
theorem isort_stb (O : Swo lt) : ∀ l : List α, Stb lt (isort lt l) l
  | [] => Stb.refl _
  | x :: r => (insT_stb O x _).trans ((Stb.refl [x]).app (isort_stb O r))
theorem insT_map (f : β → α) (x : β) : ∀ l : List β, insT lt (f x) (l.map f) = (insT (fun a b => lt (f a) (f b)) x l).map f
  | [] => rfl
  | y :: r => by
    rw [List.map_cons]
    unfold insT
    split
    · rw [List.map_cons, insT_map f x r]
    · rfl
theorem isort_map (f : β → α) : ∀ l : List β, isort lt (l.map f) = (isort (fun a b => lt (f a) (f b)) l).map f
  | [] => rfl
  | x :: r => by
    show insT lt (f x) (isort lt (r.map f)) = (insT _ x (isort _ r)).map f
    rw [isort_map f r, insT_map]
end
/-- ints and bools -/
def scD : D → Option (Bool × Int)
  | .int i => some (false, i)
  | .bl b => some (true, if b then 1 else 0)
  | _ => none
def tupS (d : D) : Option (List (Bool × Int)) := match d with
  | .tup (.int i :: r) => mapO scD (.int i :: r)
  | _ => none
def keyT (d : D) : List Int := ((tupS d).getD []).map (·.2)
def ltD (a b : D) : Bool := lexL (keyT a) (keyT b)
def sortC : OL := fun ds M => match ds with
  | [x] => match lsOf M x with
    | some xs => match mapO tupS xs with
      | some ks => if ks.all (fun k => decide (k.map (·.1) = ((ks.head?).getD []).map (·.1))) then some (.lst (isort ltD xs), M) else none
      | none => none
    | none => none
  | _ => none
/-- at the level of Python's values -/
def scV (u : Value) (p : Bool × Int) : Prop := (∃ t, u = .int p.2 t ∧ p.1 = false) ∨ (∃ b : Bool, u = .bool b ∧ p = (true, if b then 1 else 0))
def TupV (h : Heap) (u : Value) (k : List (Bool × Int)) : Prop := ∃ a o items n i t r kr, u = .ref a ∧ h.get? a = some o ∧ o.cls = .type "tuple" ∧ o.data = .seq items n ∧ items.toList = .int i t :: r ∧ k = (false, i) :: kr ∧ Paired scV r kr
section
variable {prog : Program} {w : World} {A : Around} {s : Shared}
theorem kat_sc {Q : Bool → Shared → Prop} : ∀ (r r' : List Value) (k k' : List (Bool × Int)) (i : Nat), Paired scV r k → Paired scV r' k' → k.map (·.1) = k'.map (·.1) → Q (lexL (k.map (·.2)) (k'.map (·.2))) s → PySem.W.KatLex prog w A true false Q (r.zip r') (i + 1) s
  | [], _, _, k', i, .nil, h2, hs, q => by
    have e : k' = [] := by simpa using hs.symm
    subst e
    cases h2
    exact PySem.W.kat_nil q
  | u :: r, _, _, _, i, .cons (b := p) (l₂ := k) h1 h1r, h2, hs, q => by
    cases h2 with
    | nil => simp at hs
    | @cons u' p' r' k' h2 h2r =>
      rw [List.map_cons, List.map_cons, List.cons.injEq] at hs
      rw [List.map_cons, List.map_cons, lexL] at q
      obtain ⟨b, x⟩ := p
      obtain ⟨b', x'⟩ := p'
      have hb : b = b' := hs.1
      subst hb
      dsimp only at q
      rw [List.zip_cons_cons]
      have hi : (true && (i + 1 == 0)) = false := rfl
      have go : ∀ (e : Bool), e = decide (x = x') → (x ≠ x' → wpAny (model prog w) A (oneLt' (true && (i + 1 == 0)) u u') Q (fun _ _ => False) s) → PySem.W.KatGo prog w A true false Q u u' (r.zip r') (i + 1) e s := fun e he hlt => by
        refine PySem.W.kat_go (fun e1 => ?_) (fun e1 => ?_)
        · subst he
          have ex := of_decide_eq_true e1
          rw [if_pos ex] at q
          exact PySem.W.kat_yes (kat_sc r r' k k' (i + 1) h1r h2r hs.2 q)
        · subst he
          exact PySem.W.kat_no (hlt (of_decide_eq_false e1))
      rcases h1 with ⟨t, rfl, hf⟩ | ⟨c, rfl, hf⟩
      · rcases h2 with ⟨t', rfl, _⟩ | ⟨c', rfl, hf'⟩
        · refine PySem.W.kat_cons (SeqAt.EqAt.int_int x t x' t' prog w _ _ (go _ (by by_cases e : x = x' <;> simp [e]) fun hx => ?_))
          rw [if_neg hx] at q
          rw [hi]
          exact PySem.W.kat_one _ _ (PyProof.Rows.lt_int q)
        · injection hf' with e1 _
          dsimp only at hf
          rw [hf] at e1
          cases e1
      · rcases h2 with ⟨t', rfl, hf'⟩ | ⟨c', rfl, hf'⟩
        · injection hf with e1 _
          dsimp only at hf'
          rw [hf'] at e1
          cases e1
        · injection hf with _ e1
          injection hf' with _ e2
          refine PySem.W.kat_cons (SeqAt.EqAt.bool_bool c c' prog w _ _ (go _ (by rw [e1, e2]; cases c <;> cases c' <;> rfl) fun hx => ?_))
          rw [if_neg hx, e1, e2] at q
          rw [hi]
          exact PySem.W.kat_one _ _ (PyProof.Rows.lt_bool q)
theorem tups_cmp {vs : List Value} {K : Value → List (Bool × Int)} {sh : List Bool} (hp : ∀ v ∈ vs, TupV s.heap v (K v)) (hs : ∀ v ∈ vs, (K v).map (·.1) = sh) : Cmp prog w A s (tuples' true) (fun p => p.1 ∈ vs) (lt2 fun v u => lexL ((K v).map (·.2)) ((K u).map (·.2))) := by
  intro p q hm hm'
  have hsh := (hs _ hm).trans (hs _ hm').symm
  obtain ⟨a, o, items, n, i, t, r, kr, e, ho, hc, hd, hi, hk, hpr⟩ := hp _ hm
  obtain ⟨a', o', items', n', i', t', r', kr', e', ho', hc', hd', hi', hk', hpr'⟩ := hp _ hm'
  show wpAny (model prog w) A (keyLt' (tuples' true) p.1 q.1) (fun rr s' => s' = s ∧ rr = lexL ((K p.1).map (·.2)) ((K q.1).map (·.2))) (fun _ _ => False) s
  rw [hk, hk'] at hsh ⊢
  rw [List.map_cons, List.map_cons, List.cons.injEq] at hsh
  have hlen : items.size = items'.size := by
    have h1 := congrArg List.length hi
    have h2 := congrArg List.length hi'
    have h3 := congrArg List.length hsh.2
    have l1 : r.length = kr.length := by
      clear hsh hi hk h1 h3
      induction hpr with
      | nil => rfl
      | cons _ _ ih => rw [List.length_cons, List.length_cons, ih]
    have l2 : r'.length = kr'.length := by
      clear hsh hi' hk' h2 h3 l1
      induction hpr' with
      | nil => rfl
      | cons _ _ ih => rw [List.length_cons, List.length_cons, ih]
    rw [Array.length_toList, List.length_cons] at h1 h2
    rw [List.length_map, List.length_map] at h3
    omega
  rw [e, e']
  refine PySem.W.kat_lt ho hd ho' hd' ?_
  rw [hi, hi', show decide (items.size < items'.size) = false by rw [hlen]; exact decide_eq_false (Nat.lt_irrefl _), List.zip_cons_cons]
  refine PySem.W.kat_cons (SeqAt.EqAt.int_int i t i' t' prog w _ _ ?_)
  refine PySem.W.kat_go (fun e1 => ?_) (fun e1 => ?_)
  · have ei : i = i' := by simpa using e1
    refine PySem.W.kat_yes (kat_sc r r' kr kr' 0 hpr hpr' hsh.2 ⟨rfl, ?_⟩)
    rw [List.map_cons, List.map_cons, lexL, if_pos ei]
  · have ei : ¬ i = i' := by simpa using e1
    refine PySem.W.kat_no (oneLt_int ⟨rfl, ?_⟩)
    rw [List.map_cons, List.map_cons, lexL, if_neg ei]
theorem TupV.keeps {h h' : Heap} {u : Value} {k : List (Bool × Int)} (x : TupV h u k) (kk : ∀ b o, h.get? b = some o → o.cls = .type "tuple" → h'.get? b = some o) : TupV h' u k := by
  obtain ⟨a, o, items, n, i, t, r, kr, e, ho, hc, hd, hi, hk, hpr⟩ := x
  exact ⟨a, o, items, n, i, t, r, kr, e, kk _ _ ho hc, hc, hd, hi, hk, hpr⟩
theorem tups_firsts {h : Heap} {K : Value → List (Bool × Int)} : ∀ {vs : List Value}, (∀ v ∈ vs, TupV h v (K v)) → ∃ fs : List Value, PySem.W.KatTups h vs fs ∧ fs.length = vs.length ∧ ∀ f ∈ fs, ∃ x t, f = Value.int x t
  | [], _ => ⟨[], PySem.W.KatTups.nil, rfl, fun _ hm => by simp at hm⟩
  | v :: vs, hp => by
    obtain ⟨fs, h1, h2, h3⟩ := tups_firsts (vs := vs) fun v' hm => hp v' (List.mem_cons_of_mem _ hm)
    obtain ⟨a, o, items, n, i, t, r, kr, e, ho, hc, hd, hi, hk, hpr⟩ := hp v (List.mem_cons_self ..)
    subst e
    refine ⟨.int i t :: fs, PySem.W.KatTups.cons ho hc hd (by rw [← Array.getElem?_toList, hi] <;> rfl) h1, by rw [List.length_cons, List.length_cons, h2], fun f hm => ?_⟩
    rcases List.mem_cons.mp hm with rfl | hm
    · exact ⟨i, t, rfl⟩
    · exact h3 f hm
theorem tups_sortable {a : Addr} {vs : List Value} {K : Value → List (Bool × Int)} {sh : List Bool} (h0 : 0 < vs.length) (hp : ∀ v ∈ vs, TupV s.heap v (K v)) (hs : ∀ v ∈ vs, (K v).map (·.1) = sh) (ha : ∀ o, s.heap.get? a = some o → o.cls ≠ .type "tuple") :
    SortableO prog w A s a vs fun v u => lexL ((K v).map (·.2)) ((K u).map (·.2)) := by
  intro h' keep
  have hp' : ∀ v ∈ vs, TupV h' v (K v) := fun v hm => (hp v hm).keeps fun b o e c => keep b o (fun z => by subst z; exact ha o e c) e
  obtain ⟨fs, h1, h2, h3⟩ := tups_firsts hp'
  refine ⟨tuples' true, fun Q E hq => ?_, tups_cmp hp' hs⟩
  refine PySem.W.kat_kind (T := .type "int") h1 (by omega) (fun f hm => ?_) (by rfl) ?_
  · obtain ⟨x, t, rfl⟩ := h3 f hm
    exact PySem.W.Looks.now
  · have e : (Value.type "int" != Value.type "tuple") = true := by first | decide +kernel | rfl | decide
    rw [e]
    exact hq
end
end LD
namespace LD
open PySem PySem.Spec PyProof.Rows L2 SrtO
theorem insT_congr {α : Type} {f g : α → α → Bool} {x : α} : ∀ {l : List α}, (∀ y ∈ l, f y x = g y x) → insT f x l = insT g x l
  | [], _ => rfl
  | y :: r, h => by
    unfold insT
    rw [h y List.mem_cons_self, insT_congr fun z hz => h z (List.mem_cons_of_mem _ hz)]
theorem isort_congr {α : Type} {f g : α → α → Bool} : ∀ {l : List α}, (∀ x ∈ l, ∀ y ∈ l, f x y = g x y) → isort f l = isort g l
  | [], _ => rfl
  | x :: r, h => by
    show insT f x (isort f r) = insT g x (isort g r)
    rw [isort_congr fun a ha b hb => h a (List.mem_cons_of_mem _ ha) b (List.mem_cons_of_mem _ hb)]
    exact insT_congr fun y hy => h y (List.mem_cons_of_mem _ ((isort_perm r).mem_iff.mp hy)) x List.mem_cons_self
def scK : Value → Bool × Int
  | .int i _ => (false, i)
  | .bool b => (true, if b then 1 else 0)
  | _ => (false, 0)
def kvH (h : Heap) (u : Value) : List (Bool × Int) := match u with
  | .ref a => match h.get? a with
    | some o => match o.data with
      | .seq its _ => its.toList.map scK
      | _ => []
    | none => []
  | _ => []
theorem sc_map : ∀ {r : List Value} {k : List (Bool × Int)}, Paired scV r k → r.map scK = k
  | _, _, .nil => rfl
  | _, _, .cons h t => by
    rw [List.map_cons, sc_map t]
    congr 1
    rcases h with ⟨t, rfl, hf⟩ | ⟨b, rfl, hf⟩
    · exact Prod.ext hf.symm rfl
    · exact hf.symm
theorem TupV.key {h : Heap} {u : Value} {k : List (Bool × Int)} (x : TupV h u k) : kvH h u = k := by
  obtain ⟨a, o, items, n, i, t, r, kr, rfl, ho, hc, hd, hi, hk, hpr⟩ := x
  simp only [kvH, ho, hd, hi, hk, List.map_cons, scK, sc_map hpr]
section
variable {X : Cx} {T : Tab} {ι : List Addr} {F H : Hp} {M : Mem} {rs : List (Addr × HO)} {pins : List (Addr × Obj)} {σ : L2.St} {s : Shared}
theorem zipP {K : KX} : ∀ {ds : List D} {vs : List V} {us : List Value}, RepL K ι F ds vs → Vals vs us → ∃ P : List (D × V × Value), P.map (·.1) = ds ∧ P.map (·.2.1) = vs ∧ P.map (·.2.2) = us ∧ ∀ p ∈ P, Rep K ι F p.1 p.2.1 ∧ RelV p.2.1 p.2.2
  | [], vs, us, h, r => by
    have e : vs = [] := h
    subst e
    cases r
    exact ⟨[], rfl, rfl, rfl, fun _ h => nomatch h⟩
  | d :: ds, vs, us, h, r => by
    obtain ⟨v, vr, rfl, h1, h2⟩ := h
    cases r with
    | cons r1 r2 =>
      obtain ⟨P, e1, e2, e3, hP⟩ := zipP h2 r2
      refine ⟨(d, v, _) :: P, by rw [List.map_cons, e1], by rw [List.map_cons, e2], by rw [List.map_cons, e3], fun p hp => ?_⟩
      rcases List.mem_cons.mp hp with rfl | hp
      · exact ⟨h1, r1⟩
      · exact hP p hp
theorem sc_rep {K : KX} : ∀ {ds : List D} {vs : List V} {us : List Value} {k : List (Bool × Int)}, mapO scD ds = some k → RepL K ι F ds vs → Vals vs us → Paired scV us k
  | [], vs, us, k, e, h, r => by
    cases e
    have e : vs = [] := h
    subst e
    cases r
    exact .nil
  | d :: ds, vs, us, k, e, h, r => by
    obtain ⟨b, e1, e2⟩ := Option.bind_eq_some_iff.mp e
    obtain ⟨bs, e3, rfl⟩ := Option.map_eq_some_iff.mp e2
    obtain ⟨v, vr, rfl, h1, h2⟩ := h
    cases r with
    | cons r1 r2 =>
      refine .cons ?_ (sc_rep e3 h2 r2)
      cases d with
      | int i =>
        cases e1
        cases h1
        obtain ⟨t, rfl⟩ := r1
        exact .inl ⟨t, rfl, rfl⟩
      | bl c =>
        cases e1
        cases h1
        cases r1
        exact .inr ⟨c, rfl, rfl⟩
      | _ => cases e1
theorem tup_rep (I : Inv X pins σ H s) (r : Rel (kx X T) ι F rs H M) {d : D} {v : V} {u : Value} {k : List (Bool × Int)} (e : tupS d = some k) (rd : Rep (kx X T) ι F d v) (rv : RelV v u) : TupV s.heap u k := by
  unfold tupS at e
  split at e
  · rename_i i xs
    obtain ⟨a, ws, rfl, s1, l1⟩ := rd
    obtain rfl : u = Value.ref a := rv
    obtain ⟨its, rvs, ⟨o, ho, hc, m, hd⟩, _⟩ := I.tuple (sqt_sub r s1)
    have hp := sc_rep e l1 rvs
    obtain ⟨b, e1, e2⟩ := Option.bind_eq_some_iff.mp e
    obtain ⟨bs, e3, rfl⟩ := Option.map_eq_some_iff.mp e2
    cases e1
    cases hp with
    | cons h1 h2 =>
      rcases h1 with ⟨t, rfl, _⟩ | ⟨c, _, hf⟩
      · exact ⟨a, o, _, m, i, t, _, bs, rfl, ho, hc, hd, by simp, rfl, h2⟩
      · cases hf
  · cases e
theorem mapO_mem {α β : Type} {f : α → Option β} : ∀ {xs : List α} {ys : List β} {x : α}, mapO f xs = some ys → x ∈ xs → ∃ y ∈ ys, f x = some y
  | [], _, _, _, h => nomatch h
  | a :: r, ys, x, e, h => by
    obtain ⟨b, e1, e2⟩ := Option.bind_eq_some_iff.mp e
    obtain ⟨bs, e3, rfl⟩ := Option.map_eq_some_iff.mp e2
    rcases List.mem_cons.mp h with rfl | h
    · exact ⟨b, List.mem_cons_self, e1⟩
    · obtain ⟨y, hy, e4⟩ := mapO_mem e3 h
      exact ⟨y, List.mem_cons_of_mem _ hy, e4⟩
theorem vals_P : ∀ {P : List (D × V × Value)}, (∀ p ∈ P, RelV p.2.1 p.2.2) → Vals (P.map (·.2.1)) (P.map (·.2.2))
  | [], _ => .nil
  | p :: P, h => .cons (h p List.mem_cons_self) (vals_P fun q hq => h q (List.mem_cons_of_mem _ hq))
theorem rep_P {K : KX} : ∀ {P : List (D × V × Value)}, (∀ p ∈ P, Rep K ι F p.1 p.2.1) → RepL K ι F (P.map (·.1)) (P.map (·.2.1))
  | [], _ => rfl
  | p :: P, h => ⟨p.2.1, _, rfl, h p List.mem_cons_self, rep_P fun q hq => h q (List.mem_cons_of_mem _ hq)⟩
theorem c_sorted : CallR X (.builtin "sorted") (RC (kx X T) rs sortC) := by
  intro pins s σ H vs us Q I rv h
  obtain ⟨ι, F, M, ds, z, M', r, rd, e, q⟩ := h
  unfold sortC at e
  split at e
  · rename_i x
    split at e
    · rename_i xs hxs
      split at e
      · rename_i ks hks
        split at e
        · rename_i hsh
          cases e
          obtain ⟨v, rfl, h1⟩ := one_of rd
          obtain ⟨u, rfl, ru⟩ := vals1 rv
          obtain ⟨a, ws, rfl, s1, l1⟩ := lsOf_at r hxs h1
          obtain rfl : u = Value.ref a := ru
          obtain ⟨its, rvs, hl, hz⟩ := I.list s1
          obtain ⟨P, p1, p2, p3, hP⟩ := zipP l1 rvs
          have hT : ∀ p ∈ P, ∃ k, k ∈ ks ∧ tupS p.1 = some k ∧ TupV s.heap p.2.2 k := fun p hp => by
            obtain ⟨k, hk, e⟩ := mapO_mem hks (by rw [← p1]; exact List.mem_map.mpr ⟨p, hp, rfl⟩)
            exact ⟨k, hk, e, tup_rep I r e (hP p hp).1 (hP p hp).2⟩
          have hV : ∀ v ∈ its, TupV s.heap v (kvH s.heap v) ∧ (kvH s.heap v).map (·.1) = ((ks.head?).getD []).map (·.1) := fun v hv => by
            rw [← p3] at hv
            obtain ⟨p, hp, rfl⟩ := List.mem_map.mp hv
            obtain ⟨k, hk, _, ht⟩ := hT p hp
            rw [ht.key]
            exact ⟨ht, of_decide_eq_true (List.all_eq_true.mp hsh k hk)⟩
          have O := swo_key (fun v : Value => (kvH s.heap v).map (·.2))
          refine sorted_ord O hl.isList (by rw [← rvs.length]; exact hz) (fun h2 h₁ a ha kk => ?_) fun out hs hb => ?_
          · refine tups_sortable (s := { s with heap := h₁ }) (by omega) (fun v hm => (hV v hm).1.keeps fun b o e _ => (kk b o e).2) (fun v hm => (hV v hm).2) fun o e => ?_
            have e' : some o = some (seqObj "list" its.toArray 0) := e.symm.trans ha
            cases e'
            intro c
            exact absurd (Value.type.inj c) (by decide)
          · have eout : out = (isort (fun p q : D × V × Value => lexL ((kvH s.heap p.2.2).map (·.2)) ((kvH s.heap q.2.2).map (·.2))) P).map (·.2.2) := by
              have O2 : Swo (fun p q : D × V × Value => lexL ((kvH s.heap p.2.2).map (·.2)) ((kvH s.heap q.2.2).map (·.2))) := swo_key (fun p : D × V × Value => (kvH s.heap p.2.2).map (·.2))
              refine stb_uniq O hs (List.pairwise_map.mpr (isort_srtd O2 P)) ?_
              have h3 := Stb.map O (fun p : D × V × Value => p.2.2) (isort_stb O2 P)
              rw [p3] at h3
              exact hb.trans ⟨h3.perm.symm, fun x => (h3.cls x).symm⟩
            have hsame : isort ltD xs = (isort (fun p q : D × V × Value => lexL ((kvH s.heap p.2.2).map (·.2)) ((kvH s.heap q.2.2).map (·.2))) P).map (·.1) := by
              rw [← p1, isort_map]
              congr 1
              refine isort_congr fun p hp q hq => ?_
              obtain ⟨k, _, e1, t1⟩ := hT p hp
              obtain ⟨k', _, e2, t2⟩ := hT q hq
              rw [t1.key, t2.key]
              unfold ltD keyT
              rw [e1, e2] <;> rfl
            generalize hP' : isort (fun p q : D × V × Value => lexL ((kvH s.heap p.2.2).map (·.2)) ((kvH s.heap q.2.2).map (·.2))) P = P' at eout hsame
            have hm : ∀ p ∈ P', p ∈ P := fun p hp => by rw [← hP'] at hp; exact (isort_perm P).mem_iff.mp hp
            have kp := fun b o (e : s.heap.get? b = some o) => sortedAll_old (vs := its) (out := out.toArray) e
            obtain ⟨n, hn⟩ := sortedAll_at s.heap its out.toArray
            subst eout
            have hlen : (P'.map (·.2.1)).length ≤ sizeLine := by
              have : P'.length = P.length := by rw [← hP']; exact (isort_perm P).length_eq
              have h4 := congrArg List.length p2
              rw [List.length_map] at h4 ⊢
              omega
            have hnone := I.hok.fresh (Nat.le_succ s.heap.objs.size)
            refine ⟨.ref _, _, I.laid (t' := s.toks) (o := .lst (P'.map (·.2.1))) kp (Nat.le_succ _) ⟨hlen, _, n, vals_P fun p hp => (hP p (hm p hp)).2, hn⟩, rfl, ?_⟩
            rw [hsame] at q
            exact q ι (upd F _ (.lst (P'.map (·.2.1)))) _ _ (Le.new (r.free hnone)) (r.frozen hnone) ⟨_, _, rfl, .inl (.inl upd_same), RepL.le (Le.new (r.free hnone)) (rep_P fun p hp => (hP p (hm p hp)).1)⟩
        · cases e
      · cases e
    · cases e
  · cases e
end
end LD
namespace LD
open PySem PySem.Spec PyProof.Rows L2

/-! ### one keyword-only parameter with a default, the last one, not written at the call -/
/-- the def at f as the text has it; its keyword-only defaults stand in the dict at D -/
def FnAtD (K : PySem.W.Frag) (x qual : Str) (st : Stmt) (f D : Addr) : Prop := ∃ (oc : Value) (od : Option Addr) (doc pm : Value) (an : Option Addr) (cdv ct : Value) (osl : Array (Option Value)),
  K.lookup f = some ⟨oc, od, .func (PySem.W.fnOf x qual (defArgs st) (defBody st) (defScope st) .none (.ref D) doc pm an cdv ct), osl⟩ ∧ PySem.W.codeIn K cdv qual = true ∧ PySem.W.keepIn K (.ref f) = true
theorem fnAtD_mk {K : PySem.W.Frag} {x qual : Str} {st : Stmt} {f D : Addr} {oc : Value} {od : Option Addr} {doc pm : Value} {an : Option Addr} {cdv ct : Value} {osl : Array (Option Value)}
    (l : K.lookup f = some ⟨oc, od, .func (PySem.W.fnOf x qual (defArgs st) (defBody st) (defScope st) .none (.ref D) doc pm an cdv ct), osl⟩) (c : PySem.W.codeIn K cdv qual = true) (k : PySem.W.keepIn K (.ref f) = true) : FnAtD K x qual st f D := ⟨_, _, _, _, _, _, _, _, l, c, k⟩
def withD (φ : FnD) (d : D) : FnD := fun ds M => φ (ds ++ [d]) M
theorem callee_kw1 {P : Program} {w : World} {K : PySem.W.Frag} {mg : Str → Option Value} {base : Heap} {T : Tab} {f D : Addr} {fd : FuncData} {ps ks : List Str} {k n : Nat} {φ : FnD} {nm : Str} {d : LD.D} {v : V} {u : Value} (F : FnX P w K mg base T k f fd ps φ)
    (hn : PySem.W.nsIn K D nm = some (some u)) (rv : RelV v u) (hr : ∀ ι F, Rep ⟨K, T⟩ ι F d v)
    (hb : ∀ (us ws : List Value), us.length = n → ws.length = ks.length → KwChain D [(nm, u)] (bindArgs fd ⟨us, ks.zip ws⟩) (ps.zip (us ++ ws ++ [u]))) : Callee P w K mg base T k f n ks (withD φ d) := ⟨fun rs A outer s H us ws vs zs Q E hr0 e0 h1 h2 r1 r2 h => by
  have KX : K.In s.heap := e0.mod.kin.keeps fun b o e => (e0.bs b o e).1
  refine F.run rs A outer s H _ (us ++ ws ++ [u]) (vs ++ zs ++ [v]) Q E hr0 e0 (BindsTo.of_looks fun M => KwChain.looks KX (fun q hq => ?_) (hb us ws h1 h2)) ((r1.append r2).append (.cons rv .nil)) ?_
  · rw [List.mem_singleton.mp hq]
    exact hn
  · obtain ⟨ι, F', ds, M, r, rd, p⟩ := h
    exact ⟨ι, F', ds ++ [d], M, r, rd.append (.one (hr ι F')), p⟩⟩
end LD
namespace LD
open PySem PySem.Spec PyProof.Rows L2

/-! ### what sorted gives, by a key -/
def byK {α : Type} (k : α → List Int) (l : List α) : List α := isort (fun a b => lexL (k a) (k b)) l
theorem byK_perm {α : Type} {k : α → List Int} {l : List α} : (byK k l).Perm l := isort_perm l
theorem byK_srtd {α : Type} {k : α → List Int} {l : List α} : (byK k l).Pairwise fun a b => lexL (k b) (k a) = false := isort_srtd (swo_key k) l
theorem keyT_of {d : D} {ks : List (Bool × Int)} (h : tupS d = some ks) : keyT d = ks.map (·.2) := by
  unfold keyT
  rw [h] <;> rfl
theorem v_sort {α : Type} {e : α → D} {f : α → List (Bool × Int)} {sh : List Bool} {as : List α} {x : D} {M : Mem} (hl : lsOf M x = some (as.map e)) (h : ∀ a ∈ as, tupS (e a) = some (f a)) (hs : ∀ a ∈ as, (f a).map (·.1) = sh) :
    sortC [x] M = some (.lst ((byK (fun a => (f a).map (·.2)) as).map e), M) := by
  have e1 : mapO tupS (as.map e) = some (as.map f) := by
    clear hl hs
    induction as with
    | nil => rfl
    | cons a as ih =>
      show ((tupS (e a)).bind fun b => (mapO tupS (as.map e)).map fun bs => b :: bs) = _
      rw [h a List.mem_cons_self, ih fun b hb => h b (List.mem_cons_of_mem _ hb)] <;> rfl
  have e2 : (as.map f).all (fun k => decide (k.map (·.1) = (((as.map f).head?).getD []).map (·.1))) = true := List.all_eq_true.mpr fun k hk => by
    obtain ⟨a, ha, rfl⟩ := List.mem_map.mp hk
    refine decide_eq_true ?_
    cases as with
    | nil => nomatch ha
    | cons b as =>
      show _ = (f b).map (·.1)
      rw [hs a ha, hs b List.mem_cons_self]
  have e3 : isort ltD (as.map e) = (byK (fun a => (f a).map (·.2)) as).map e := by
    rw [isort_map]
    unfold byK
    congr 1
    exact isort_congr fun a ha b hb => by
      unfold ltD
      rw [keyT_of (h a ha), keyT_of (h b hb)]
  show (match lsOf M x with | some xs => _ | none => none) = _
  rw [hl]
  show (match mapO tupS (as.map e) with | some ks => _ | none => none) = _
  rw [e1]
  show (if _ then some (D.lst (isort ltD (as.map e)), M) else none) = _
  rw [if_pos e2, e3]
theorem rng' (n : Nat) : rangeL 0 n 1 = (List.range' 0 n).map fun i : Nat => D.int (i : Int) := by
  rw [rangeL_map, List.range_eq_range', List.map_map] <;> rfl
end LD
namespace LD
open PySem PySem.Spec PyProof.Rows L2

/-! ### == of lists, tuples and dicts that hold one another -/
def allO (f : D → D → Option Bool) : List D → List D → Option Bool
  | x :: xs, y :: ys => (f x y).bind fun a => (allO f xs ys).map fun b => a && b
  | [], [] => some true
  | _, _ => none
def tupO : D → Option (List D)
  | .tup xs => some xs
  | _ => none
def eqG : Nat → Mem → D → D → Option Bool
  | 0, _, _, _ => none
  | n + 1, M, x, y => if isF x && isF y then some (eqF x y) else
    match tupO x, tupO y with
    | some xs, some ys => allO (eqG n M) xs ys
    | _, _ => match lsOf M x, lsOf M y with
      | some xs, some ys => if xs.length = ys.length then allO (eqG n M) xs ys else some false
      | _, _ => match dcOf M x, dcOf M y with
        | some ks, some ls => if ks.length = 0 ∧ ls.length = 0 then some true else none
        | _, _ => none
section
variable {X : Cx} {T : Tab} {ι : List Addr} {F H : Hp} {M : Mem} {rs : List (Addr × HO)} {pins : List (Addr × Obj)} {σ : L2.St} {s : Shared}
theorem tup_at (r : Rel (kx X T) ι F rs H M) {d : D} {v : V} {xs : List D} (e : tupO d = some xs) (h : Rep (kx X T) ι F d v) : ∃ a vs, v = .ref a ∧ SqT X.K H a vs ∧ RepL (kx X T) ι F xs vs := by
  cases d <;> try cases e
  obtain ⟨a, vs, e1, h1, h2⟩ := h
  exact ⟨a, vs, e1, sqt_sub r h1, h2⟩
theorem rd_inj {a : Addr} {u w : List (Key × V)} (h : Rd H a (.dK u)) (h' : Rd H a (.dK w)) : u = w := by
  rcases h with h | ⟨o, h⟩ <;> rcases h' with h' | ⟨o', h'⟩ <;> rw [h] at h' <;> cases h' <;> rfl
theorem eqF_self {d e : D} {v : V} (hd : isF d = true) (he : isF e = true) (h : Rep (kx X T) ι F d v) (h' : Rep (kx X T) ι F e v) : eqF d e = true := by
  cases d <;> first
    | (cases hd; done)
    | (cases e <;> first
      | (cases he; done)
      | (cases h; cases h'; simp [eqF]; done)
      | (cases h; cases h'; rfl)
      | (cases h; cases h'; done)
      | (cases h; cases h'))
theorem allO_same {f : D → D → Option Bool} (hf : ∀ x y v b, f x y = some b → Rep (kx X T) ι F x v → Rep (kx X T) ι F y v → b = true) : ∀ {xs ys : List D} {vs : List V} {k : Bool}, allO f xs ys = some k → RepL (kx X T) ι F xs vs → RepL (kx X T) ι F ys vs → k = true
  | [], [], _, _, e, _, _ => by cases e; rfl
  | [], _ :: _, _, _, e, _, _ => by cases e
  | _ :: _, [], _, _, e, _, _ => by cases e
  | x :: xs, y :: ys, vs, k, e, h, h' => by
    obtain ⟨v, r, rfl, h1, h2⟩ := h
    obtain ⟨v', r', e1, h1', h2'⟩ := h'
    cases e1
    obtain ⟨a, ea, e⟩ := Option.bind_eq_some_iff.mp e
    obtain ⟨b, eb, e⟩ := Option.map_eq_some_iff.mp e
    rw [← e, hf _ _ _ _ ea h1 h1', allO_same hf eb h2 h2'] <;> rfl
theorem eqG_same (I : Inv X pins σ H s) (r : Rel (kx X T) ι F rs H M) : ∀ (n : Nat) (x y : D) (v : V) (k : Bool), eqG n M x y = some k → Rep (kx X T) ι F x v → Rep (kx X T) ι F y v → k = true
  | 0, _, _, _, _, e, _, _ => by cases e
  | n + 1, x, y, v, k, e, h, h' => by
    have ih := eqG_same I r n
    unfold eqG at e
    split at e
    · rename_i hf
      rw [Bool.and_eq_true] at hf
      cases e
      exact eqF_self hf.1 hf.2 h h'
    · split at e
      · rename_i xs ys e1 e2
        obtain ⟨a, vs, rfl, s1, l1⟩ := tup_at r e1 h
        obtain ⟨a', vs', e3, s2, l2⟩ := tup_at r e2 h'
        cases e3
        have := I.tuple_inj s1 s2
        subst this
        exact allO_same ih e l1 l2
      · split at e
        · rename_i xs ys e1 e2
          obtain ⟨a, vs, rfl, s1, l1⟩ := lsOf_at r e1 h
          obtain ⟨a', vs', e3, s2, l2⟩ := lsOf_at r e2 h'
          cases e3
          have := I.list_inj s1 s2
          subst this
          have hl : xs.length = ys.length := by rw [← RepL.length l1, RepL.length l2]
          rw [if_pos hl] at e
          exact allO_same ih e l1 l2
        · split at e
          · split at e
            · cases e; rfl
            · cases e
          · cases e
def pyA : D → PyData
  | .bl b => .bool b
  | .int i => .int i
  | .str x => .str x
  | _ => .none
theorem flat_val {d : D} {v : V} {u : Value} (hf : isF d = true) (h : Rep (kx X T) ι F d v) (rv : RelV v u) : PyProof.V.Flat u (pyA d) := by
  cases d <;> first
    | (cases hf; done)
    | (cases h; obtain ⟨t, rfl⟩ := rv; exact PyProof.V.Flat.int _ t)
    | (cases h; obtain ⟨t, rfl⟩ := rv; exact PyProof.V.Flat.str _ t)
    | (cases h; cases rv; exact PyProof.V.Flat.bool _)
    | (cases h; cases rv; exact PyProof.V.Flat.none)
theorem eqv_flat {d e : D} (hd : isF d = true) (he : isF e = true) : PyData.eqv (pyA d) (pyA e) = eqF d e := by
  cases d <;> first
    | (cases hd; done)
    | (cases e <;> first
      | (cases he; done)
      | rfl)
theorem allO_at {f : D → D → Option Bool} {P : Value → Value → Bool → Prop} (hf : ∀ x y v w u u' b, f x y = some b → Rep (kx X T) ι F x v → Rep (kx X T) ι F y w → RelV v u → RelV w u' → P u u' b) :
    ∀ {xs ys : List D} {vs ws : List V} {us us' : List Value} {k : Bool}, allO f xs ys = some k → RepL (kx X T) ι F xs vs → RepL (kx X T) ι F ys ws → Vals vs us → Vals ws us' →
    us.length = us'.length ∧ ∃ es : List Bool, es.length = us.length ∧ es.all id = k ∧ ∀ j (h1 : j < us.length) (h2 : j < us'.length), P us[j] us'[j] (es.getD j true)
  | [], [], _, _, us, us', _, e, h, h', r, r' => by
    cases e
    have h : _ = [] := h
    have h' : _ = [] := h'
    subst h; subst h'
    cases r; cases r'
    exact ⟨rfl, [], rfl, rfl, fun j h1 => absurd h1 (Nat.not_lt_zero _)⟩
  | [], _ :: _, _, _, _, _, _, e, _, _, _, _ => by cases e
  | _ :: _, [], _, _, _, _, _, e, _, _, _, _ => by cases e
  | x :: xs, y :: ys, vs, ws, us, us', k, e, h, h', r, r' => by
    obtain ⟨v, vr, rfl, h1, h2⟩ := h
    obtain ⟨w, wr, rfl, h3, h4⟩ := h'
    cases r with
    | cons ra rb =>
      cases r' with
      | cons rc rd =>
        obtain ⟨a, ea, e⟩ := Option.bind_eq_some_iff.mp e
        obtain ⟨b, eb, e⟩ := Option.map_eq_some_iff.mp e
        obtain ⟨hl, es, q1, q2, q3⟩ := allO_at hf eb h2 h4 rb rd
        refine ⟨by rw [List.length_cons, List.length_cons, hl], a :: es, by rw [List.length_cons, List.length_cons, q1], by rw [List.all_cons, q2]; exact e, fun j h1' h2' => ?_⟩
        cases j with
        | zero => exact hf _ _ _ _ _ _ _ ea h1 h3 ra rc
        | succ j => exact q3 j (Nat.lt_of_succ_lt_succ h1') (Nat.lt_of_succ_lt_succ h2')
theorem all_getD (es : List Bool) : ((List.range es.length).all fun j => es.getD j true) = es.all id := by
  rw [Bool.eq_iff_iff, List.all_eq_true, List.all_eq_true]
  constructor
  · intro h b hb
    obtain ⟨i, hi, rfl⟩ := List.mem_iff_getElem.mp hb
    have := h i (List.mem_range.mpr hi)
    rw [List.getD_eq_getElem?_getD, List.getElem?_eq_getElem hi] at this
    exact this
  · intro h i hi
    have hi := List.mem_range.mp hi
    rw [List.getD_eq_getElem?_getD, List.getElem?_eq_getElem hi]
    exact h _ (List.getElem_mem hi)
theorem dictOf_nil {P P' : Program} {w w' : World} {h : Heap} {a : Addr} (d : h.DictOf (mixKind P w) a []) : h.DictOf (mixKind P' w') a [] := by
  obtain ⟨o, es, ep, h1, h2, h3, h4, h5, h6⟩ := d
  have e : es.toList = [] := by
    generalize es.toList = l at h5
    cases h5
    rfl
  have e2 : es = #[] := by simpa using congrArg List.toArray e
  subst e2
  exact ⟨o, #[], ep, h1, h2, h3, fun x hx => absurd hx (by simp), .nil, List.Pairwise.nil⟩
theorem eqG_at (I : Inv X pins σ H s) (r : Rel (kx X T) ι F rs H M) : ∀ (n : Nat) (A : Around), A.units + n < cLine → ∀ (x y : D) (v w : V) (u u' : Value) (k : Bool), eqG n M x y = some k → Rep (kx X T) ι F x v → Rep (kx X T) ι F y w → RelV v u → RelV w u' → SeqAt.EqAt A s u u' k
  | 0, _, _, _, _, _, _, _, _, _, e, _, _, _, _ => by cases e
  | n + 1, A, hu, x, y, v, w, u, u', k, e0, h, h', rv, rw' => by
    have hin : A.in1.units + n < cLine := by
      have : A.in1.units ≤ A.units + 1 := by simp [Around.in1]
      omega
    have ih := eqG_at I r n A.in1 hin
    have e := e0
    unfold eqG at e
    split at e
    · rename_i hf
      rw [Bool.and_eq_true] at hf
      cases e
      rw [← eqv_flat hf.1 hf.2]
      exact PySem.W.keq_flat (flat_val hf.1 h rv) (flat_val hf.2 h' rw')
    · have same : ∀ {a : Addr}, v = .ref a → w = .ref a → SeqAt.EqAt A s u u' k := fun {a} e1 e2 => by
        subst e1; subst e2
        cases rv; cases rw'
        rw [eqG_same I r (n + 1) x y (.ref a) k e0 h h']
        exact SeqAt.EqAt.same _
      split at e
      · rename_i xs ys e1 e2
        obtain ⟨a, vs, rfl, s1, l1⟩ := tup_at r e1 h
        obtain ⟨b, ws, rfl, s2, l2⟩ := tup_at r e2 h'
        by_cases hab : a = b
        · exact same rfl (by rw [hab])
        · cases rv; cases rw'
          obtain ⟨us, r1, ⟨o1, p1⟩, _⟩ := I.tuple s1
          obtain ⟨us', r2, ⟨o2, p2⟩, _⟩ := I.tuple s2
          obtain ⟨hl, es, q1, q2, q3⟩ := allO_at (P := fun u u' b => SeqAt.EqAt A.in1 s u u' b) ih e l1 l2 r1 r2
          have z := SeqAt.RcAt.tuples (A := A) (s := s) (l := a) (b := b) (items := us.toArray) (items2 := us'.toArray) (e := fun j => es.getD j true) ⟨o1, p1⟩ ⟨o2, p2⟩ (by omega) (fun j h1 h2 => q3 j (by simpa using h1) (by simpa using h2))
          have e3 : ((List.range (min us.toArray.size us'.toArray.size)).all (fun j => es.getD j true) && us.toArray.size == us'.toArray.size) = k := by
            rw [List.size_toArray, List.size_toArray, ← hl, Nat.min_self, ← q1, all_getD, q2, beq_self_eq_true, Bool.and_true]
          rw [e3] at z
          exact SeqAt.EqAt.of_refs hab z
      · split at e
        · rename_i xs ys e1 e2
          obtain ⟨a, vs, rfl, s1, l1⟩ := lsOf_at r e1 h
          obtain ⟨b, ws, rfl, s2, l2⟩ := lsOf_at r e2 h'
          by_cases hab : a = b
          · exact same rfl (by rw [hab])
          · cases rv; cases rw'
            obtain ⟨us, r1, p1, _⟩ := I.list s1
            obtain ⟨us', r2, p2, _⟩ := I.list s2
            split at e
            · obtain ⟨hl, es, q1, q2, q3⟩ := allO_at (P := fun u u' b => SeqAt.EqAt A.in1 s u u' b) ih e l1 l2 r1 r2
              have z := SeqAt.RcAt.lists (A := A) (s := s) (e := fun j => es.getD j true) p1.isList p2.isList (by simpa using hl) (by omega) (fun j h1 h2 => q3 j (by simpa using h1) (by simpa using h2))
              have e3 : (List.range us.toArray.size).all (fun j => es.getD j true) = k := by
                rw [List.size_toArray, ← q1, all_getD, q2]
              rw [e3] at z
              exact SeqAt.EqAt.of_refs hab z
            · rename_i hl
              cases e
              have d1 := RepL.length l1
              have d2 := RepL.length l2
              have d3 := r1.length
              have d4 := r2.length
              have z := SeqAt.RcAt.lists_lengths (A := A) (s := s) p1.isList p2.isList (by rw [List.size_toArray, List.size_toArray, bne_iff_ne]; omega) (by omega)
              exact SeqAt.EqAt.of_refs hab z
        · split at e
          · rename_i ks ls e1 e2
            obtain ⟨a, vs, rfl, s1, m1, m2⟩ := dcOf_at r e1 h
            obtain ⟨b, ws, rfl, s2, m3, m4⟩ := dcOf_at r e2 h'
            by_cases hab : a = b
            · exact same rfl (by rw [hab])
            · cases rv; cases rw'
              obtain ⟨_, ya, va, ra, da⟩ := dk_rd I.hok s1
              obtain ⟨_, yb, vb, rb, db⟩ := dk_rd I.hok s2
              split at e
              · rename_i hz
                cases e
                have d1 := congrArg List.length m1
                have d2 := congrArg List.length m3
                rw [List.length_map, List.length_map] at d1 d2
                have z1 : va = [] := List.length_eq_zero_iff.mp (by rw [← ra.length]; omega)
                have z2 : vb = [] := List.length_eq_zero_iff.mp (by rw [← rb.length]; omega)
                subst z1; subst z2
                have go : SeqAt.RcAt A s (.ref a) (.ref b) true := fun prog' w' E Q hq => PySem.W.keq_eq (knd := mixKind prog' w') (r := true) ya yb (dictOf_nil da) (dictOf_nil db) (by omega) (fun _ => .nil) hq
                exact SeqAt.EqAt.of_refs hab go
              · cases e
          · cases e
theorem eqG_top (I : Inv X pins σ H s) (r : Rel (kx X T) ι F rs H M) (n : Nat) (A : Around) (hu : A.units + (n + 1) < cLine) (x y : D) (v w : V) (u u' : Value) (k : Bool) (e : eqG (n + 1) M x y = some k) (hx : ((tupO x).isSome || (lsOf M x).isSome) = true) (h : Rep (kx X T) ι F x v) (h' : Rep (kx X T) ι F y w) (rv : RelV v u) (rw' : RelV w u') :
    SeqAt.RcAt A s u u' k ∧ SeqAt.RcNeAt A s u u' (!k) := by
  have hin : A.in1.units + n < cLine := by
    have : A.in1.units ≤ A.units + 1 := by simp [Around.in1]
    omega
  have ih := eqG_at I r n A.in1 hin
  unfold eqG at e
  split at e
  · rename_i hf
    rw [Bool.and_eq_true] at hf
    exfalso
    have h1 := hf.1
    cases x <;> first | (cases h1; done) | (cases hx; done)
  · split at e
    · rename_i xs ys e1 e2
      obtain ⟨a, vs, rfl, s1, l1⟩ := tup_at r e1 h
      obtain ⟨b, ws, rfl, s2, l2⟩ := tup_at r e2 h'
      cases rv; cases rw'
      obtain ⟨us, r1, ⟨o1, p1⟩, _⟩ := I.tuple s1
      obtain ⟨us', r2, ⟨o2, p2⟩, _⟩ := I.tuple s2
      obtain ⟨hl, es, q1, q2, q3⟩ := allO_at (P := fun u u' b => SeqAt.EqAt A.in1 s u u' b) ih e l1 l2 r1 r2
      have z := SeqAt.RcAt.tuples (A := A) (s := s) (l := a) (b := b) (items := us.toArray) (items2 := us'.toArray) (e := fun j => es.getD j true) ⟨o1, p1⟩ ⟨o2, p2⟩ (by omega) (fun j h1 h2 => q3 j (by simpa using h1) (by simpa using h2))
      have z' := SeqAt.RcNeAt.tuples (A := A) (s := s) (l := a) (b := b) (items := us.toArray) (items2 := us'.toArray) (e := fun j => es.getD j true) ⟨o1, p1⟩ ⟨o2, p2⟩ (by omega) (fun j h1 h2 => q3 j (by simpa using h1) (by simpa using h2))
      have e3 : ((List.range (min us.toArray.size us'.toArray.size)).all (fun j => es.getD j true) && us.toArray.size == us'.toArray.size) = k := by
        rw [List.size_toArray, List.size_toArray, ← hl, Nat.min_self, ← q1, all_getD, q2, beq_self_eq_true, Bool.and_true]
      rw [e3] at z z'
      exact ⟨z, z'⟩
    · split at e
      · rename_i xs ys e1 e2
        obtain ⟨a, vs, rfl, s1, l1⟩ := lsOf_at r e1 h
        obtain ⟨b, ws, rfl, s2, l2⟩ := lsOf_at r e2 h'
        cases rv; cases rw'
        obtain ⟨us, r1, p1, _⟩ := I.list s1
        obtain ⟨us', r2, p2, _⟩ := I.list s2
        split at e
        · obtain ⟨hl, es, q1, q2, q3⟩ := allO_at (P := fun u u' b => SeqAt.EqAt A.in1 s u u' b) ih e l1 l2 r1 r2
          have z := SeqAt.RcAt.lists (A := A) (s := s) (e := fun j => es.getD j true) p1.isList p2.isList (by simpa using hl) (by omega) (fun j h1 h2 => q3 j (by simpa using h1) (by simpa using h2))
          have z' := SeqAt.RcNeAt.lists (A := A) (s := s) (e := fun j => es.getD j true) p1.isList p2.isList (by simpa using hl) (by omega) (fun j h1 h2 => q3 j (by simpa using h1) (by simpa using h2))
          have e3 : (List.range us.toArray.size).all (fun j => es.getD j true) = k := by
            rw [List.size_toArray, ← q1, all_getD, q2]
          rw [e3] at z z'
          exact ⟨z, z'⟩
        · rename_i hl
          cases e
          have d1 := RepL.length l1
          have d2 := RepL.length l2
          have d3 := r1.length
          have d4 := r2.length
          exact ⟨SeqAt.RcAt.lists_lengths (A := A) (s := s) p1.isList p2.isList (by rw [List.size_toArray, List.size_toArray, bne_iff_ne]; omega) (by omega), SeqAt.RcNeAt.lists_lengths (A := A) (s := s) p1.isList p2.isList (by rw [List.size_toArray, List.size_toArray, bne_iff_ne]; omega) (by omega)⟩
      · rename_i hn1 hn2
        exfalso
        split at e
        · rename_i ks ls e1 e2
          have key : ∀ z : D, dcOf M z = some ks → ((tupO z).isSome || (lsOf M z).isSome) = true → False := fun z e1 hx => by
            cases z with
            | ref i =>
              simp only [dcOf] at e1
              split at e1
              · rename_i hM
                have q : lsOf M (.ref i) = none := by simp only [lsOf, hM]
                rw [q] at hx
                cases hx
              · cases e1
            | tup xs => cases e1
            | lst xs => cases e1
            | _ => cases hx
          exact key x e1 hx
        · cases e
/-- == and != of lists and tuples, with what they hold -/
def eqQ (M : Mem) (x y : D) : Option Bool := if (tupO x).isSome || (lsOf M x).isSome then eqG 12 M x y else eqD M x y
theorem o_eqQ (hu : X.A.units + 64 < cLine) : OpR X (compareOp .Eq) (RO2 (kx X T) rs (boD eqQ)) := fun pins s σ H x y v u Q I rx ry h => by
  obtain ⟨ι, F, M, d, e, z, M', r, h1, h2, g, q⟩ := h
  unfold boD at g
  obtain ⟨k, g1, g2⟩ := Option.map_eq_some_iff.mp g
  cases g2
  unfold eqQ at g1
  split at g1
  · rename_i hs
    exact (eqG_top I r 11 X.A (by omega) d e x y v u k g1 hs h1 h2 rx ry).1 X.prog X.w _ _ ⟨.bl k, H, I, rfl, q ι F H _ Le.refl r rfl⟩
  · exact o_eq hu pins s σ H x y v u Q I rx ry ⟨ι, F, M, d, e, .bl k, M, r, h1, h2, by unfold boD; rw [g1] <;> rfl, q⟩
theorem o_neQ (hu : X.A.units + 64 < cLine) : OpR X (compareOp .NotEq) (RO2 (kx X T) rs (boD (notB eqQ))) := fun pins s σ H x y v u Q I rx ry h => by
  obtain ⟨ι, F, M, d, e, z, M', r, h1, h2, g, q⟩ := h
  unfold boD at g
  obtain ⟨k, g1, g2⟩ := Option.map_eq_some_iff.mp g
  cases g2
  obtain ⟨k', g3, g4⟩ := Option.map_eq_some_iff.mp g1
  unfold eqQ at g3
  split at g3
  · rename_i hs
    have z := (eqG_top I r 11 X.A (by omega) d e x y v u k' g3 hs h1 h2 rx ry).2
    rw [g4] at z
    exact z X.prog X.w _ _ ⟨.bl k, H, I, rfl, q ι F H _ Le.refl r rfl⟩
  · exact o_ne hu pins s σ H x y v u Q I rx ry ⟨ι, F, M, d, e, .bl k, M, r, h1, h2, by unfold boD notB; rw [g3]; show some (D.bl (!k'), M) = _; rw [g4], q⟩
end
/-! ### rows for evaluation -/
theorem v_lenO {tb : List (Nat × FnD)} {xs : List D} {M : Mem} : lenO tb [.lst xs] M = some (.int xs.length, M) := rfl
theorem v_eqQi {p q : Int} {M : Mem} : boD eqQ (.int p) (.int q) M = some (.bl (p == q), M) := rfl
theorem v_neQi {p q : Int} {M : Mem} : boD (notB eqQ) (.int p) (.int q) M = some (.bl (!(p == q)), M) := rfl
end LD
namespace LD
open PySem PySem.Spec PyProof.Rows L2
open PySem.SeqAt (EqIn EqAt rcIn_lists rcIn_tuples)

/-! ### != of lists and tuples in one world -/
section
open PySem.AutoSeq1 (wpAny_loadPart')
open PySem.SeqAt PySem.MeetsSeq PySem.MeetsSeq2 PySem.MeetsSeq3 PySem.SeqRoads2
variable {pr : Program} {wo : World}
theorem neL_loop (pl pb : Addr) (us ws : Array Value) (nu nw : Nat) (du dw : Option Addr) (su sw : Array (Option Value)) (hz : us.size = ws.size) (f : Nat → Bool) : ∀ (m i : Nat), us.size - i = m →
    MeetsIn pr wo (Builtin.«list.__eq__.loop» ⟨[.ref pl, .ref pb, rawInt i, rawInt 3], []⟩) (fun B R c => c.heap.get? pl = some { cls := .type "list", dict := du, data := .seq us nu, slots := su } ∧ c.heap.get? pb = some { cls := .type "list", dict := dw, data := .seq ws nw, slots := sw } ∧
      (∀ j (p : j < us.size) (q : j < ws.size), EqIn pr wo B.in1 c us[j] ws[j] (f j)) ∧ R (.ok (.ret (.bool (!((List.range us.size).drop i).all f)))) c)
  | 0, i, hm => by
    intro B R c hc
    obtain ⟨c1, c2, c3, c4, c5⟩ := c
    obtain ⟨q1, q2, _, q4⟩ := hc
    have z1 : us[((i : Nat) : Int).toNat]? = none := by simp; omega
    have z2 : ws[((i : Nat) : Int).toNat]? = none := by simp; omega
    have z3 : (List.range us.size).drop i = [] := by simp; omega
    wp_walk using wpAny_loadPart' q1, wpAny_loadPart' q2
    rw [z1, z2]
    wp_walk using wpAny_loadPart' q1, wpAny_loadPart' q2
    show R (.ok (.ret (.bool (us.size != ws.size)))) _
    rw [z3] at q4
    rw [hz]
    simpa using q4
  | m + 1, i, hm => by
    intro B R c hc
    obtain ⟨c1, c2, c3, c4, c5⟩ := c
    obtain ⟨q1, q2, q3, q4⟩ := hc
    have l1 : i < us.size := by omega
    have l2 : i < ws.size := by omega
    have z1 : us[((i : Nat) : Int).toNat]? = some us[i] := by simp [l1]
    have z2 : ws[((i : Nat) : Int).toNat]? = some ws[i] := by simp [l2]
    have z3 : (List.range us.size).drop i = i :: (List.range us.size).drop (i + 1) := by simp [List.drop_eq_getElem_cons, l1]
    have z4 : ((i : Int) + 1) = ((i + 1 : Nat) : Int) := by omega
    wp_walk using wpAny_loadPart' q1, wpAny_loadPart' q2
    rw [z3, List.all_cons] at q4
    rw [z1, z2]
    refine wpAny_bind (q3 i l1 l2 _ _ ?_)
    cases hf : f i with
    | true =>
      rw [hf] at q4
      wp_walk
      rw [z4]
      exact ⟨plainId_quiet plain_eq_loop _, codeAny_builtin entry_eq_loop (by
        rw [Around.under_plainId plain_eq_loop _]
        exact neL_loop pl pb us ws nu nw du dw su sw hz f m (i + 1) (by omega) B R _ ⟨q1, q2, q3, by simpa using q4⟩)⟩
    | false =>
      rw [hf] at q4
      wp_walk using wpAny_loadPart' q1, wpAny_loadPart' q2
      rw [z1, z2]
      wp_walk
      simpa using q4
theorem neL_in (pl pb : Addr) (us ws : Array Value) (nu nw : Nat) (du dw : Option Addr) (su sw : Array (Option Value)) (hz : us.size = ws.size) (f : Nat → Bool) :
    MeetsIn pr wo (Builtin.«list.__ne__» ⟨[.ref pl, .ref pb], []⟩) (fun B R c => c.heap.get? pl = some { cls := .type "list", dict := du, data := .seq us nu, slots := su } ∧ c.heap.get? pb = some { cls := .type "list", dict := dw, data := .seq ws nw, slots := sw } ∧
      (∀ j (p : j < us.size) (q : j < ws.size), EqIn pr wo B.in1 c us[j] ws[j] (f j)) ∧ R (.ok (.ret (.bool (!(List.range us.size).all f)))) c) := by
  intro B R c hc
  obtain ⟨c1, c2, c3, c4, c5⟩ := c
  obtain ⟨q1, q2, q3, q4⟩ := hc
  have g3 := AutoSeq1.sub_list_list
  have gz : ¬ (us.size != ws.size) = true := by simp [hz]
  wp_walk using wpAny_loadPart' q1, wpAny_loadPart' q2
  exact ⟨plainId_quiet plain_eq_loop _, codeAny_builtin entry_eq_loop (by
    rw [Around.under_plainId plain_eq_loop _]
    exact neL_loop pl pb us ws nu nw du dw su sw hz f _ 0 rfl B R _ ⟨q1, q2, q3, by simpa using q4⟩)⟩
theorem neT_in (pl pb : Addr) (us ws : Array Value) (nu nw : Nat) (du dw : Option Addr) (su sw : Array (Option Value)) (f : Nat → Bool) :
    MeetsIn pr wo (Builtin.«tuple.__ne__» ⟨[.ref pl, .ref pb], []⟩) (fun B R c => c.heap.get? pl = some { cls := .type "tuple", dict := du, data := .seq us nu, slots := su } ∧ c.heap.get? pb = some { cls := .type "tuple", dict := dw, data := .seq ws nw, slots := sw } ∧
      (∀ j (p : j < us.size) (q : j < ws.size), EqIn pr wo B.in1 c us[j] ws[j] (f j)) ∧ R (.ok (.ret (.bool (!((List.range (min us.size ws.size)).all f && us.size == ws.size))))) c) :=
  .of_wp fun B R c hc => by
    obtain ⟨c1, c2, c3, c4, c5⟩ := c
    obtain ⟨q1, q2, q3, q4⟩ := hc
    have g2 := AutoSeq1.sub_tuple_tuple
    have lz : (us.toList.zip ws.toList).length = min us.size ws.size := by simp
    wp_walk using wpAny_loadPart' q1, wpAny_loadPart' q2, wpAny_forIn_list _ (fun more b c' => b.1 = none ∧ c' = ⟨c1, c2, c3, c4, c5⟩ ∧ ∃ i, more = (us.toList.zip ws.toList).drop i ∧ R (.ok (.ret (.bool (!(((List.range (min us.size ws.size)).drop i).all f && us.size == ws.size))))) ⟨c1, c2, c3, c4, c5⟩) _
    case turn =>
      rintro ⟨y, x⟩ more b c' ⟨hb, rfl, i, hm, hR⟩
      have k1 : i < (us.toList.zip ws.toList).length := Nat.lt_of_not_le fun h => by rw [List.drop_of_length_le h] at hm; cases hm
      have k2 : i < min us.size ws.size := lz ▸ k1
      have k3 : i < us.size := Nat.lt_of_lt_of_le k2 (Nat.min_le_left _ _)
      have k4 : i < ws.size := Nat.lt_of_lt_of_le k2 (Nat.min_le_right _ _)
      rw [List.drop_eq_getElem_cons k1] at hm
      obtain ⟨m1, m2⟩ := List.cons.inj hm
      have e1 : y = us[i] := by simpa using congrArg Prod.fst m1
      have e2 : x = ws[i] := by simpa using congrArg Prod.snd m1
      subst e1
      subst e2
      rw [show (List.range (min us.size ws.size)).drop i = i :: (List.range (min us.size ws.size)).drop (i + 1) by simp [List.drop_eq_getElem_cons, k2], List.all_cons] at hR
      refine wpAny_bind (q3 i k3 k4 _ _ ?_)
      cases hf : f i with
      | true =>
        rw [hf] at hR
        wp_walk
        exact ⟨rfl, rfl, i + 1, m2, by simpa using hR⟩
      | false =>
        rw [hf] at hR
        wp_walk
        exact ⟨_, rfl, by simpa using hR⟩
    case fin =>
      rintro ⟨b1, b2⟩ c' ⟨hb, rfl, i, hm, hR⟩
      simp only at hb
      subst hb
      have k1 : min us.size ws.size ≤ i := by
        rcases Nat.lt_or_ge i (us.toList.zip ws.toList).length with h | h
        · rw [List.drop_eq_getElem_cons h] at hm; cases hm
        · exact lz ▸ h
      rw [List.drop_of_length_le (by simpa using k1)] at hR
      wp_walk
      exact ⟨_, rfl, by simpa [Builtin.Tuple.tupleCompareSizes, bne] using hR⟩
    case h => exact ⟨rfl, rfl, 0, rfl, by simpa using q4⟩
variable {A : Around} {E Q : Value → Shared → Prop} {c : Shared} {pl pb : Addr} {us ws : Array Value} {f : Nat → Bool}
theorem neIn_lists (hl : c.heap.IsList pl us) (hb : c.heap.IsList pb ws) (hz : us.size = ws.size) (hu : A.units < cLine) (he : ∀ j (p : j < us.size) (q : j < ws.size), EqIn pr wo A.in1 c us[j] ws[j] (f j)) (h : Q (.bool (!(List.range us.size).all f)) c) :
    wpAny (model pr wo) A (richCompare .NotEq (.ref pl) (.ref pb)) Q E c := by
  obtain ⟨⟨k1, d1, b1, s1⟩, o1, e1, n1, f1⟩ := id hl
  obtain ⟨⟨k2, d2, b2, s2⟩, o2, e2, n2, f2⟩ := id hb
  simp only at e1 f1 e2 f2
  subst e1 f1 e2 f2
  exact wpAny_richCompare_same_room (T := "list") (op := .NotEq) ⟨_, o1, rfl⟩ ⟨_, o2, rfl⟩ F.slot_list_ne (call_meetsIn F.slot_list_ne ⟨_, o1, rfl⟩ F.entry_list_ne (F.args_list_ne_2 _ _) (neL_in pl pb us ws n1 n2 d1 d2 s1 s2 hz f)
    ⟨o1, o2, he, show Value.bool (!(List.range us.size).all f) ≠ Value.notImplemented ∧ Q (.bool (!(List.range us.size).all f)) c from ⟨(fun x => nomatch x), h⟩⟩) hu
theorem neIn_tuples (hl : c.heap.IsTuple pl us) (hb : c.heap.IsTuple pb ws) (hu : A.units < cLine) (he : ∀ j (p : j < us.size) (q : j < ws.size), EqIn pr wo A.in1 c us[j] ws[j] (f j)) (h : Q (.bool (!((List.range (min us.size ws.size)).all f && us.size == ws.size))) c) :
    wpAny (model pr wo) A (richCompare .NotEq (.ref pl) (.ref pb)) Q E c := by
  obtain ⟨⟨k1, d1, b1, s1⟩, o1, e1, n1, f1⟩ := id hl
  obtain ⟨⟨k2, d2, b2, s2⟩, o2, e2, n2, f2⟩ := id hb
  simp only at e1 f1 e2 f2
  subst e1 f1 e2 f2
  exact wpAny_richCompare_same_room (T := "tuple") (op := .NotEq) ⟨_, o1, rfl⟩ ⟨_, o2, rfl⟩ F.slot_tuple_ne (call_meetsIn F.slot_tuple_ne ⟨_, o1, rfl⟩ F.entry_tuple_ne (F.args_tuple_ne_2 _ _) (neT_in pl pb us ws n1 n2 d1 d2 s1 s2 f)
    ⟨o1, o2, he, show Value.bool (!((List.range (min us.size ws.size)).all f && us.size == ws.size)) ≠ Value.notImplemented ∧ Q (.bool (!((List.range (min us.size ws.size)).all f && us.size == ws.size))) c from ⟨(fun x => nomatch x), h⟩⟩) hu
end
/-! ### == and != of lists, tuples and dicts that hold one another, dicts with entries, too -/
def allK (f : D → D → Option Bool) (ls : List (Key × D)) : List (Key × D) → Option Bool
  | [] => some true
  | (k, d) :: r => match getK ls k with
    | none => some false
    | some e => (f d e).bind fun a => (allK f ls r).map fun b => a && b
def eqH : Nat → Mem → D → D → Option Bool
  | 0, _, _, _ => none
  | n + 1, M, x, y => if isF x && isF y then some (eqF x y) else
    match tupO x, tupO y with
    | some xs, some ys => allO (eqH n M) xs ys
    | _, _ => match lsOf M x, lsOf M y with
      | some xs, some ys => if xs.length = ys.length then allO (eqH n M) xs ys else some false
      | _, _ => match dcOf M x, dcOf M y with
        | some ks, some ls => if ks.length = ls.length then allK (eqH n M) ls ks else some false
        | _, _ => none
section
variable {X : Cx} {T : Tab} {ι : List Addr} {F H : Hp} {M : Mem} {rs : List (Addr × HO)} {pins : List (Addr × Obj)} {σ : L2.St} {s : Shared}
theorem valV_mem {k : Key} {v : V} : ∀ {vs : List (Key × V)}, (vs.map (·.1)).Nodup → (k, v) ∈ vs → valV vs k = some v
  | [], _, h => by cases h
  | (k2, v2) :: vs, nd, h => by
    rw [List.map_cons, List.nodup_cons] at nd
    unfold valV
    rcases List.mem_cons.mp h with h | h
    · cases h
      rw [List.find?_cons_of_pos (by simp)] <;> rfl
    · rw [List.find?_cons_of_neg (by
        simp only [decide_eq_true_eq]
        intro e
        exact nd.1 (by rw [e]; exact List.mem_map.mpr ⟨(k, v), h, rfl⟩))]
      exact valV_mem nd.2 h
theorem allK_same {f : D → D → Option Bool} (hf : ∀ x y v b, f x y = some b → Rep (kx X T) ι F x v → Rep (kx X T) ι F y v → b = true) {ls : List (Key × D)} {vs : List (Key × V)} (h1 : vs.map (·.1) = ls.map (·.1)) (h2 : RepL (kx X T) ι F (ls.map (·.2)) (vs.map (·.2))) (nd : (vs.map (·.1)).Nodup) :
    ∀ (ks : List (Key × D)) (ws : List (Key × V)) (b : Bool), (∀ p ∈ ws, p ∈ vs) → ws.map (·.1) = ks.map (·.1) → RepL (kx X T) ι F (ks.map (·.2)) (ws.map (·.2)) → allK f ls ks = some b → b = true
  | [], _, b, _, _, _, e => by cases e; rfl
  | (k, d) :: r, [], b, _, e1, _, _ => by cases e1
  | (k, d) :: r, (k2, v) :: wr, b, hm, e1, e2, e => by
    obtain ⟨rfl, e3⟩ : k2 = k ∧ wr.map (·.1) = r.map (·.1) := List.cons.inj e1
    obtain ⟨v', r', z1, z2, z3⟩ := e2
    obtain ⟨rfl, rfl⟩ : v = v' ∧ wr.map (·.2) = r' := List.cons.inj z1
    have hv := valV_mem nd (hm _ List.mem_cons_self)
    have q := valV_rep (k := k2) h1 h2
    unfold allK at e
    cases hg : getK ls k2 with
    | none =>
      rw [hg] at q
      rw [hv] at q
      cases q
    | some d2 =>
      rw [hg] at q e
      obtain ⟨u, q1, q2⟩ := q
      rw [hv] at q1
      cases q1
      obtain ⟨a, ea, e⟩ := Option.bind_eq_some_iff.mp e
      obtain ⟨c, ec, e⟩ := Option.map_eq_some_iff.mp e
      rw [← e, hf _ _ _ _ ea z2 q2, allK_same hf h1 h2 nd r wr c (fun p hp => hm p (List.mem_cons_of_mem _ hp)) e3 z3 ec] <;> rfl
theorem dk_nd (I : Inv X pins σ H s) {a : Addr} {vs : List (Key × V)} (h : Rd H a (.dK vs)) : (vs.map (·.1)).Nodup := by
  obtain ⟨_, _, va, r, d⟩ := dk_rd I.hok h
  obtain ⟨o, es, ep, _, _, _, _, _, nd⟩ := d
  rw [r.keys]
  exact nd
theorem eqH_same (I : Inv X pins σ H s) (r : Rel (kx X T) ι F rs H M) : ∀ (n : Nat) (x y : D) (v : V) (k : Bool), eqH n M x y = some k → Rep (kx X T) ι F x v → Rep (kx X T) ι F y v → k = true
  | 0, _, _, _, _, e, _, _ => by cases e
  | n + 1, x, y, v, k, e, h, h' => by
    have ih := eqH_same I r n
    unfold eqH at e
    split at e
    · rename_i hf
      rw [Bool.and_eq_true] at hf
      cases e
      exact eqF_self hf.1 hf.2 h h'
    · split at e
      · rename_i xs ys e1 e2
        obtain ⟨a, vs, rfl, s1, l1⟩ := tup_at r e1 h
        obtain ⟨a', vs', e3, s2, l2⟩ := tup_at r e2 h'
        cases e3
        have := I.tuple_inj s1 s2
        subst this
        exact allO_same ih e l1 l2
      · split at e
        · rename_i xs ys e1 e2
          obtain ⟨a, vs, rfl, s1, l1⟩ := lsOf_at r e1 h
          obtain ⟨a', vs', e3, s2, l2⟩ := lsOf_at r e2 h'
          cases e3
          have := I.list_inj s1 s2
          subst this
          rw [if_pos (by rw [← RepL.length l1, RepL.length l2])] at e
          exact allO_same ih e l1 l2
        · split at e
          · rename_i ks ls e1 e2
            obtain ⟨a, vs, rfl, s1, m1, m2⟩ := dcOf_at r e1 h
            obtain ⟨a', vs', e3, s2, m3, m4⟩ := dcOf_at r e2 h'
            cases e3
            have := rd_inj s1 s2
            subst this
            have hl : ks.length = ls.length := by
              have d1 := congrArg List.length m1
              have d2 := congrArg List.length m3
              rw [List.length_map, List.length_map] at d1 d2
              omega
            rw [if_pos hl] at e
            exact allK_same ih m3 m4 (dk_nd I s1) ks vs k (fun _ h => h) m1 m2 e
          · cases e
theorem hits_at {pr : Program} {wo : World} {A : Around} {f : D → D → Option Bool} (hf : ∀ x y v w u u' b, f x y = some b → Rep (kx X T) ι F x v → Rep (kx X T) ι F y w → RelV v u → RelV w u' → EqIn pr wo A s u u' b) {ls : List (Key × D)} {ws : List (Key × V)} {wb : List (Key × Value)} (h1 : ws.map (·.1) = ls.map (·.1)) (h2 : RepL (kx X T) ι F (ls.map (·.2)) (ws.map (·.2))) (h3 : KV ws wb) :
    ∀ (ks : List (Key × D)) (vs : List (Key × V)) (va : List (Key × Value)) (b : Bool), vs.map (·.1) = ks.map (·.1) → RepL (kx X T) ι F (ks.map (·.2)) (vs.map (·.2)) → KV vs va → allK f ls ks = some b → PySem.W.KeqHitsIn pr wo A s wb va b
  | [], [], va, b, _, _, kv, e => by
    cases kv
    cases e
    exact .nil
  | [], _ :: _, _, _, e1, _, _, _ => by cases e1
  | _ :: _, [], _, _, e1, _, _, _ => by cases e1
  | (k, d) :: r, (k2, v) :: vr, va, b, e1, e2, kv, e => by
    obtain ⟨rfl, e3⟩ : k2 = k ∧ vr.map (·.1) = r.map (·.1) := List.cons.inj e1
    obtain ⟨v', r', z1, z2, z3⟩ := e2
    obtain ⟨rfl, rfl⟩ : v = v' ∧ vr.map (·.2) = r' := List.cons.inj z1
    cases kv with
    | @cons _ q _ va' kp kr =>
      obtain ⟨k3, u⟩ := q
      obtain ⟨kp1, kp2⟩ := kp
      have kp1 : k2 = k3 := kp1
      subst kp1
      have q := valV_rep (k := k2) h1 h2
      have qv := h3.val k2
      unfold allK at e
      cases hg : getK ls k2 with
      | none =>
        rw [hg] at q e
        have q : valV ws k2 = none := q
        rw [q] at qv
        cases e
        cases hw : valueAt wb k2 with
        | none => exact .miss hw
        | some y => rw [hw] at qv; exact qv.elim
      | some d2 =>
        rw [hg] at q e
        obtain ⟨w, q1, q2⟩ := q
        rw [q1] at qv
        obtain ⟨a, ea, e⟩ := Option.bind_eq_some_iff.mp e
        obtain ⟨c, ec, e⟩ := Option.map_eq_some_iff.mp e
        cases hw : valueAt wb k2 with
        | none => rw [hw] at qv; exact qv.elim
        | some y =>
          rw [hw] at qv
          rw [← e]
          exact .hit hw (hf _ _ _ _ _ _ _ ea z2 q2 kp2 qv) (hits_at hf h1 h2 h3 r vr va' c e3 z3 kr ec)
theorem eqH_at (I : Inv X pins σ H s) (r : Rel (kx X T) ι F rs H M) : ∀ (n : Nat) (A : Around), A.units + n < cLine → ∀ (x y : D) (v w : V) (u u' : Value) (k : Bool), eqH n M x y = some k → Rep (kx X T) ι F x v → Rep (kx X T) ι F y w → RelV v u → RelV w u' → EqIn X.prog X.w A s u u' k
  | 0, _, _, _, _, _, _, _, _, _, e, _, _, _, _ => by cases e
  | n + 1, A, hu, x, y, v, w, u, u', k, e0, h, h', rv, rw' => by
    have hin : A.in1.units + n < cLine := by
      have : A.in1.units ≤ A.units + 1 := by simp [Around.in1]
      omega
    have ih := eqH_at I r n A.in1 hin
    have e := e0
    unfold eqH at e
    split at e
    · rename_i hf
      rw [Bool.and_eq_true] at hf
      cases e
      rw [← eqv_flat hf.1 hf.2]
      have z : EqAt A s u u' (PyData.eqv (pyA x) (pyA y)) := PySem.W.keq_flat (flat_val hf.1 h rv) (flat_val hf.2 h' rw')
      exact z.inModel _ _
    · have same : ∀ {a : Addr}, v = .ref a → w = .ref a → EqIn X.prog X.w A s u u' k := fun {a} e1 e2 => by
        subst e1; subst e2
        cases rv; cases rw'
        rw [eqH_same I r (n + 1) x y (.ref a) k e0 h h']
        exact (SeqAt.EqAt.same _).inModel _ _
      split at e
      · rename_i xs ys e1 e2
        obtain ⟨a, vs, rfl, s1, l1⟩ := tup_at r e1 h
        obtain ⟨b, ws, rfl, s2, l2⟩ := tup_at r e2 h'
        by_cases hab : a = b
        · exact same rfl (by rw [hab])
        · cases rv; cases rw'
          obtain ⟨us, r1, ⟨o1, p1⟩, _⟩ := I.tuple s1
          obtain ⟨us', r2, ⟨o2, p2⟩, _⟩ := I.tuple s2
          obtain ⟨hl, es, q1, q2, q3⟩ := allO_at (P := fun u u' b => EqIn X.prog X.w A.in1 s u u' b) ih e l1 l2 r1 r2
          have e3 : ((List.range (min us.toArray.size us'.toArray.size)).all (fun j => es.getD j true) && us.toArray.size == us'.toArray.size) = k := by
            rw [List.size_toArray, List.size_toArray, ← hl, Nat.min_self, ← q1, all_getD, q2, beq_self_eq_true, Bool.and_true]
          exact SeqAt.EqIn.of_refs hab fun E Q hq => rcIn_tuples (items := us.toArray) (items2 := us'.toArray) (e := fun j => es.getD j true) ⟨o1, p1⟩ ⟨o2, p2⟩ (by omega) (fun j h1 h2 => q3 j (by simpa using h1) (by simpa using h2)) (by rw [e3]; exact hq)
      · split at e
        · rename_i xs ys e1 e2
          obtain ⟨a, vs, rfl, s1, l1⟩ := lsOf_at r e1 h
          obtain ⟨b, ws, rfl, s2, l2⟩ := lsOf_at r e2 h'
          by_cases hab : a = b
          · exact same rfl (by rw [hab])
          · cases rv; cases rw'
            obtain ⟨us, r1, p1, _⟩ := I.list s1
            obtain ⟨us', r2, p2, _⟩ := I.list s2
            split at e
            · obtain ⟨hl, es, q1, q2, q3⟩ := allO_at (P := fun u u' b => EqIn X.prog X.w A.in1 s u u' b) ih e l1 l2 r1 r2
              have e3 : (List.range us.toArray.size).all (fun j => es.getD j true) = k := by
                rw [List.size_toArray, ← q1, all_getD, q2]
              exact SeqAt.EqIn.of_refs hab fun E Q hq => rcIn_lists (items := us.toArray) (items2 := us'.toArray) (e := fun j => es.getD j true) p1.isList p2.isList (by simpa using hl) (by omega) (fun j h1 h2 => q3 j (by simpa using h1) (by simpa using h2)) (by rw [e3]; exact hq)
            · rename_i hl
              cases e
              have d1 := RepL.length l1
              have d2 := RepL.length l2
              have d3 := r1.length
              have d4 := r2.length
              have z : EqAt A s (.ref a) (.ref b) false := SeqAt.EqAt.of_refs hab (SeqAt.RcAt.lists_lengths (A := A) (s := s) p1.isList p2.isList (by rw [List.size_toArray, List.size_toArray, bne_iff_ne]; omega) (by omega))
              exact z.inModel _ _
        · split at e
          · rename_i ks ls e1 e2
            obtain ⟨a, vs, rfl, s1, m1, m2⟩ := dcOf_at r e1 h
            obtain ⟨b, ws, rfl, s2, m3, m4⟩ := dcOf_at r e2 h'
            by_cases hab : a = b
            · exact same rfl (by rw [hab])
            · cases rv; cases rw'
              obtain ⟨_, ya, va, ra, da⟩ := dk_rd I.hok s1
              obtain ⟨_, yb, vb, rb, db⟩ := dk_rd I.hok s2
              have d1 := congrArg List.length m1
              have d2 := congrArg List.length m3
              have d3 := ra.length
              have d4 := rb.length
              rw [List.length_map, List.length_map] at d1 d2
              split at e
              · rename_i hl
                have hits := hits_at ih m3 m4 rb ks vs va k m1 m2 ra e
                refine SeqAt.EqIn.of_refs hab fun E Q hq => PySem.W.keq_eqIn ya yb da db (by omega) (fun _ => hits) ?_
                rw [show (va.length == vb.length) = true from beq_iff_eq.mpr (by omega), Bool.true_and]
                exact hq
              · rename_i hl
                cases e
                have hnl : va.length ≠ vb.length := by omega
                refine SeqAt.EqIn.of_refs hab fun E Q hq => PySem.W.keq_eqIn (r := true) ya yb da db (by omega) (fun z => absurd z hnl) ?_
                rw [beq_eq_false_iff_ne.mpr hnl, Bool.false_and]
                exact hq
          · cases e
theorem eqH_top (I : Inv X pins σ H s) (r : Rel (kx X T) ι F rs H M) (n : Nat) (A : Around) (hu : A.units + (n + 1) < cLine) (x y : D) (v w : V) (u u' : Value) (k : Bool) (e : eqH (n + 1) M x y = some k) (hx : ((tupO x).isSome || (lsOf M x).isSome) = true) (h : Rep (kx X T) ι F x v) (h' : Rep (kx X T) ι F y w) (rv : RelV v u) (rw' : RelV w u') :
    (∀ E Q : Value → Shared → Prop, Q (.bool k) s → wpAny (model X.prog X.w) A (richCompare .Eq u u') Q E s) ∧ (∀ E Q : Value → Shared → Prop, Q (.bool (!k)) s → wpAny (model X.prog X.w) A (richCompare .NotEq u u') Q E s) := by
  have hin : A.in1.units + n < cLine := by
    have : A.in1.units ≤ A.units + 1 := by simp [Around.in1]
    omega
  have ih := eqH_at I r n A.in1 hin
  unfold eqH at e
  split at e
  · rename_i hf
    rw [Bool.and_eq_true] at hf
    exfalso
    have h1 := hf.1
    cases x <;> first | (cases h1; done) | (cases hx; done)
  · split at e
    · rename_i xs ys e1 e2
      obtain ⟨a, vs, rfl, s1, l1⟩ := tup_at r e1 h
      obtain ⟨b, ws, rfl, s2, l2⟩ := tup_at r e2 h'
      cases rv; cases rw'
      obtain ⟨us, r1, ⟨o1, p1⟩, _⟩ := I.tuple s1
      obtain ⟨us', r2, ⟨o2, p2⟩, _⟩ := I.tuple s2
      obtain ⟨hl, es, q1, q2, q3⟩ := allO_at (P := fun u u' b => EqIn X.prog X.w A.in1 s u u' b) ih e l1 l2 r1 r2
      have e3 : ((List.range (min us.toArray.size us'.toArray.size)).all (fun j => es.getD j true) && us.toArray.size == us'.toArray.size) = k := by
        rw [List.size_toArray, List.size_toArray, ← hl, Nat.min_self, ← q1, all_getD, q2, beq_self_eq_true, Bool.and_true]
      exact ⟨fun E Q hq => rcIn_tuples (items := us.toArray) (items2 := us'.toArray) (e := fun j => es.getD j true) ⟨o1, p1⟩ ⟨o2, p2⟩ (by omega) (fun j h1 h2 => q3 j (by simpa using h1) (by simpa using h2)) (by rw [e3]; exact hq),
        fun E Q hq => neIn_tuples (us := us.toArray) (ws := us'.toArray) (f := fun j => es.getD j true) ⟨o1, p1⟩ ⟨o2, p2⟩ (by omega) (fun j h1 h2 => q3 j (by simpa using h1) (by simpa using h2)) (by rw [e3]; exact hq)⟩
    · split at e
      · rename_i xs ys e1 e2
        obtain ⟨a, vs, rfl, s1, l1⟩ := lsOf_at r e1 h
        obtain ⟨b, ws, rfl, s2, l2⟩ := lsOf_at r e2 h'
        cases rv; cases rw'
        obtain ⟨us, r1, p1, _⟩ := I.list s1
        obtain ⟨us', r2, p2, _⟩ := I.list s2
        split at e
        · obtain ⟨hl, es, q1, q2, q3⟩ := allO_at (P := fun u u' b => EqIn X.prog X.w A.in1 s u u' b) ih e l1 l2 r1 r2
          have e3 : (List.range us.toArray.size).all (fun j => es.getD j true) = k := by
            rw [List.size_toArray, ← q1, all_getD, q2]
          exact ⟨fun E Q hq => rcIn_lists (items := us.toArray) (items2 := us'.toArray) (e := fun j => es.getD j true) p1.isList p2.isList (by simpa using hl) (by omega) (fun j h1 h2 => q3 j (by simpa using h1) (by simpa using h2)) (by rw [e3]; exact hq),
            fun E Q hq => neIn_lists (us := us.toArray) (ws := us'.toArray) (f := fun j => es.getD j true) p1.isList p2.isList (by simpa using hl) (by omega) (fun j h1 h2 => q3 j (by simpa using h1) (by simpa using h2)) (by rw [e3]; exact hq)⟩
        · rename_i hl
          cases e
          have d1 := RepL.length l1
          have d2 := RepL.length l2
          have d3 := r1.length
          have d4 := r2.length
          have z1 : SeqAt.RcAt A s (.ref a) (.ref b) false := SeqAt.RcAt.lists_lengths p1.isList p2.isList (by rw [List.size_toArray, List.size_toArray, bne_iff_ne]; omega) (by omega)
          have z2 : SeqAt.RcNeAt A s (.ref a) (.ref b) true := SeqAt.RcNeAt.lists_lengths p1.isList p2.isList (by rw [List.size_toArray, List.size_toArray, bne_iff_ne]; omega) (by omega)
          exact ⟨fun E Q hq => z1 X.prog X.w E Q hq, fun E Q hq => z2 X.prog X.w E Q hq⟩
      · rename_i hn1 hn2
        exfalso
        split at e
        · rename_i ks ls e1 e2
          have key : ∀ z : D, dcOf M z = some ks → ((tupO z).isSome || (lsOf M z).isSome) = true → False := fun z e1 hx => by
            cases z with
            | ref i =>
              simp only [dcOf] at e1
              split at e1
              · rename_i hM
                have q : lsOf M (.ref i) = none := by simp only [lsOf, hM]
                rw [q] at hx
                cases hx
              · cases e1
            | tup xs => cases e1
            | lst xs => cases e1
            | _ => cases hx
          exact key x e1 hx
        · cases e
/-- == and != of lists and tuples, with what they hold (dicts with entries, too) -/
def eqP (M : Mem) (x y : D) : Option Bool := if (tupO x).isSome || (lsOf M x).isSome then eqH 12 M x y else eqD M x y
theorem o_eqP (hu : X.A.units + 64 < cLine) : OpR X (compareOp .Eq) (RO2 (kx X T) rs (boD eqP)) := fun pins s σ H x y v u Q I rx ry h => by
  obtain ⟨ι, F, M, d, e, z, M', r, h1, h2, g, q⟩ := h
  unfold boD at g
  obtain ⟨k, g1, g2⟩ := Option.map_eq_some_iff.mp g
  cases g2
  unfold eqP at g1
  split at g1
  · rename_i hs
    exact (eqH_top I r 11 X.A (by omega) d e x y v u k g1 hs h1 h2 rx ry).1 _ _ ⟨.bl k, H, I, rfl, q ι F H _ Le.refl r rfl⟩
  · exact o_eq hu pins s σ H x y v u Q I rx ry ⟨ι, F, M, d, e, .bl k, M, r, h1, h2, by unfold boD; rw [g1] <;> rfl, q⟩
theorem o_neP (hu : X.A.units + 64 < cLine) : OpR X (compareOp .NotEq) (RO2 (kx X T) rs (boD (notB eqP))) := fun pins s σ H x y v u Q I rx ry h => by
  obtain ⟨ι, F, M, d, e, z, M', r, h1, h2, g, q⟩ := h
  unfold boD at g
  obtain ⟨k, g1, g2⟩ := Option.map_eq_some_iff.mp g
  cases g2
  obtain ⟨k', g3, g4⟩ := Option.map_eq_some_iff.mp g1
  unfold eqP at g3
  split at g3
  · rename_i hs
    have z := (eqH_top I r 11 X.A (by omega) d e x y v u k' g3 hs h1 h2 rx ry).2
    rw [g4] at z
    exact z _ _ ⟨.bl k, H, I, rfl, q ι F H _ Le.refl r rfl⟩
  · exact o_ne hu pins s σ H x y v u Q I rx ry ⟨ι, F, M, d, e, .bl k, M, r, h1, h2, by unfold boD notB; rw [g3]; show some (D.bl (!k'), M) = _; rw [g4], q⟩
end
/-! ### str.join -/
def joinG : OMt := fun x ds M => match x, ds with
  | .str a, [d] => match (match tupO d with | some xs => some xs | none => lsOf M d) with
    | some xs => match strsOf xs with
      | some ys => if (ys.map (·.length)).sum + ys.length * a.length ≤ 16777216 then some (.str (Txt.join a ys), M) else none
      | none => none
    | none => none
  | _, _ => none
theorem strs_rep {X : Cx} {T : Tab} {ι : List Addr} {F : Hp} : ∀ {xs : List D} {ys : List Str} {vs : List V}, strsOf xs = some ys → RepL (kx X T) ι F xs vs → vs = ys.map V.str
  | [], ys, vs, e, h => by cases e; exact h
  | x :: xs, ys, vs, e, h => by
    obtain ⟨v, r, rfl, h1, h2⟩ := h
    cases x <;> try (cases e; done)
    unfold strsOf at e
    obtain ⟨zs, e1, rfl⟩ := Option.map_eq_some_iff.mp e
    cases h1
    rw [strs_rep e1 h2] <;> rfl
section
variable {X : Cx} {T : Tab} {W : WX} {rs : List (Addr × HO)} {o e : Expr} {φ : Sem1 D} {α : Sem1 (List D)} {apos pos : Pos}
theorem m_join : MtR X "str.join" (RM (kx X T) rs joinG) := fun pins s σ H x xs v us Q I rx rxs h => by
  refine mt_join pins s σ H x xs v us Q I rx rxs ?_
  obtain ⟨ι, F, M, d, ds, z, M', r, rd, rds, e, q⟩ := h
  unfold joinG at e
  split at e
  · rename_i a c
    cases rd
    obtain ⟨w, wr, rfl, w1, w2⟩ := rds
    have w2 : wr = [] := w2
    subst w2
    split at e
    · rename_i ls hls
      split at e
      · rename_i ys hys
        split at e
        · rename_i hl
          cases e
          have key : ∃ p, w = .ref p ∧ (SqL X.K H p (ys.map V.str) ∨ SqT X.K H p (ys.map V.str)) := by
            split at hls
            · rename_i zs hz
              cases hls
              obtain ⟨p, vs, e1, e2, e3⟩ := tup_at r hz w1
              rw [strs_rep hys e3] at e2
              exact ⟨p, e1, .inr e2⟩
            · obtain ⟨p, vs, e1, e2, e3⟩ := lsOf_at r hls w1
              rw [strs_rep hys e3] at e2
              exact ⟨p, e1, .inl e2⟩
          obtain ⟨p, rfl, hp⟩ := key
          exact ⟨a, p, ys, rfl, rfl, hp, hl, q ι F H _ Le.refl r rfl⟩
        · cases e
      · cases e
    · cases e
  · cases e
theorem Join (ho : KE X T W o φ) (ha : KA X T W [e] α) (h1 : isSup o = false := by rfl) (hfew : ((backTo pos (starEach [e] X.env)).all (fun x => !x.1) && (backToKw pos (keywordEach [] X.env)).all (fun x => x.1.isSome)
      && decide (([e] : List Expr).length + ([] : List Keyword).length + (if ([] : List Keyword).isEmpty then 0 else 1) < 30)) = true := by rfl) (hline : (apos.endLine == pos.line) = true := by rfl) (h2 : [e].any isStar = false := by rfl) :
    KE X T W (.Call (.Attribute o "join" apos) [e] [] pos) (eBm isStrD joinG φ α) := d_bm PySem.F.plainAttrs_str PySem.F.slot_str_join PySem.F.type_str_join (fun _ => m_join) (fun r h e => ty_str r h e) ho ha h1 hfew hline h2
end
end LD
namespace LD
open PySem PySem.Spec PyProof.Rows L2
/-! ### a text a number of times -/
def repS (a : Str) (n : Nat) : Str := ⟨(List.replicate n a.cps).foldl (· ++ ·) #[]⟩
def mulG : O2 := fun x y M => match x, y with
  | .str a, .int n => if 1 ≤ a.length ∧ 2 ≤ n ∧ n < 65536 ∧ a.length < 256 then some (.str (repS a n.toNat), M) else none
  | x, y => mulD x y M
theorem rep_len : ∀ (n : Nat) (a c : Array Nat), ((List.replicate n a).foldl (· ++ ·) c).size = c.size + n * a.size
  | 0, a, c => by simp
  | n + 1, a, c => by
    rw [List.replicate_succ, List.foldl_cons, rep_len n a, Array.size_append, Nat.succ_mul]
    omega
theorem repS_len (a : Str) (n : Nat) : (repS a n).length = n * a.length := by
  show ((List.replicate n a.cps).foldl (· ++ ·) #[]).size = _
  rw [rep_len]
  simp [Str.length]
section
variable {X : Cx} {T : Tab} {rs : List (Addr × HO)}
theorem o_mulG : OpR X (binaryOp .Mult) (RO2 (kx X T) rs mulG) := fun pins s σ H x y v u Q I rx ry h => by
  obtain ⟨ι, F, M, d, e, z, M', r, h1, h2, g, q⟩ := h
  unfold mulG at g
  split at g
  · rename_i a n
    split at g
    · rename_i hc
      obtain ⟨c1, c2, c3, c4⟩ := hc
      cases g
      cases h1
      cases h2
      obtain ⟨t, rfl⟩ := rx
      obtain ⟨t2, rfl⟩ := ry
      have hlen : a.length * n.toNat ≤ 16777216 := by
        have h1 : a.length * n.toNat ≤ 256 * n.toNat := Nat.mul_le_mul_right _ (by omega)
        omega
      have n1 : ¬ n < 1 := by omega
      have n2 : (n == 1 || a.length == 0) = false := by
        rw [beq_eq_false_iff_ne.mpr (by omega), beq_eq_false_iff_ne.mpr (by omega)] <;> rfl
      have hl : Builtin.Str.tooLong (a.length * n.toNat) = false := by
        unfold Builtin.Str.tooLong
        exact decide_eq_false (by show ¬ _ > 2 ^ 24; omega)
      refine P.mul_str (by rw [decide_eq_false (by omega), decide_eq_false (by omega)] <;> rfl) (fun _ _ => ?_) (fun _ _ => hl) ?_
      · have : (a.length : Int) ≤ (2 ^ 63 - 1) / n := Int.le_ediv_of_mul_le (by omega) (by
          have h2 : (a.length : Int) * n ≤ 256 * n := Int.mul_le_mul_of_nonneg_right (by omega) (by omega)
          omega)
        omega
      · rw [if_neg n1, n2, if_neg Bool.false_ne_true]
        refine ⟨?_, ⟨.str (repS a n.toNat), H, I.tok _, ⟨_, rfl⟩, q ι F H _ Le.refl r rfl⟩⟩
        show _ ≤ _
        have := repS_len a n.toNat
        rw [Nat.mul_comm] at this
        unfold repS at this
        rw [this]
        exact hlen
    · cases g
  · exact o_mul pins s σ H x y v u Q I rx ry ⟨ι, F, M, d, e, z, M', r, h1, h2, g, q⟩
end
theorem v_mulGi {x : D} {i : Int} {M : Mem} : mulG (.int i) x M = mulD (.int i) x M := by unfold mulG; rfl
end LD
namespace LD
open PySem PySem.Spec PyProof.Rows L2
open PySem.SeqAt (EqIn EqAt)
/-! ### list.remove of what lists, tuples and dicts hold -/
section
open PySem.AutoSeq1 (wpAny_loadPart')
open PySem.SeqAt PySem.MeetsSeq PySem.MeetsSeq2 PySem.MeetsSeq3 PySem.SeqRoads2
variable {pr : Program} {wo : World}
theorem rm_loop (pl : Addr) (us : Array Value) (nu : Nat) (du : Option Addr) (su : Array (Option Value)) (x : Value) (f : Nat → Bool) (j : Nat) (hj : j < us.size) (hit : f j = true) (hz : us.size ≤ sizeLine) : ∀ (m i : Nat), j - i = m → i ≤ j → (∀ k, i ≤ k → k < j → f k = false) →
    MeetsIn pr wo (Builtin.«list.remove.loop» ⟨[.ref pl, x, rawInt i], []⟩) (fun B R c => c.heap.get? pl = some { cls := .type "list", dict := du, data := .seq us nu, slots := su } ∧ (∀ k (p : k < us.size), k ≤ j → EqIn pr wo B.in1 c us[k] x (f k)) ∧
      R (.ok (.ret .none)) { c with heap := c.heap.update pl (Obj.mapSeq fun ys => ys.eraseIdxIfInBounds j) })
  | 0, i, hm, hi, hno => by
    intro B R c hc
    obtain ⟨c1, c2, c3, c4, c5⟩ := c
    obtain ⟨q1, q2, q3⟩ := hc
    have hij : i = j := by omega
    subst hij
    have z1 : us[((i : Nat) : Int).toNat]? = some us[i] := by simp [hj]
    wp_walk using wpAny_loadPart' q1
    rw [z1]
    refine wpAny_bind (q2 i hj (Nat.le_refl _) _ _ ?_)
    rw [hit]
    have z2 : (us.eraseIdxIfInBounds i).size ≤ sizeLine + 1 := Nat.le_trans (size_erased us _) (Nat.le_succ_of_le hz)
    wp_walk using (wpAny_updateSeq q1 rfl (hz := hz) (_hz' := z2)), wpAny_loadPart' q1
    simpa using q3
  | m + 1, i, hm, hi, hno => by
    intro B R c hc
    obtain ⟨c1, c2, c3, c4, c5⟩ := c
    obtain ⟨q1, q2, q3⟩ := hc
    have l1 : i < us.size := by omega
    have z1 : us[((i : Nat) : Int).toNat]? = some us[i] := by simp [l1]
    have z4 : ((i : Int) + 1) = ((i + 1 : Nat) : Int) := by omega
    wp_walk using wpAny_loadPart' q1
    rw [z1]
    refine wpAny_bind (q2 i l1 hi _ _ ?_)
    rw [hno i (Nat.le_refl _) (by omega)]
    wp_walk
    rw [z4]
    exact ⟨plainId_quiet plain_remove_loop _, codeAny_builtin entry_remove_loop (by
      rw [Around.under_plainId plain_remove_loop _]
      exact rm_loop pl us nu du su x f j hj hit hz m (i + 1) (by omega) (by omega) (fun k h1 h2 => hno k (by omega) h2) B R _ ⟨q1, q2, q3⟩)⟩
theorem rm_in (pl : Addr) (us : Array Value) (nu : Nat) (du : Option Addr) (su : Array (Option Value)) (x : Value) (f : Nat → Bool) (j : Nat) (hj : j < us.size) (hit : f j = true) (hz : us.size ≤ sizeLine) (hno : ∀ k, k < j → f k = false) :
    MeetsIn pr wo (Builtin.«list.remove» ⟨[.ref pl, x], []⟩) (fun B R c => c.heap.get? pl = some { cls := .type "list", dict := du, data := .seq us nu, slots := su } ∧ (∀ k (p : k < us.size), k ≤ j → EqIn pr wo B.in1 c us[k] x (f k)) ∧
      R (.ok (.ret .none)) { c with heap := c.heap.update pl (Obj.mapSeq fun ys => ys.eraseIdxIfInBounds j) }) := by
  intro B R c hc
  obtain ⟨c1, c2, c3, c4, c5⟩ := c
  obtain ⟨q1, q2, q3⟩ := hc
  wp_walk using wpAny_loadPart' q1
  exact ⟨plainId_quiet plain_remove_loop _, codeAny_builtin entry_remove_loop (by
    rw [Around.under_plainId plain_remove_loop _]
    exact rm_loop pl us nu du su x f j hj hit hz _ 0 rfl (Nat.zero_le _) (fun k _ h2 => hno k h2) B R _ ⟨q1, q2, q3⟩)⟩
end
def findE (f : D → Option Bool) : List D → Option Nat
  | [] => none
  | x :: xs => match f x with
    | some true => some 0
    | some false => (findE f xs).map (· + 1)
    | none => none
theorem findE_at {f : D → Option Bool} : ∀ {xs : List D} {j : Nat}, findE f xs = some j → (∃ x, xs[j]? = some x ∧ f x = some true) ∧ ∀ k, k < j → ∃ x, xs[k]? = some x ∧ f x = some false
  | [], _, e => by cases e
  | x :: xs, j, e => by
    unfold findE at e
    split at e
    · rename_i h
      cases e
      exact ⟨⟨x, rfl, h⟩, fun k hk => by omega⟩
    · rename_i h
      obtain ⟨i, h1, rfl⟩ := Option.map_eq_some_iff.mp e
      obtain ⟨h2, h3⟩ := findE_at h1
      refine ⟨h2, fun k hk => ?_⟩
      cases k with
      | zero => exact ⟨x, rfl, h⟩
      | succ k => exact h3 k (by omega)
    · cases e
def remG : OMt := fun x ds M => match x, ds with
  | .ref i, [d] => match M[i]? with
    | some (.lst xs) => (findE (fun y => eqH 12 M y d) xs).map fun j => (.non, M.set i (.lst (xs.eraseIdx j)))
    | _ => none
  | _, _ => none
section
variable {X : Cx} {T : Tab} {W : WX} {ι : List Addr} {F : Hp} {rs : List (Addr × HO)} {o e : Expr} {φ : Sem1 D} {α : Sem1 (List D)} {apos pos : Pos}
theorem repL_erase : ∀ {xs : List D} {vs : List V} (j : Nat), RepL (kx X T) ι F xs vs → RepL (kx X T) ι F (xs.eraseIdx j) (vs.eraseIdx j)
  | [], _, j, h => by
    have h : _ = [] := h
    subst h
    rw [List.eraseIdx_nil, List.eraseIdx_nil]
    rfl
  | y :: ys, vs, 0, h => by
    obtain ⟨v, r, rfl, h1, h2⟩ := h
    exact h2
  | y :: ys, vs, j + 1, h => by
    obtain ⟨v, r, rfl, h1, h2⟩ := h
    exact ⟨v, r.eraseIdx j, rfl, h1, repL_erase j h2⟩
theorem vals_at : ∀ {vs : List V} {us : List Value} {k : Nat} {v : V}, Vals vs us → vs[k]? = some v → ∃ u, us[k]? = some u ∧ RelV v u
  | [], _, k, _, _, e => by cases e
  | y :: ys, _, 0, v, .cons h1 h2, e => by cases e; exact ⟨_, rfl, h1⟩
  | y :: ys, _, k + 1, v, .cons h1 h2, e => by
    obtain ⟨u, e1, e2⟩ := vals_at (vs := ys) (k := k) h2 (by simpa using e)
    exact ⟨u, by simpa using e1, e2⟩
theorem m_remove (hu : X.A.units + 64 < cLine) : MtR X "list.remove" (RM (kx X T) rs remG) := fun pins s σ H x xs v us Q I rx rxs h => by
  obtain ⟨ι, F, M, d, ds, z, M', r, rd, rds, e, q⟩ := h
  unfold remG at e
  split at e
  · rename_i i y
    obtain ⟨a, rfl, hi⟩ := rd
    obtain ⟨w, rfl, hw⟩ := one_of rds
    split at e
    · rename_i ys hM
      obtain ⟨j, hj, ez⟩ := Option.map_eq_some_iff.mp e
      cases ez
      obtain ⟨f0, vs, h2, h3⟩ := r.obj i _ a hM hi rfl
      cases rx
      obtain ⟨u, rfl, ru⟩ := rxs.one
      obtain ⟨z, its, n, rv, hl, eo⟩ := I.lstM h2
      obtain ⟨⟨xj, hxj, fxj⟩, hlow⟩ := findE_at hj
      obtain ⟨vj, hvj, _⟩ := RepL.get h3 hxj
      obtain ⟨uj, huj, _⟩ := vals_at rv hvj
      have hjs : j < its.toArray.size := by
        rw [List.size_toArray]
        exact (List.getElem?_eq_some_iff.mp huj).1
      have hin : X.A.in1.units + 12 < cLine := by
        have : X.A.in1.units ≤ X.A.units + 1 := by simp [Around.in1]
        omega
      have hf : ∀ k (p : k < its.toArray.size), k ≤ j → EqIn X.prog X.w X.A.in1 s its.toArray[k] u (decide (k = j)) := fun k p hk => by
        have key : ∃ xk, ys[k]? = some xk ∧ eqH 12 M xk y = some (decide (k = j)) := by
          by_cases hkj : k = j
          · subst hkj
            rw [decide_eq_true rfl]
            exact ⟨xj, hxj, fxj⟩
          · rw [decide_eq_false hkj]
            exact hlow k (by omega)
        obtain ⟨xk, hk1, hk2⟩ := key
        obtain ⟨vk, hk3, hk4⟩ := RepL.get h3 hk1
        obtain ⟨uk, hk5, hk6⟩ := vals_at rv hk3
        obtain ⟨hk7, hk8⟩ := List.getElem?_eq_some_iff.mp hk5
        have e1 : its.toArray[k] = uk := by simpa using hk8
        rw [e1]
        exact eqH_at I r 12 X.A.in1 hin xk y vk w uk u _ hk2 hk4 hw hk6 ru
      refine call_meetsIn PySem.F.slot_list_remove ⟨_, eo, rfl⟩ PySem.F.entry_list_remove (PySem.F.args_list_remove_2 _ _) (rm_in a its.toArray n _ _ u (fun k => decide (k = j)) j hjs (decide_eq_true rfl) (by rw [List.size_toArray]; omega) (fun k hk => decide_eq_false (by omega))) ⟨eo, hf, ?_⟩
      refine ⟨.non, _, I.lset (its' := its.eraseIdx j) h2 eo ?_ (rv.eraseIdx j) ?_, rfl, q ι F _ _ Le.refl (r.write hM hi rfl ⟨_, upd_same, repL_erase j h3⟩) rfl⟩
      · simp [Array.eraseIdxIfInBounds, List.eraseIdx_toArray]
        intro hh
        rw [List.eraseIdx_of_length_le hh]
      · rw [List.length_eraseIdx]
        split <;> omega
    · cases e
  · cases e
theorem Remove (hu : X.A.units + 64 < cLine) (ho : KE X T W o φ) (ha : KA X T W [e] α) (h1 : isSup o = false := by rfl) (hfew : ((backTo pos (starEach [e] X.env)).all (fun x => !x.1) && (backToKw pos (keywordEach [] X.env)).all (fun x => x.1.isSome)
      && decide (([e] : List Expr).length + ([] : List Keyword).length + (if ([] : List Keyword).isEmpty then 0 else 1) < 30)) = true := by rfl) (hline : (apos.endLine == pos.line) = true := by rfl) (h2 : [e].any isStar = false := by rfl) :
    KE X T W (.Call (.Attribute o "remove" apos) [e] [] pos) (eBm isLst remG φ α) := d_bm PySem.F.plainAttrs_list PySem.F.slot_list_remove PySem.F.type_list_remove (fun _ => m_remove hu) (fun r h e => ty_lst r h e) ho ha h1 hfew hline h2
end
end LD
namespace LD
open PySem PySem.Spec PyProof.Rows L2
/-! ### enumerate, reversed(range(..)), list.index -/
def enL (k : Nat) : List D → List D
  | [] => []
  | x :: xs => .tup [.int (k : Int), x] :: enL (k + 1) xs
theorem enL_len : ∀ (xs : List D) (k : Nat), (enL k xs).length = xs.length
  | [], _ => rfl
  | x :: xs, k => by rw [enL, List.length_cons, List.length_cons, enL_len xs]
theorem enL_at : ∀ {xs : List D} {k i : Nat} {d : D}, (enL k xs)[i]? = some d → ∃ e, xs[i]? = some e ∧ d = .tup [.int ((k + i : Nat) : Int), e]
  | [], _, _, _, h => by cases h
  | x :: xs, k, 0, d, h => by
    cases h
    exact ⟨x, rfl, rfl⟩
  | x :: xs, k, i + 1, d, h => by
    have h : (enL (k + 1) xs)[i]? = some d := h
    obtain ⟨e, h1, h2⟩ := enL_at h
    exact ⟨e, h1, by rw [h2, Nat.add_assoc, Nat.add_comm 1 i]⟩
def iEnN (α : Sem1 (List D)) : Sem1 Src := fun s M => (α s M).bind fun xs M1 => match xs with
  | [.lst ys] => .ok ⟨enL 0 ys, fun _ => true⟩ M1
  | [.ref i] => match M1[i]? with
    | some (.lst ys) => .ok ⟨enL 0 ys, mutChk i ys⟩ M1
    | _ => .bad
  | _ => .bad
def iRevN (φ : Sem1 D) : Sem1 Src := fun s M => (φ s M).bind fun x M1 => match x with
  | .int n => if mid n then .ok ⟨rangeL ((0 : Int) + (((n - 0).toNat : Nat) : Int) - 1) (n - 0).toNat (-1), fun _ => true⟩ M1 else .bad
  | _ => .bad
def idxD (z : D) : List D → Option Nat
  | [] => none
  | y :: ys => if eqF y z then some 0 else (idxD z ys).map (· + 1)
def idxG : OMt := fun x ds M => match ds with
  | [d] => (lsOf M x).bind fun ys => if isF d && ys.all isF then (idxD d ys).map fun j => (.int (j : Nat), M) else none
  | _ => none
theorem idxD_at {z : D} : ∀ {ys : List D} {j : Nat}, idxD z ys = some j → (∃ y, ys[j]? = some y ∧ eqF y z = true) ∧ ∀ m y, m < j → ys[m]? = some y → eqF y z = false
  | [], _, h => by cases h
  | y :: ys, j, h => by
    unfold idxD at h
    split at h
    · rename_i e
      cases h
      exact ⟨⟨y, rfl, e⟩, fun m y' hm => by omega⟩
    · rename_i e
      obtain ⟨k, h1, rfl⟩ := Option.map_eq_some_iff.mp h
      obtain ⟨h2, h3⟩ := idxD_at h1
      refine ⟨h2, fun m y' hm hy => ?_⟩
      cases m with
      | zero => cases hy; exact Bool.eq_false_iff.mpr e
      | succ m => exact h3 m y' (by omega) hy
section
variable {X : Cx} {T : Tab} {W : WX} {tg a e o : Expr} {α : Sem1 (List D)} {φ : Sem1 D} {pos p apos tpos p2 : Pos} {K : KX} {ι : List Addr} {F H : Hp} {M : Mem} {rs : List (Addr × HO)} {elts : List Expr} {kk : Nat}
theorem walk_enL {a : Addr} {xs : List D} : WalkD K (Ite K.fr a) ⟨enL 0 xs, fun _ => true⟩ (fun ι F => Rep K ι F (.lst xs) (.ref a)) where
  mono := fun l h => l _ _ h
  go := fun {ι F rs H M i} h r _ hi => by
    obtain ⟨a', vs, e, s1, l1⟩ := h
    cases e
    have hl : i < vs.length := by rw [RepL.length l1]; rw [enL_len] at hi; exact hi
    exact ⟨vs, vs[i], sql_sub r s1, List.getElem?_eq_getElem hl⟩
  stop := fun {ι F rs H M} h r _ => by
    obtain ⟨a', vs, e, s1, l1⟩ := h
    cases e
    refine ⟨vs, sql_sub r s1, ?_⟩
    show vs.length ≤ (enL 0 xs).length
    rw [enL_len, RepL.length l1]
    exact Nat.le_refl _
  yld := fun {ι F rs H M i d x H'} h r _ e y => by
    obtain ⟨a', vs, e1, s1, l1⟩ := h
    cases e1
    obtain ⟨q, w, rfl, hq, rfl, hy⟩ := y
    obtain ⟨d', hd, rfl⟩ := enL_at e
    obtain ⟨v, h1, h2⟩ := RepL.get l1 hd
    have q2 := hy vs (sql_sub r s1)
    rw [h1] at q2
    cases q2
    rw [Nat.zero_add]
    have l := Le.new (K := K) (ι := ι) (o := .tup [.int (i : Nat), w]) (r.free hq)
    exact ⟨ι, upd F q (.tup [.int (i : Nat), w]), l, r.frozen hq, ⟨q, _, rfl, .inl (.inl upd_same), RepL.le l ⟨_, _, rfl, rfl, RepL.one h2⟩⟩⟩
theorem walk_enM {a : Addr} {i : Nat} {xs : List D} : WalkD K (Ite K.fr a) ⟨enL 0 xs, mutChk i xs⟩ (fun ι F => Rep K ι F (.ref i) (.ref a)) where
  mono := fun l h => l _ _ h
  go := fun {ι F rs H M j} h r c hi => by
    obtain ⟨a', e, q⟩ := h
    cases e
    obtain ⟨_, vs, h2, h3⟩ := r.obj i _ a (mutChk_at c) q rfl
    have hl : j < vs.length := by rw [RepL.length h3]; rw [enL_len] at hi; exact hi
    exact ⟨vs, vs[j], .inl (.inl h2), List.getElem?_eq_getElem hl⟩
  stop := fun {ι F rs H M} h r c => by
    obtain ⟨a', e, q⟩ := h
    cases e
    obtain ⟨_, vs, h2, h3⟩ := r.obj i _ a (mutChk_at c) q rfl
    refine ⟨vs, .inl (.inl h2), ?_⟩
    show vs.length ≤ (enL 0 xs).length
    rw [enL_len, RepL.length h3]
    exact Nat.le_refl _
  yld := fun {ι F rs H M j d x H'} h r c e y => by
    obtain ⟨a', e1, q⟩ := h
    cases e1
    obtain ⟨_, vs, h2, h3⟩ := r.obj i _ a (mutChk_at c) q rfl
    obtain ⟨q', w, rfl, hq, rfl, hy⟩ := y
    obtain ⟨d', hd, rfl⟩ := enL_at e
    obtain ⟨v, h4, h5⟩ := RepL.get h3 hd
    have q2 := hy vs (.inl (.inl h2))
    rw [h4] at q2
    cases q2
    rw [Nat.zero_add]
    have l := Le.new (K := K) (ι := ι) (o := .tup [.int (j : Nat), w]) (r.free hq)
    exact ⟨ι, upd F q' (.tup [.int (j : Nat), w]), l, r.frozen hq, ⟨q', _, rfl, .inl (.inl upd_same), RepL.le l ⟨_, _, rfl, rfl, RepL.one h5⟩⟩⟩
theorem walk_rangeC {lo c : Int} {n : Nat} : WalkD K (Itc lo c n) ⟨rangeL lo n c, fun _ => true⟩ (fun _ _ => True) where
  mono := fun _ _ => trivial
  go := fun {ι F rs H M i} _ _ _ hi => by
    unfold rangeL at hi
    rw [List.length_map, List.length_range] at hi
    exact hi
  stop := fun {ι F rs H M} _ _ _ => by
    show n ≤ (rangeL lo n c).length
    unfold rangeL
    rw [List.length_map, List.length_range]
    exact Nat.le_refl _
  yld := fun {ι F rs H M i d v H'} _ r _ e y => by
    obtain ⟨rfl, rfl⟩ := y
    refine ⟨ι, F, Le.refl, r, ?_⟩
    have e : (rangeL lo n c)[i]? = some d := e
    unfold rangeL at e
    rw [List.getElem?_map] at e
    obtain ⟨j, h1, h2⟩ := Option.map_eq_some_iff.mp e
    have hj : j = i := by
      obtain ⟨h3, h4⟩ := List.getElem?_eq_some_iff.mp h1
      rw [← h4, List.getElem_range]
    subst hj
    rw [← h2]
    rfl
theorem ki_enum (hg : Gl X "enumerate") (hm : X.mg "enumerate" = none) (ha : KA X T W [a] α) (hs : isStar a = false) : KI X T W (.Tuple elts kk tpos) (.Call (.Name "enumerate" p) [a] [] pos) (iEnN α) := ⟨fun rs => PI.imp (pi_enum hg hm (ha.pa rs) (by rw [star_cons hs]; rfl)) fun σ H Q h => by
  obtain ⟨ι, F, st, M, r, rS, p⟩ := h
  refine ⟨ι, F, st, M, r, rS, p.stepE fun vs H1 ι1 F1 M1 ds e l1 r1 rv p1 => ?_⟩
  split at p1
  · rename_i ys
    obtain ⟨v, rfl, h1⟩ := one_of rv
    obtain ⟨b, ws, rfl, s1, ll⟩ := id h1
    exact ⟨b, ws, rfl, sql_sub r1 s1, p1.fin r1 ⟨_, walk_enL, h1⟩⟩
  · rename_i i
    split at p1
    · rename_i ys hM
      obtain ⟨v, rfl, h1⟩ := one_of rv
      obtain ⟨b, rfl, hi⟩ := id h1
      obtain ⟨_, ws, h2, h3⟩ := r1.obj i _ b hM hi rfl
      exact ⟨b, ws, rfl, .inl (.inl h2), p1.fin r1 ⟨_, walk_enM, h1⟩⟩
    · exact p1.elim
  · exact p1.elim⟩
theorem ki_revN (hg : Gl X "reversed") (hm : X.mg "reversed" = none) (hg2 : Gl X "range") (hm2 : X.mg "range" = none) (ha : KE X T W a φ) (hs : isStar a = false) (hs2 : isStar (.Call (.Name "range" p2) [a] [] tpos) = false) : KI X T W tg (.Call (.Name "reversed" p) [.Call (.Name "range" p2) [a] [] tpos] [] pos) (iRevN φ) := ⟨fun rs => PI.imp (pi_revR hg hm (prg_1 hg2 hm2 (ha rs) (by rw [star_cons hs])) (by rw [star_cons hs2])) fun σ H Q h => by
  obtain ⟨ι, F, st, M, r, rS, p⟩ := h
  refine ⟨ι, F, st, M, r, rS, p.step fun v H1 ι1 F1 M1 x l1 r1 rv p1 => ?_⟩
  split at p1
  · rename_i n
    split at p1
    · rename_i hn
      cases rv
      have h1 := mid_iff.mp hn
      exact ⟨n, rfl, by decide, by decide, h1.1, h1.2, p1.fin r1 ⟨_, walk_rangeC, trivial⟩⟩
    · exact p1.elim
  · exact p1.elim⟩
theorem m_index : MtR X "list.index" (RM (kx X T) rs idxG) := fun pins s σ H x xs v us Q I rx rxs h => by
  refine mt_index pins s σ H x xs v us Q I rx rxs ?_
  obtain ⟨ι, F, M, d, ds, z, M', r, rd, rds, e, q⟩ := h
  unfold idxG at e
  split at e
  · rename_i y
    obtain ⟨w, rfl, hw⟩ := one_of rds
    obtain ⟨ys, e1, e⟩ := Option.bind_eq_some_iff.mp e
    split at e
    · rename_i hf
      rw [Bool.and_eq_true] at hf
      obtain ⟨j, e2, e3⟩ := Option.map_eq_some_iff.mp e
      cases e3
      obtain ⟨b, ws, rfl, s1, l1⟩ := lsOf_at r e1 rd
      obtain ⟨⟨y0, hy0, ey0⟩, hlow⟩ := idxD_at e2
      obtain ⟨v0, hv0, rv0⟩ := RepL.get l1 hy0
      have fl : ∀ {k : Nat} {u : V}, ws[k]? = some u → ∃ dd, ys[k]? = some dd ∧ isF dd = true ∧ Rep (kx X T) ι F dd u := fun {k u} hk => by
        have hkl : k < ys.length := by rw [← RepL.length l1]; exact (List.getElem?_eq_some_iff.mp hk).1
        obtain ⟨u', hu', ru'⟩ := RepL.get l1 (List.getElem?_eq_getElem hkl)
        rw [hk] at hu'
        cases hu'
        exact ⟨_, List.getElem?_eq_getElem hkl, List.all_eq_true.mp hf.2 _ (List.getElem_mem hkl), ru'⟩
      refine ⟨b, ws, w, j, v0, rfl, rfl, s1, (rep_flat hf.1 hw).1, List.all_eq_true.mpr fun u hu => ?_, hv0, ?_, fun m z' hm hz => ?_, q ι F H _ Le.refl r rfl⟩
      · obtain ⟨k, hk⟩ := List.getElem?_of_mem hu
        obtain ⟨dd, _, h2, h3⟩ := fl hk
        exact (rep_flat h2 h3).1
      · obtain ⟨dd, h1, h2, h3⟩ := fl hv0
        rw [hy0] at h1
        cases h1
        rw [(rep_flat h2 h3).2 hf.1 hw]
        exact ey0
      · obtain ⟨dd, h1, h2, h3⟩ := fl hz
        rw [(rep_flat h2 h3).2 hf.1 hw]
        exact hlow m dd hm h1
    · cases e
  · cases e
theorem Index (ho : KE X T W o φ) (ha : KA X T W [e] α) (h1 : isSup o = false := by rfl) (hfew : ((backTo pos (starEach [e] X.env)).all (fun x => !x.1) && (backToKw pos (keywordEach [] X.env)).all (fun x => x.1.isSome)
      && decide (([e] : List Expr).length + ([] : List Keyword).length + (if ([] : List Keyword).isEmpty then 0 else 1) < 30)) = true := by rfl) (hline : (apos.endLine == pos.line) = true := by rfl) (h2 : [e].any isStar = false := by rfl) :
    KE X T W (.Call (.Attribute o "index" apos) [e] [] pos) (eBm isLst idxG φ α) := d_bm PySem.F.plainAttrs_list PySem.F.slot_list_index PySem.F.type_list_index (fun _ => m_index) (fun r h e => ty_lst r h e) ho ha h1 hfew hline h2
end
/-! ### < of lists of ints -/
open PySem.SeqAt (EqAt RcLt firstLt firstLt_yes firstLt_no)
theorem first_lex {ns ms : List Int} : ∀ (m k : Nat), min ns.length ms.length - k = m → k ≤ min ns.length ms.length → firstLt (fun j => ns.getD j 0 == ms.getD j 0) (fun j => decide (ns.getD j 0 < ms.getD j 0)) (decide (ns.length < ms.length)) ((List.range (min ns.length ms.length)).drop k) = HT.lexLt (ns.drop k) (ms.drop k)
  | 0, k, hm, hk => by
    have e : (List.range (min ns.length ms.length)).drop k = [] := by simp; omega
    rw [e]
    show decide (ns.length < ms.length) = _
    by_cases h : ns.length ≤ ms.length
    · have e1 : ns.drop k = [] := List.drop_eq_nil_of_le (by omega)
      rw [e1]
      cases h2 : ms.drop k with
      | nil =>
        have := congrArg List.length h2
        rw [List.length_drop, List.length_nil] at this
        exact decide_eq_false (by omega)
      | cons a r =>
        have := congrArg List.length h2
        rw [List.length_drop, List.length_cons] at this
        exact decide_eq_true (by omega)
    · have e1 : ms.drop k = [] := List.drop_eq_nil_of_le (by omega)
      rw [e1]
      cases h2 : ns.drop k with
      | nil =>
        have := congrArg List.length h2
        rw [List.length_drop, List.length_nil] at this
        omega
      | cons a r => exact decide_eq_false (by omega)
  | m + 1, k, hm, hk => by
    have h1 : k < ns.length := by omega
    have h2 : k < ms.length := by omega
    have e : (List.range (min ns.length ms.length)).drop k = k :: (List.range (min ns.length ms.length)).drop (k + 1) := by
      rw [List.drop_eq_getElem_cons (by rw [List.length_range]; omega), List.getElem_range]
    have g1 : ns.getD k 0 = ns[k] := by rw [List.getD_eq_getElem?_getD, List.getElem?_eq_getElem h1] <;> rfl
    have g2 : ms.getD k 0 = ms[k] := by rw [List.getD_eq_getElem?_getD, List.getElem?_eq_getElem h2] <;> rfl
    rw [e, List.drop_eq_getElem_cons h1, List.drop_eq_getElem_cons h2, HT.lexLt_cons]
    by_cases hq : ns[k] = ms[k]
    · rw [if_pos hq, ← first_lex m (k + 1) (by omega) (by omega)]
      exact firstLt_yes (by rw [g1, g2]; exact beq_iff_eq.mpr hq)
    · rw [if_neg hq]
      refine (firstLt_no (by rw [g1, g2]; exact beq_eq_false_iff_ne.mpr hq)).trans ?_
      rw [g1, g2]
def ltG : Mem → D → D → Option Bool := fun M x y => match lsOf M x, lsOf M y with
  | some xs, some ys => (intsOf xs).bind fun ns => (intsOf ys).map fun ms => HT.lexLt ns ms
  | _, _ => ltB M x y
section
variable {X : Cx} {T : Tab} {rs : List (Addr × HO)}
theorem o_ltG (hu : X.A.units + 64 < cLine) : OpR X (compareOp .Lt) (RO2 (kx X T) rs (boD ltG)) := fun pins s σ H x y v u Q I rx ry h => by
  obtain ⟨ι, F, M, d, e, z, M', r, h1, h2, g, q⟩ := h
  unfold boD at g
  obtain ⟨k, g1, g2⟩ := Option.map_eq_some_iff.mp g
  cases g2
  unfold ltG at g1
  split at g1
  · rename_i xs ys e1 e2
    obtain ⟨ns, e3, g1⟩ := Option.bind_eq_some_iff.mp g1
    obtain ⟨ms, e4, rfl⟩ := Option.map_eq_some_iff.mp g1
    obtain ⟨a, vs, rfl, s1, l1⟩ := lsOf_at r e1 h1
    obtain ⟨b, ws, rfl, s2, l2⟩ := lsOf_at r e2 h2
    have z1 := intsOf_rep e3 l1
    have z2 := intsOf_rep e4 l2
    subst z1 z2
    cases rx; cases ry
    obtain ⟨us, r1, p1, _⟩ := I.list s1
    obtain ⟨us', r2, p2, _⟩ := I.list s2
    have i1 : IntsAre us.toArray.toList ns := intsAre_of r1
    have i2 : IntsAre us'.toArray.toList ms := intsAre_of r2
    have n1 : us.toArray.size = ns.length := by rw [← Array.length_toList]; exact i1.length
    have n2 : us'.toArray.size = ms.length := by rw [← Array.length_toList]; exact i2.length
    have item : ∀ j (a1 : j < us.toArray.size) (a2 : j < us'.toArray.size), ∃ t t', us.toArray[j] = .int (ns.getD j 0) t ∧ us'.toArray[j] = .int (ms.getD j 0) t' := fun j a1 a2 => by
      obtain ⟨t, q1⟩ := i1.get j (ns.getD j 0) (by rw [List.getD_eq_getElem?_getD, List.getElem?_eq_getElem (by omega)] <;> rfl)
      obtain ⟨t', q2⟩ := i2.get j (ms.getD j 0) (by rw [List.getD_eq_getElem?_getD, List.getElem?_eq_getElem (by omega)] <;> rfl)
      obtain ⟨_, q3⟩ := List.getElem?_eq_some_iff.mp q1
      obtain ⟨_, q4⟩ := List.getElem?_eq_some_iff.mp q2
      exact ⟨t, t', by simpa using q3, by simpa using q4⟩
    have z := RcLt.lists (A := X.A) (s := s) (e := fun j => ns.getD j 0 == ms.getD j 0) (r := fun j => decide (ns.getD j 0 < ms.getD j 0)) p1.isList p2.isList (by omega) (fun j a1 a2 => by
      obtain ⟨t, t', q1, q2⟩ := item j a1 a2
      rw [q1, q2]
      exact PySem.W.keq_flat (PyProof.V.Flat.int _ t) (PyProof.V.Flat.int _ t')) (fun j a1 a2 _ => by
      obtain ⟨t, t', q1, q2⟩ := item j a1 a2
      rw [q1, q2]
      exact fun prog w E Q h => lt_int h)
    rw [n1, n2] at z
    have e0 := first_lex (ns := ns) (ms := ms) _ 0 rfl (Nat.zero_le _)
    rw [List.drop_zero, List.drop_zero, List.drop_zero] at e0
    rw [e0] at z
    exact z X.prog X.w _ _ ⟨.bl _, H, I, rfl, q ι F H _ Le.refl r rfl⟩
  · exact o_lt (by omega) pins s σ H x y v u Q I rx ry ⟨ι, F, M, d, e, .bl k, M, r, h1, h2, by unfold boD; rw [g1] <;> rfl, q⟩
end
/-! ### products of wider numbers -/
def wid (i : Int) : Bool := Nat.ble (i.natAbs + 1) 340282366920938463463374607431768211456
theorem wid_iff {i : Int} : wid i = true ↔ i.natAbs < 2 ^ 128 := by
  unfold wid
  rw [Nat.ble_eq]
  exact Iff.rfl
def mulH : O2 := intD (fun i j => wid i && wid j) (· * ·)
theorem o_mulH {X : Cx} {T : Tab} {rs : List (Addr × HO)} : OpR X (binaryOp .Mult) (RO2 (kx X T) rs mulH) := OpR.imp op_mulX fun x y H Q h => by
  obtain ⟨i, j, e1, e2, hc, q⟩ := h.int
  rw [Bool.and_eq_true, wid_iff, wid_iff] at hc
  exact ⟨i, j, e1, e2, mulx_ok hc.1 hc.2 (by decide), q⟩
theorem v_mulH {i j : Int} {M : Mem} (h1 : i.natAbs < 2 ^ 128) (h2 : j.natAbs < 2 ^ 128) : mulH (.int i) (.int j) M = some (.int (i * j), M) := if_pos (by rw [Bool.and_eq_true, wid_iff, wid_iff]; exact ⟨h1, h2⟩)
/-! ### a < b < c as a test -/
def tCh (g g' : O2) (a b c : Sem1 D) : Sem1 Bool := fun s M => (a s M).bind fun x M1 => (b s M1).bind fun y M2 => (ofO (g x y M2)).bind fun z M3 => match z with
  | .bl true => (c s M3).bind fun w M4 => (ofO (g' y w M4)).bind fun z2 M5 => match z2 with
    | .bl k => .ok k M5
    | _ => .bad
  | .bl false => .ok false M3
  | _ => .bad
theorem t_chain {X : Cx} {T : Tab} {W : WX} {a b c : Expr} {φ ψ χ : Sem1 D} {pos : Pos} {op op' : CmpOp} {g g' : O2} (ho : ∀ rs, OpR X (compareOp op) (RO2 (kx X T) rs g)) (ho' : ∀ rs, OpR X (compareOp op') (RO2 (kx X T) rs g')) (ha : KE X T W a φ) (hb : KE X T W b ψ) (hc : KE X T W c χ) (hm : lastMarks [op, op'] [b, c] = false) :
    KT X T W (.Compare a [op, op'] [b, c] pos) (tCh g g' φ ψ χ) := fun rs => PT.imp (pt_chain (ho rs) (ho' rs) (ha rs) (hb rs) (hc rs) hm) fun σ H Q h => by
  obtain ⟨ι, F, s, M, r, rS, p⟩ := h
  refine ⟨ι, F, s, M, r, rS, p.step fun v H1 ι1 F1 M1 x l1 r1 rv p1 => ?_⟩
  refine ⟨ι1, F1, s, M1, r1, rS.le l1, p1.step fun w H2 ι2 F2 M2 y l2 r2 rw2 p2 => ?_⟩
  refine ro2 (σ := σ) (W' := fun c d => W c d σ) (g := g) (M := M2) r2 (l2 _ _ rv) rw2 (p2.step fun u H3 ι3 F3 M3 z l3 r3 ru p3 => ?_)
  cases z with
  | bl k =>
    refine ⟨k, ru, ?_⟩
    cases k with
    | true =>
      refine iteT ⟨ι3, F3, s, M3, r3, ((rS.le l1).le l2).le l3, p3.step fun u2 H4 ι4 F4 M4 z2 l4 r4 ru2 p4 => ro2 (σ := σ) (W' := fun c d => W c d σ) r4 (l4 _ _ (l3 _ _ rw2)) ru2 (p4.step fun u3 H5 ι5 F5 M5 z3 l5 r5 ru3 p5 => ?_)⟩
      cases z3 with
      | bl k => exact ⟨k, ru3, p5.fin r5 rfl⟩
      | _ => exact p5.elim
    | false => exact iteF ⟨false, rfl, p3.fin r3 rfl⟩
  | _ => exact p3.elim
def blC (z : D) (k : R Bool) (M : Mem) (_ : Tg k) : R Bool := match z with
  | .bl true => k
  | .bl false => .ok false M
  | _ => .bad
theorem q_tCh {g g' : O2} {a b c : Sem1 D} {s : DS} {M : Mem} : tCh g g' a b c s M = bnd (a s M) (fun x M1 => bnd (b s M1) (fun y M2 => bnd (ofO (g x y M2)) (fun z M3 => blC z (bnd (c s M3) (fun w M4 => bnd (ofO (g' y w M4)) (fun z2 M5 => blK z2 (fun k => .ok k M5) .mk) .mk) .mk) M3 .mk) .mk) .mk) .mk := by
  show R.bind (a s M) _ = R.bind (a s M) _
  refine congrArg (R.bind (a s M)) (funext fun x => funext fun M1 => congrArg (R.bind (b s M1)) (funext fun y => funext fun M2 => congrArg (R.bind (ofO (g x y M2))) (funext fun z => funext fun M3 => ?_)))
  cases z with
  | bl k => cases k <;> rfl
  | _ => rfl
theorem blC_t {k : R Bool} {M : Mem} : blC (.bl true) k M .mk = k := rfl
theorem blC_f {k : R Bool} {M : Mem} : blC (.bl false) k M .mk = .ok false M := rfl
end LD
namespace K30
open PySem PySem.Spec PyProof.Rows L2 LD

def top (i : Nat) : Stmt := PySem.Challenge.pw_viewloom_k30_best_rising_rows.main.body.getD i (.Pass ⟨0, 0, 0, 0⟩)
abbrev st__law_rises : Stmt := (top 8)
abbrev st__law_all : Stmt := (top 9)
abbrev st__law_lengths : Stmt := (top 7)
abbrev st__law_right : Stmt := (top 10)
abbrev st_lengths_from : Stmt := (top 1)
abbrev st_best_row : Stmt := (top 2)
abbrev st__law_digit : Stmt := (top 6)
abbrev st__law_start : Stmt := (top 5)
abbrev st__law_cell : Stmt := (top 4)
abbrev st_law : Stmt := (top 11)
abbrev N__law_rises : List Str := ["_law_row", "_law_k"]
abbrev N__law_all : List Str := ["_law_numbers", "_law_best", "_law_chosen", "_law_row", "_law_k", "_law_places", "_law_number", "_law_place"]
abbrev N__law_lengths : List Str := ["_law_numbers", "_law_lengths_here", "_law_k", "_law_before", "_law_j"]
abbrev N__law_right : List Str := ["_law_numbers", "_law_row", "_law_places", "_law_number", "_law_k", "_law_head", "_law_stop", "_law_start_here", "_law_j", "_law_rest"]
abbrev N_lengths_from : List Str := ["numbers", "lengths", "_", "index", "later"]
abbrev N_best_row : List Str := ["numbers", "lengths", "wanted", "row", "index", "number"]
abbrev N__law_digit : List Str := ["_law_state", "_law_many", "_law_digit_here"]
abbrev N__law_start : List Str := ["_law_cell_here", "_law_k", "_law_prime", "_law_mixed"]
abbrev N__law_cell : List Str := ["_law_script", "_law_k"]
abbrev N_law : List Str := ["_law_script", "_law_k", "_law_state", "_law_many", "_law_numbers", "_law_j", "_law_number", "_law_kept", "_law_row"]
abbrev P__law_rises : List Str := ["_law_row"]
abbrev P__law_all : List Str := ["_law_numbers"]
abbrev P__law_lengths : List Str := ["_law_numbers"]
abbrev P__law_right : List Str := ["_law_numbers", "_law_row"]
abbrev P_lengths_from : List Str := ["numbers"]
abbrev P_best_row : List Str := ["numbers"]
abbrev P__law_digit : List Str := ["_law_state", "_law_many"]
abbrev P__law_start : List Str := ["_law_cell_here", "_law_k"]
abbrev P__law_cell : List Str := ["_law_script", "_law_k"]
abbrev P_law : List Str := ["_law_script"]
/-! ### what each def is worth -/
def β__law_rises_1 : SSem := (sSeq (sIf (tCmp (boD geB) (eBin ixD (eVar 0) (eVar 1)) (eBin ixD (eVar 0) (eBin addD (eVar 1) (eC (.int 1))))) (sSeq (sRet (eC (.bl false))) sNext) sNext) sNext)
def ψ__law_rises : SSem := (sSeq (sFor (iRange (aCons (eBin subD (eBlt lenC (aCons (eVar 0) aNil)) (eC (.int 1))) aNil)) (gNm 1) β__law_rises_1) (sSeq (sRet (eC (.bl true))) sNext))
def φ__law_rises : FnD := defD 2 1 ψ__law_rises
def β__law_all_2 : SSem := (sSeq (sAsg (gNm 3) (eComp false (iRange (aCons (eBlt lenC (aCons (eVar 0) aNil)) aNil)) (gNm 4) (tCmp (boD eqD) (eBin modD (eBin fdivD (eBlt intC (aCons (eVar 2) aNil)) (eBin ixD (eLst false (aCons (eC (.int 1)) (aCons (eC (.int 2)) (aCons (eC (.int 4)) (aCons (eC (.int 8)) (aCons (eC (.int 16)) (aCons (eC (.int 32)) (aCons (eC (.int 64)) aNil)))))))) (eVar 4))) (eC (.int 2))) (eC (.int 1))) (eBin ixD (eVar 0) (eVar 4)) [4])) (sSeq (sIf (tAnd (tCmp (boD ltB) (eVar 2) (eBin ixD (eLst false (aCons (eC (.int 1)) (aCons (eC (.int 2)) (aCons (eC (.int 4)) (aCons (eC (.int 8)) (aCons (eC (.int 16)) (aCons (eC (.int 32)) (aCons (eC (.int 64)) (aCons (eC (.int 128)) aNil))))))))) (eBlt lenC (aCons (eVar 0) aNil)))) (tOf (eCall φ__law_rises (aCons (eVar 3) aNil) aNil))) (sSeq (sAsg (gNm 5) (eComp false (iOf (eVar 3)) (gNm 6) tTrue (eBm isLst idxG (eVar 0) (aCons (eVar 6) aNil)) [6])) (sSeq (sIf (tOr (tCmp (boD gtB) (eBlt lenC (aCons (eVar 5) aNil)) (eBlt lenC (aCons (eVar 1) aNil))) (tAnd (tCmp (boD eqD) (eBlt lenC (aCons (eVar 5) aNil)) (eBlt lenC (aCons (eVar 1) aNil))) (tCmp (boD ltG) (eVar 5) (eVar 1)))) (sSeq (sAsg (gNm 1) (eVar 5)) sNext) sNext) sNext)) sNext) sNext))
def ψ__law_all : SSem := (sSeq (sAsg (gNm 1) (eLst false aNil)) (sSeq (sFor (iRange (aCons (eBin powD (eC (.int 2)) (eC (.int 7))) aNil)) (gNm 2) β__law_all_2) (sSeq (sRet (eComp false (iOf (eVar 1)) (gNm 7) tTrue (eBin ixD (eVar 0) (eVar 7)) [7])) sNext)))
def φ__law_all : FnD := defD 8 1 ψ__law_all
def β__law_lengths_2 : SSem := (sSeq (sAsg (gNm 3) (eComp false (iRange (aCons (eVar 2) aNil)) (gNm 4) (tCmp (boD ltB) (eBin ixD (eVar 0) (eVar 4)) (eBin ixD (eVar 0) (eVar 2))) (eBin ixD (eVar 1) (eVar 4)) [4])) (sSeq (sExpr (eBm isLst appG (eVar 1) (aCons (eBin addD (eC (.int 1)) (eBlt maxC (aCons (eBin addD (eLst false (aCons (eC (.int 0)) aNil)) (eVar 3)) aNil))) aNil))) sNext))
def ψ__law_lengths : SSem := (sSeq (sAsg (gNm 1) (eLst true aNil)) (sSeq (sFor (iRange (aCons (eBlt lenC (aCons (eVar 0) aNil)) aNil)) (gNm 2) β__law_lengths_2) (sSeq (sRet (eVar 1)) sNext)))
def φ__law_lengths : FnD := defD 5 1 ψ__law_lengths
def β__law_right_12 : SSem := (sSeq (sIf (tOr (tCmp (boD eqD) (eBlt lenC (aCons (eVar 5) aNil)) (eC (.int 0))) (tCmp (boD gtB) (eBin ixD (eVar 0) (eVar 8)) (eBin ixD (eVar 5) (eBin subD (eBlt lenC (aCons (eVar 5) aNil)) (eC (.int 1)))))) (sSeq (sAsg (gNm 9) (eComp false (iOf (eSlice false (eVar 0) (oSome (eVar 8)) oNone)) (gNm 3) (tCmp (boD geB) (eVar 3) (eBin ixD (eVar 0) (eVar 8))) (eVar 3) [3])) (sSeq (sIf (tCmp (boD eqD) (eBin addD (eVar 4) (eBlt maxC (aCons (eCall φ__law_lengths (aCons (eVar 9) aNil) aNil) aNil))) (eBlt lenC (aCons (eVar 1) aNil))) (sSeq (sRet (eC (.bl false))) sNext) sNext) sNext)) sNext) sNext)
def β__law_right_8 : SSem := (sSeq (sAsg (gNm 5) (eSlice false (eVar 1) oNone (oSome (eVar 4)))) (sSeq (sAsg (gNm 6) (eBin ixD (eVar 2) (eVar 4))) (sSeq (sAsg (gNm 7) (eBin ixD (eBin addD (eLst false (aCons (eBin subD (eC (.int 0)) (eC (.int 1))) aNil)) (eVar 2)) (eVar 4))) (sSeq (sFor (iRange (aCons (eBin addD (eVar 7) (eC (.int 1))) (aCons (eVar 6) aNil))) (gNm 8) β__law_right_12) sNext))))
def β__law_right_2 : SSem := (sSeq (sIf (tCmp (boD (notB inD)) (eVar 3) (eVar 0)) (sSeq (sRet (eC (.bl false))) sNext) sNext) (sSeq (sExpr (eBm isLst appG (eVar 2) (aCons (eBm isLst idxG (eVar 0) (aCons (eVar 3) aNil)) aNil))) sNext))
def ψ__law_right : SSem := (sSeq (sAsg (gNm 2) (eLst true aNil)) (sSeq (sFor (iOf (eVar 1)) (gNm 3) β__law_right_2) (sSeq (sIf (tOr (tNot (tOf (eCall φ__law_rises (aCons (eVar 2) aNil) aNil))) (tOr (tNot (tOf (eCall φ__law_rises (aCons (eVar 1) aNil) aNil))) (tCmp (boD (notB eqD)) (eBlt lenC (aCons (eVar 1) aNil)) (eBlt maxC (aCons (eBin addD (eLst false (aCons (eC (.int 0)) aNil)) (eCall φ__law_lengths (aCons (eVar 0) aNil) aNil)) aNil))))) (sSeq (sRet (eC (.bl false))) sNext) sNext) (sSeq (sFor (iRange (aCons (eBlt lenC (aCons (eVar 1) aNil)) aNil)) (gNm 4) β__law_right_8) (sSeq (sRet (eC (.bl true))) sNext)))))
def φ__law_right : FnD := defD 10 2 ψ__law_right
def β_lengths_from_3 : SSem := (sSeq (sIf (tCmp (boD gtB) (eBin ixD (eVar 0) (eVar 4)) (eBin ixD (eVar 0) (eVar 3))) (sSeq (sSub (eVar 1) (eVar 3) (eBlt maxC (aCons (eBin ixD (eVar 1) (eVar 3)) (aCons (eBin addD (eBin ixD (eVar 1) (eVar 4)) (eC (.int 1))) aNil)))) sNext) sNext) sNext)
def β_lengths_from_2 : SSem := (sSeq (sFor (iRange (aCons (eBin addD (eVar 3) (eC (.int 1))) (aCons (eBlt lenC (aCons (eVar 0) aNil)) aNil))) (gNm 4) β_lengths_from_3) sNext)
def ψ_lengths_from : SSem := (sSeq (sAsg (gNm 1) (eComp true (iOf (eVar 0)) (gNm 2) tTrue (eC (.int 1)) [2])) (sSeq (sFor (iRevN (eBlt lenC (aCons (eVar 0) aNil))) (gNm 3) β_lengths_from_2) (sSeq (sRet (eVar 1)) sNext)))
def φ_lengths_from : FnD := defD 5 1 ψ_lengths_from
def β_best_row_4 : SSem := (sSeq (sIf (tAnd (tCmp (boD eqQ) (eBin ixD (eVar 1) (eVar 4)) (eVar 2)) (tOr (tCmp (boD eqQ) (eVar 3) (eLst false aNil)) (tCmp (boD gtB) (eVar 5) (eBin ixD (eVar 3) (eUn negD (eC (.int 1))))))) (sSeq (sExpr (eBm isLst appG (eVar 3) (aCons (eVar 5) aNil))) (sSeq (sAsg (gNm 2) (eBin subD (eVar 2) (eC (.int 1)))) sNext)) sNext) sNext)
def ψ_best_row : SSem := (sSeq (sAsg (gNm 1) (eCall φ_lengths_from (aCons (eVar 0) aNil) aNil)) (sSeq (sAsg (gNm 2) (eBlt maxC (aCons (eBin addD (eLst false (aCons (eC (.int 0)) aNil)) (eVar 1)) aNil))) (sSeq (sAsg (gNm 3) (eLst true aNil)) (sSeq (sFor (iEnN (aCons (eVar 0) aNil)) (gTp [4, 5]) β_best_row_4) (sSeq (sRet (eVar 3)) sNext)))))
def φ_best_row : FnD := defD 6 1 ψ_best_row
def ψ__law_digit : SSem := (sSeq (sAsg (gNm 2) (eBin modD (eBlt intC (aCons (eBin ixD (eVar 0) (eC (.int 0))) aNil)) (eVar 1))) (sSeq (sSub (eVar 0) (eC (.int 0)) (eBin fdivD (eBin ixD (eVar 0) (eC (.int 0))) (eVar 1))) (sSeq (sRet (eVar 2)) sNext)))
def φ__law_digit : FnD := defD 3 2 ψ__law_digit
def ψ__law_start : SSem := (sSeq (sAsg (gNm 2) (eC (.int 618970019642690137449562111))) (sSeq (sIf (tCh (boD ltB) (boD ltB) (eUn negD (eC (.int 1000000000000000000))) (eVar 0) (eC (.int 1000000000000000000))) (sSeq (sAsg (gNm 3) (eBin modD (eBlt intC (aCons (eBin addD (eBin mulD (eVar 0) (eC (.int 2654435761))) (eBin mulD (eBin addD (eVar 1) (eC (.int 1))) (eC (.int 6700417)))) aNil)) (eVar 2))) (sSeq (sRet (eLst true (aCons (eBin modD (eBlt intC (aCons (eBin addD (eBin addD (eBin mulH (eVar 3) (eVar 3)) (eBin mulH (eC (.int 7)) (eVar 3))) (eVar 1)) aNil)) (eVar 2)) aNil))) sNext)) sNext) (sSeq (sRet (eLst true (aCons (eBlt absC (aCons (eVar 0) aNil)) aNil))) sNext)))
def φ__law_start : FnD := defD 4 2 ψ__law_start
def ψ__law_cell : SSem := (sSeq (sIf (tCmp (boD ltB) (eVar 1) (eBlt lenC (aCons (eVar 0) aNil))) (sSeq (sRet (eBin ixD (eVar 0) (eVar 1))) sNext) sNext) (sSeq (sRet (eC (.int 0))) sNext))
def φ__law_cell : FnD := defD 2 2 ψ__law_cell
def β_law_7 : SSem := (sSeq (sAsg (gNm 6) (eBin subD (eCall φ__law_digit (aCons (eVar 2) (aCons (eC (.int 99)) aNil)) aNil) (eC (.int 40)))) (sSeq (sIf (tCmp (boD eqD) (eCall φ__law_digit (aCons (eVar 2) (aCons (eC (.int 5)) aNil)) aNil) (eC (.int 0))) (sSeq (sAsg (gNm 6) (eBin addD (eVar 6) (eBin powD (eC (.int 10)) (eC (.int 20))))) sNext) sNext) (sSeq (sIf (tCmp (boD (notB inD)) (eVar 6) (eVar 4)) (sSeq (sExpr (eBm isLst appG (eVar 4) (aCons (eVar 6) aNil))) sNext) sNext) sNext)))
def β_law_1 : SSem := (sSeq (sAsg (gNm 2) (eCall φ__law_start (aCons (eCall φ__law_cell (aCons (eVar 0) (aCons (eVar 1) aNil)) aNil) (aCons (eVar 1) aNil)) aNil)) (sSeq (sAsg (gNm 3) (eCall φ__law_digit (aCons (eVar 2) (aCons (eC (.int 8)) aNil)) aNil)) (sSeq (sIf (tCmp (boD eqD) (eCall φ__law_digit (aCons (eVar 2) (aCons (eC (.int 4)) aNil)) aNil) (eC (.int 0))) (sSeq (sAsg (gNm 3) (eBin addD (eC (.int 10)) (eCall φ__law_digit (aCons (eVar 2) (aCons (eC (.int 30)) aNil)) aNil))) sNext) sNext) (sSeq (sAsg (gNm 4) (eLst true aNil)) (sSeq (sFor (iRange (aCons (eVar 3) aNil)) (gNm 5) β_law_7) (sSeq (sAsg (gNm 7) (eComp false (iOf (eVar 4)) (gNm 6) tTrue (eVar 6) [6])) (sSeq (sAsg (gNm 8) (eCall φ_best_row (aCons (eVar 4) aNil) aNil)) (sSeq (sIf (tOr (tNot (tOf (eBlt isiC (aCons (eVar 8) (aCons (eC (.ty "list")) aNil))))) (tOr (tNot (tOf (eCall φ__law_right (aCons (eVar 4) (aCons (eVar 8) aNil)) aNil))) (tCmp (boD (notB eqQ)) (eVar 4) (eVar 7)))) (sSeq (sRet (eC (.bl false))) sNext) sNext) (sSeq (sIf (tAnd (tCmp (boD ltB) (eBlt lenC (aCons (eVar 4) aNil)) (eC (.int 8))) (tCmp (boD (notB eqQ)) (eVar 8) (eCall φ__law_all (aCons (eVar 4) aNil) aNil))) (sSeq (sRet (eC (.bl false))) sNext) sNext) sNext)))))))))
def ψ_law : SSem := (sSeq (sFor (iRange (aCons (eBlt minC (aCons (eC (.int 16)) (aCons (eBlt maxC (aCons (eC (.int 1)) (aCons (eBlt lenC (aCons (eVar 0) aNil)) aNil))) aNil))) aNil)) (gNm 1) β_law_1) (sSeq (sRet (eC (.bl true))) sNext))
def φ_law : FnD := defD 9 1 ψ_law
/-! ### facts of the text -/
structure Ad where
  f__law_rises : Addr
  f__law_all : Addr
  f__law_lengths : Addr
  f__law_right : Addr
  f_lengths_from : Addr
  f_best_row : Addr
  f__law_digit : Addr
  f__law_start : Addr
  f__law_cell : Addr
  f_law : Addr
abbrev tb (a : Ad) : Tab := ⟨[], []⟩
structure Tx (K : PySem.W.Frag) (mg : Str → Option Value) (a : Ad) : Prop where
  fn__law_rises : FnAt K "_law_rises" "_law_rises" st__law_rises a.f__law_rises
  fn__law_all : FnAt K "_law_all" "_law_all" st__law_all a.f__law_all
  fn__law_lengths : FnAt K "_law_lengths" "_law_lengths" st__law_lengths a.f__law_lengths
  fn__law_right : FnAt K "_law_right" "_law_right" st__law_right a.f__law_right
  fn_lengths_from : FnAt K "lengths_from" "lengths_from" st_lengths_from a.f_lengths_from
  fn_best_row : FnAt K "best_row" "best_row" st_best_row a.f_best_row
  fn__law_digit : FnAt K "_law_digit" "_law_digit" st__law_digit a.f__law_digit
  fn__law_start : FnAt K "_law_start" "_law_start" st__law_start a.f__law_start
  fn__law_cell : FnAt K "_law_cell" "_law_cell" st__law_cell a.f__law_cell
  fn_law : FnAt K "law" "law" st_law a.f_law
  no_range : mg "range" = none
  no_len : mg "len" = none
  no_max : mg "max" = none
  no_min : mg "min" = none
  mg__law_rises : mg "_law_rises" = some (.ref a.f__law_rises)
  kp__law_rises : PySem.W.keepIn K (.ref a.f__law_rises) = true
  no_int : mg "int" = none
  mg__law_all : mg "_law_all" = some (.ref a.f__law_all)
  kp__law_all : PySem.W.keepIn K (.ref a.f__law_all) = true
  no_list : mg "list" = none
  no_isinstance : mg "isinstance" = none
  mg__law_lengths : mg "_law_lengths" = some (.ref a.f__law_lengths)
  kp__law_lengths : PySem.W.keepIn K (.ref a.f__law_lengths) = true
  mg__law_right : mg "_law_right" = some (.ref a.f__law_right)
  kp__law_right : PySem.W.keepIn K (.ref a.f__law_right) = true
  no_enumerate : mg "enumerate" = none
  no_reversed : mg "reversed" = none
  mg_lengths_from : mg "lengths_from" = some (.ref a.f_lengths_from)
  kp_lengths_from : PySem.W.keepIn K (.ref a.f_lengths_from) = true
  mg_best_row : mg "best_row" = some (.ref a.f_best_row)
  kp_best_row : PySem.W.keepIn K (.ref a.f_best_row) = true
  mg__law_digit : mg "_law_digit" = some (.ref a.f__law_digit)
  kp__law_digit : PySem.W.keepIn K (.ref a.f__law_digit) = true
  no_abs : mg "abs" = none
  mg__law_cell : mg "_law_cell" = some (.ref a.f__law_cell)
  kp__law_cell : PySem.W.keepIn K (.ref a.f__law_cell) = true
  mg__law_start : mg "_law_start" = some (.ref a.f__law_start)
  kp__law_start : PySem.W.keepIn K (.ref a.f__law_start) = true
section
variable {P : Program} {w : World} {K : PySem.W.Frag} {mg : Str → Option Value} {base : Heap} {a : Ad}
theorem sc__law_rises : FnScope N__law_rises P__law_rises (defScope st__law_rises) := ⟨rfl, rfl, rfl, by decide +kernel, rfl, by decide +kernel, by decide +kernel⟩
theorem kb__law_rises (t : Tx K mg a) {cdv : Value} {A : Around} {outer : List Env} {s : Shared} {H : Hp} {E : XK} (hr : LD.Room 0 (A.deeper (envOfC "_law_rises" (defScope st__law_rises) s.heap.objs.size a.f__law_rises cdv))) :
    KB (cxOf (L2.CX P w) P w K mg base N__law_rises "_law_rises" (defScope st__law_rises) a.f__law_rises cdv A outer s H E) (tb a) (fun c d _ H => E c d H) (defBody st__law_rises) ψ__law_rises := by
  have hN := sc__law_rises.nd
  have h65 := u65 hr
  have h64 := u64 hr
  have h0 := u0 hr
  have h1 := u1 hr
  exact (b_cons (s_for passes_k rfl (ki_range1 (by rfl) t.no_range (A1 (d_bin (fun _ => o_sub) (Blt (fun _ => c_len) t.no_len (A1 (Vr 0) a_nil)) d_c_int) a_nil) (by rfl)) (kg_name (i := 1) hN rfl (by first | exact Or.inl rfl | exact Or.inr rfl) (by first | exact Or.inl rfl | exact Or.inr rfl)) (b_cons (s_if (Tq (fun _ => o_ge) (Ix h1 (Vr 0) (Vr 1)) (Ix h1 (Vr 0) (d_bin (fun _ => o_add) (Vr 1) d_c_int))) (b_cons (s_ret d_c_bl) b_nil) b_nil) b_nil) (fun _ => rfl)) (b_cons (s_ret d_c_bl) b_nil))
theorem ce__law_rises_1 (t : Tx K mg a) : Callee P w K mg base (tb a) 1 a.f__law_rises 1 [] φ__law_rises := by
  obtain ⟨oc, od, kV, doc, pm, an, cdv, ct, osl, l, c, k⟩ := t.fn__law_rises
  exact callee_of (kfn (fun_mk l c k) sc__law_rises fun cdv A outer s H E hr => kb__law_rises t hr) fun _ us ws h1 h2 => match us, ws, h1, h2 with | [_], [], _, _ => .of_eq rfl
theorem sc__law_all : FnScope N__law_all P__law_all (defScope st__law_all) := ⟨rfl, rfl, rfl, by decide +kernel, rfl, by decide +kernel, by decide +kernel⟩
theorem kb__law_all (t : Tx K mg a) {cdv : Value} {A : Around} {outer : List Env} {s : Shared} {H : Hp} {E : XK} (hr : LD.Room 1 (A.deeper (envOfC "_law_all" (defScope st__law_all) s.heap.objs.size a.f__law_all cdv))) :
    KB (cxOf (L2.CX P w) P w K mg base N__law_all "_law_all" (defScope st__law_all) a.f__law_all cdv A outer s H E) (tb a) (fun c d _ H => E c d H) (defBody st__law_all) ψ__law_all := by
  have hN := sc__law_all.nd
  have h65 := u65 hr
  have h64 := u64 hr
  have h0 := u0 hr
  have h1 := u1 hr
  exact (b_cons (s_asg (d_lst (mu := false) a_nil) (kg_name (i := 1) hN rfl (by first | exact Or.inl rfl | exact Or.inr rfl) (by first | exact Or.inl rfl | exact Or.inr rfl)) (by rfl) (by rfl) (by rfl)) (b_cons (s_for passes_k rfl (ki_range1 (by rfl) t.no_range (A1 (d_bin (fun _ => o_pow) d_c_int d_c_int) a_nil) (by rfl)) (kg_name (i := 2) hN rfl (by first | exact Or.inl rfl | exact Or.inr rfl) (by first | exact Or.inl rfl | exact Or.inr rfl)) (b_cons (s_setLc (own := [("_law_k", 4)]) (mu := false) rfl hN (blkOk_by (N := N__law_all) (sc := defScope st__law_all) (by decide +kernel)) (by decide)  rfl rfl (sw_true rfl rfl rfl (by decide +kernel)) (ki_range1 (by rfl) t.no_range (A1 (Blt (fun _ => c_len) t.no_len (A1 (Vr 0) a_nil)) a_nil) (by rfl)) (fun _ _ _ _ _ => (kg_name (i := 4) hN rfl (by first | exact Or.inl rfl | exact Or.inr rfl) (by first | exact Or.inl rfl | exact Or.inr rfl))) (fun _ _ _ _ _ => (kts_one (Tq (fun _ => o_eq h64) (d_bin (fun _ => o_mod) (d_bin (fun _ => o_fdiv) (Bty (fun _ => c_int) t.no_int (A1 (Vr 2) a_nil)) (Ix h1 (d_lst (mu := false) (A1 d_c_int (A1 d_c_int (A1 d_c_int (A1 d_c_int (A1 d_c_int (A1 d_c_int (A1 d_c_int a_nil)))))))) (Vr 4))) d_c_int) d_c_int))) (fun _ _ _ _ _ => (Ix h1 (Vr 0) (Vr 4))) (fun _ => rfl)) (b_cons (s_if (Tw (t_and (Tq (fun _ => o_lt h0) (Vr 2) (Ix h1 (d_lst (mu := false) (A1 d_c_int (A1 d_c_int (A1 d_c_int (A1 d_c_int (A1 d_c_int (A1 d_c_int (A1 d_c_int (A1 d_c_int a_nil))))))))) (Blt (fun _ => c_len) t.no_len (A1 (Vr 0) a_nil)))) (t_and1 (Tv (Call (ce__law_rises_1 t) hr takes_k t.mg__law_rises t.kp__law_rises (A1 (Vr 3) a_nil) k_nil))))) (b_cons (s_setLc (own := [("_law_number", 6)]) (mu := false) rfl hN (blkOk_by (N := N__law_all) (sc := defScope st__law_all) (by decide +kernel)) (by decide)  rfl rfl (sw_true rfl rfl rfl (by decide +kernel)) (ki_of (Vr 3)) (fun _ _ _ _ _ => (kg_name (i := 6) hN rfl (by first | exact Or.inl rfl | exact Or.inr rfl) (by first | exact Or.inl rfl | exact Or.inr rfl))) (fun _ _ _ _ _ => kts_nil) (fun _ _ _ _ _ => (Index (Vr 0) (A1 (Vr 6) a_nil))) (fun _ => rfl)) (b_cons (s_if (Tw (t_or (Tq (fun _ => o_gt) (Blt (fun _ => c_len) t.no_len (A1 (Vr 5) a_nil)) (Blt (fun _ => c_len) t.no_len (A1 (Vr 1) a_nil))) (t_or1 (Tw (t_and (Tq (fun _ => o_eq h64) (Blt (fun _ => c_len) t.no_len (A1 (Vr 5) a_nil)) (Blt (fun _ => c_len) t.no_len (A1 (Vr 1) a_nil))) (t_and1 (Tq (fun _ => o_ltG h64) (Vr 5) (Vr 1)))))))) (b_cons (s_asg (Vr 5) (kg_name (i := 1) hN rfl (by first | exact Or.inl rfl | exact Or.inr rfl) (by first | exact Or.inl rfl | exact Or.inr rfl)) (by rfl) (by rfl) (by rfl)) b_nil) b_nil) b_nil)) b_nil) b_nil)) (fun _ => rfl)) (b_cons (s_ret (d_comp (own := [("_law_place", 7)]) (mu := false) rfl hN (blkOk_by (N := N__law_all) (sc := defScope st__law_all) (by decide +kernel)) (by decide) (ki_of (Vr 1)) (fun _ _ _ _ _ => (kg_name (i := 7) hN rfl (by first | exact Or.inl rfl | exact Or.inr rfl) (by first | exact Or.inl rfl | exact Or.inr rfl))) (fun _ _ _ _ _ => kts_nil) (fun _ _ _ _ _ => (Ix h1 (Vr 0) (Vr 7))) (fun _ => rfl))) b_nil)))
theorem ce__law_all_1 (t : Tx K mg a) : Callee P w K mg base (tb a) 2 a.f__law_all 1 [] φ__law_all := by
  obtain ⟨oc, od, kV, doc, pm, an, cdv, ct, osl, l, c, k⟩ := t.fn__law_all
  exact callee_of (kfn (fun_mk l c k) sc__law_all fun cdv A outer s H E hr => kb__law_all t hr) fun _ us ws h1 h2 => match us, ws, h1, h2 with | [_], [], _, _ => .of_eq rfl
theorem sc__law_lengths : FnScope N__law_lengths P__law_lengths (defScope st__law_lengths) := ⟨rfl, rfl, rfl, by decide +kernel, rfl, by decide +kernel, by decide +kernel⟩
theorem kb__law_lengths (t : Tx K mg a) {cdv : Value} {A : Around} {outer : List Env} {s : Shared} {H : Hp} {E : XK} (hr : LD.Room 0 (A.deeper (envOfC "_law_lengths" (defScope st__law_lengths) s.heap.objs.size a.f__law_lengths cdv))) :
    KB (cxOf (L2.CX P w) P w K mg base N__law_lengths "_law_lengths" (defScope st__law_lengths) a.f__law_lengths cdv A outer s H E) (tb a) (fun c d _ H => E c d H) (defBody st__law_lengths) ψ__law_lengths := by
  have hN := sc__law_lengths.nd
  have h65 := u65 hr
  have h64 := u64 hr
  have h0 := u0 hr
  have h1 := u1 hr
  exact (b_cons (s_asg (d_lst (mu := true) a_nil) (kg_name (i := 1) hN rfl (by first | exact Or.inl rfl | exact Or.inr rfl) (by first | exact Or.inl rfl | exact Or.inr rfl)) (by rfl) (by rfl) (by rfl)) (b_cons (s_for passes_k rfl (ki_range1 (by rfl) t.no_range (A1 (Blt (fun _ => c_len) t.no_len (A1 (Vr 0) a_nil)) a_nil) (by rfl)) (kg_name (i := 2) hN rfl (by first | exact Or.inl rfl | exact Or.inr rfl) (by first | exact Or.inl rfl | exact Or.inr rfl)) (b_cons (s_setLc (own := [("_law_j", 4)]) (mu := false) rfl hN (blkOk_by (N := N__law_lengths) (sc := defScope st__law_lengths) (by decide +kernel)) (by decide)  rfl rfl (sw_true rfl rfl rfl (by decide +kernel)) (ki_range1 (by rfl) t.no_range (A1 (Vr 2) a_nil) (by rfl)) (fun _ _ _ _ _ => (kg_name (i := 4) hN rfl (by first | exact Or.inl rfl | exact Or.inr rfl) (by first | exact Or.inl rfl | exact Or.inr rfl))) (fun _ _ _ _ _ => (kts_one (Tq (fun _ => o_lt h0) (Ix h1 (Vr 0) (Vr 4)) (Ix h1 (Vr 0) (Vr 2))))) (fun _ _ _ _ _ => (Ix h1 (Vr 1) (Vr 4))) (fun _ => rfl)) (b_cons (s_expr (Append (Vr 1) (A1 (d_bin (fun _ => o_add) d_c_int (Blt (fun _ => (c_max rfl)) t.no_max (A1 (d_bin (fun _ => o_add) (d_lst (mu := false) (A1 d_c_int a_nil)) (Vr 3)) a_nil))) a_nil)) (by rfl)) b_nil)) (fun _ => rfl)) (b_cons (s_ret (Vr 1)) b_nil)))
theorem ce__law_lengths_1 (t : Tx K mg a) : Callee P w K mg base (tb a) 1 a.f__law_lengths 1 [] φ__law_lengths := by
  obtain ⟨oc, od, kV, doc, pm, an, cdv, ct, osl, l, c, k⟩ := t.fn__law_lengths
  exact callee_of (kfn (fun_mk l c k) sc__law_lengths fun cdv A outer s H E hr => kb__law_lengths t hr) fun _ us ws h1 h2 => match us, ws, h1, h2 with | [_], [], _, _ => .of_eq rfl
theorem sc__law_right : FnScope N__law_right P__law_right (defScope st__law_right) := ⟨rfl, rfl, rfl, by decide +kernel, rfl, by decide +kernel, by decide +kernel⟩
theorem kb__law_right (t : Tx K mg a) {cdv : Value} {A : Around} {outer : List Env} {s : Shared} {H : Hp} {E : XK} (hr : LD.Room 1 (A.deeper (envOfC "_law_right" (defScope st__law_right) s.heap.objs.size a.f__law_right cdv))) :
    KB (cxOf (L2.CX P w) P w K mg base N__law_right "_law_right" (defScope st__law_right) a.f__law_right cdv A outer s H E) (tb a) (fun c d _ H => E c d H) (defBody st__law_right) ψ__law_right := by
  have hN := sc__law_right.nd
  have h65 := u65 hr
  have h64 := u64 hr
  have h0 := u0 hr
  have h1 := u1 hr
  exact (b_cons (s_asg (d_lst (mu := true) a_nil) (kg_name (i := 2) hN rfl (by first | exact Or.inl rfl | exact Or.inr rfl) (by first | exact Or.inl rfl | exact Or.inr rfl)) (by rfl) (by rfl) (by rfl)) (b_cons (s_for passes_k rfl (ki_of (Vr 1)) (kg_name (i := 3) hN rfl (by first | exact Or.inl rfl | exact Or.inr rfl) (by first | exact Or.inl rfl | exact Or.inr rfl)) (b_cons (s_if (Tq (fun _ => o_notin h65) (Vr 3) (Vr 0)) (b_cons (s_ret d_c_bl) b_nil) b_nil) (b_cons (s_expr (Append (Vr 2) (A1 (Index (Vr 0) (A1 (Vr 3) a_nil)) a_nil)) (by rfl)) b_nil)) (fun _ => rfl)) (b_cons (s_if (Tw (t_or (t_not (Tv (Call (ce__law_rises_1 t) hr takes_k t.mg__law_rises t.kp__law_rises (A1 (Vr 2) a_nil) k_nil))) (t_or (t_not (Tv (Call (ce__law_rises_1 t) hr takes_k t.mg__law_rises t.kp__law_rises (A1 (Vr 1) a_nil) k_nil))) (t_or1 (Tq (fun _ => o_ne h64) (Blt (fun _ => c_len) t.no_len (A1 (Vr 1) a_nil)) (Blt (fun _ => (c_max rfl)) t.no_max (A1 (d_bin (fun _ => o_add) (d_lst (mu := false) (A1 d_c_int a_nil)) (Call (ce__law_lengths_1 t) hr takes_k t.mg__law_lengths t.kp__law_lengths (A1 (Vr 0) a_nil) k_nil)) a_nil))))))) (b_cons (s_ret d_c_bl) b_nil) b_nil) (b_cons (s_for passes_k rfl (ki_range1 (by rfl) t.no_range (A1 (Blt (fun _ => c_len) t.no_len (A1 (Vr 1) a_nil)) a_nil) (by rfl)) (kg_name (i := 4) hN rfl (by first | exact Or.inl rfl | exact Or.inr rfl) (by first | exact Or.inl rfl | exact Or.inr rfl)) (b_cons (s_asg (d_slice (mu := false) (Vr 1) ko_none (ko_some (Vr 4))) (kg_name (i := 5) hN rfl (by first | exact Or.inl rfl | exact Or.inr rfl) (by first | exact Or.inl rfl | exact Or.inr rfl)) (by rfl) (by rfl) (by rfl)) (b_cons (s_asg (Ix h1 (Vr 2) (Vr 4)) (kg_name (i := 6) hN rfl (by first | exact Or.inl rfl | exact Or.inr rfl) (by first | exact Or.inl rfl | exact Or.inr rfl)) (by rfl) (by rfl) (by rfl)) (b_cons (s_asg (Ix h1 (d_bin (fun _ => o_add) (d_lst (mu := false) (A1 (d_bin (fun _ => o_sub) d_c_int d_c_int) a_nil)) (Vr 2)) (Vr 4)) (kg_name (i := 7) hN rfl (by first | exact Or.inl rfl | exact Or.inr rfl) (by first | exact Or.inl rfl | exact Or.inr rfl)) (by rfl) (by rfl) (by rfl)) (b_cons (s_for passes_k rfl (ki_range2 (by rfl) t.no_range (A1 (d_bin (fun _ => o_add) (Vr 7) d_c_int) (A1 (Vr 6) a_nil)) (by rfl) (by rfl)) (kg_name (i := 8) hN rfl (by first | exact Or.inl rfl | exact Or.inr rfl) (by first | exact Or.inl rfl | exact Or.inr rfl)) (b_cons (s_if (Tw (t_or (Tq (fun _ => o_eq h64) (Blt (fun _ => c_len) t.no_len (A1 (Vr 5) a_nil)) d_c_int) (t_or1 (Tq (fun _ => o_gt) (Ix h1 (Vr 0) (Vr 8)) (Ix h1 (Vr 5) (d_bin (fun _ => o_sub) (Blt (fun _ => c_len) t.no_len (A1 (Vr 5) a_nil)) d_c_int)))))) (b_cons (s_setLc (own := [("_law_number", 3)]) (mu := false) rfl hN (blkOk_by (N := N__law_right) (sc := defScope st__law_right) (by decide +kernel)) (by decide)  rfl rfl (sw_true rfl rfl rfl (by decide +kernel)) (ki_of (d_slice (mu := false) (Vr 0) (ko_some (Vr 8)) ko_none)) (fun _ _ _ _ _ => (kg_name (i := 3) hN rfl (by first | exact Or.inl rfl | exact Or.inr rfl) (by first | exact Or.inl rfl | exact Or.inr rfl))) (fun _ _ _ _ _ => (kts_one (Tq (fun _ => o_ge) (Vr 3) (Ix h1 (Vr 0) (Vr 8))))) (fun _ _ _ _ _ => (Vr 3)) (fun _ => rfl)) (b_cons (s_if (Tq (fun _ => o_eq h64) (d_bin (fun _ => o_add) (Vr 4) (Blt (fun _ => (c_max rfl)) t.no_max (A1 (Call (ce__law_lengths_1 t) hr takes_k t.mg__law_lengths t.kp__law_lengths (A1 (Vr 9) a_nil) k_nil) a_nil))) (Blt (fun _ => c_len) t.no_len (A1 (Vr 1) a_nil))) (b_cons (s_ret d_c_bl) b_nil) b_nil) b_nil)) b_nil) b_nil) (fun _ => rfl)) b_nil)))) (fun _ => rfl)) (b_cons (s_ret d_c_bl) b_nil)))))
theorem ce__law_right_2 (t : Tx K mg a) : Callee P w K mg base (tb a) 2 a.f__law_right 2 [] φ__law_right := by
  obtain ⟨oc, od, kV, doc, pm, an, cdv, ct, osl, l, c, k⟩ := t.fn__law_right
  exact callee_of (kfn (fun_mk l c k) sc__law_right fun cdv A outer s H E hr => kb__law_right t hr) fun _ us ws h1 h2 => match us, ws, h1, h2 with | [_, _], [], _, _ => .of_eq rfl
theorem sc_lengths_from : FnScope N_lengths_from P_lengths_from (defScope st_lengths_from) := ⟨rfl, rfl, rfl, by decide +kernel, rfl, by decide +kernel, by decide +kernel⟩
theorem kb_lengths_from (t : Tx K mg a) {cdv : Value} {A : Around} {outer : List Env} {s : Shared} {H : Hp} {E : XK} (hr : LD.Room 0 (A.deeper (envOfC "lengths_from" (defScope st_lengths_from) s.heap.objs.size a.f_lengths_from cdv))) :
    KB (cxOf (L2.CX P w) P w K mg base N_lengths_from "lengths_from" (defScope st_lengths_from) a.f_lengths_from cdv A outer s H E) (tb a) (fun c d _ H => E c d H) (defBody st_lengths_from) ψ_lengths_from := by
  have hN := sc_lengths_from.nd
  have h65 := u65 hr
  have h64 := u64 hr
  have h0 := u0 hr
  have h1 := u1 hr
  exact (b_cons (s_setLc (own := [("_", 2)]) (mu := true) rfl hN (blkOk_by (N := N_lengths_from) (sc := defScope st_lengths_from) (by decide +kernel)) (by decide)  rfl rfl (sw_true rfl rfl rfl (by decide +kernel)) (ki_of (Vr 0)) (fun _ _ _ _ _ => (kg_name (i := 2) hN rfl (by first | exact Or.inl rfl | exact Or.inr rfl) (by first | exact Or.inl rfl | exact Or.inr rfl))) (fun _ _ _ _ _ => kts_nil) (fun _ _ _ _ _ => d_c_int) (fun _ => rfl)) (b_cons (s_for passes_k rfl (ki_revN (by rfl) t.no_reversed (by rfl) t.no_range (Blt (fun _ => c_len) t.no_len (A1 (Vr 0) a_nil)) (by rfl) (by rfl)) (kg_name (i := 3) hN rfl (by first | exact Or.inl rfl | exact Or.inr rfl) (by first | exact Or.inl rfl | exact Or.inr rfl)) (b_cons (s_for passes_k rfl (ki_range2 (by rfl) t.no_range (A1 (d_bin (fun _ => o_add) (Vr 3) d_c_int) (A1 (Blt (fun _ => c_len) t.no_len (A1 (Vr 0) a_nil)) a_nil)) (by rfl) (by rfl)) (kg_name (i := 4) hN rfl (by first | exact Or.inl rfl | exact Or.inr rfl) (by first | exact Or.inl rfl | exact Or.inr rfl)) (b_cons (s_if (Tq (fun _ => o_gt) (Ix h1 (Vr 0) (Vr 4)) (Ix h1 (Vr 0) (Vr 3))) (b_cons (s_sub h1 (Blt (fun _ => (c_max rfl)) t.no_max (A1 (Ix h1 (Vr 1) (Vr 3)) (A1 (d_bin (fun _ => o_add) (Ix h1 (Vr 1) (Vr 4)) d_c_int) a_nil))) (Vr 1) (Vr 3) (by rfl) (by rfl) (by rfl) (fun _ => rfl)) b_nil) b_nil) b_nil) (fun _ => rfl)) b_nil) (fun _ => rfl)) (b_cons (s_ret (Vr 1)) b_nil)))
theorem ce_lengths_from_1 (t : Tx K mg a) : Callee P w K mg base (tb a) 1 a.f_lengths_from 1 [] φ_lengths_from := by
  obtain ⟨oc, od, kV, doc, pm, an, cdv, ct, osl, l, c, k⟩ := t.fn_lengths_from
  exact callee_of (kfn (fun_mk l c k) sc_lengths_from fun cdv A outer s H E hr => kb_lengths_from t hr) fun _ us ws h1 h2 => match us, ws, h1, h2 with | [_], [], _, _ => .of_eq rfl
theorem sc_best_row : FnScope N_best_row P_best_row (defScope st_best_row) := ⟨rfl, rfl, rfl, by decide +kernel, rfl, by decide +kernel, by decide +kernel⟩
theorem kb_best_row (t : Tx K mg a) {cdv : Value} {A : Around} {outer : List Env} {s : Shared} {H : Hp} {E : XK} (hr : LD.Room 1 (A.deeper (envOfC "best_row" (defScope st_best_row) s.heap.objs.size a.f_best_row cdv))) :
    KB (cxOf (L2.CX P w) P w K mg base N_best_row "best_row" (defScope st_best_row) a.f_best_row cdv A outer s H E) (tb a) (fun c d _ H => E c d H) (defBody st_best_row) ψ_best_row := by
  have hN := sc_best_row.nd
  have h65 := u65 hr
  have h64 := u64 hr
  have h0 := u0 hr
  have h1 := u1 hr
  exact (b_cons (s_asg (Call (ce_lengths_from_1 t) hr takes_k t.mg_lengths_from t.kp_lengths_from (A1 (Vr 0) a_nil) k_nil) (kg_name (i := 1) hN rfl (by first | exact Or.inl rfl | exact Or.inr rfl) (by first | exact Or.inl rfl | exact Or.inr rfl)) (by rfl) (by rfl) (by rfl)) (b_cons (s_asg (Blt (fun _ => (c_max rfl)) t.no_max (A1 (d_bin (fun _ => o_add) (d_lst (mu := false) (A1 d_c_int a_nil)) (Vr 1)) a_nil)) (kg_name (i := 2) hN rfl (by first | exact Or.inl rfl | exact Or.inr rfl) (by first | exact Or.inl rfl | exact Or.inr rfl)) (by rfl) (by rfl) (by rfl)) (b_cons (s_asg (d_lst (mu := true) a_nil) (kg_name (i := 3) hN rfl (by first | exact Or.inl rfl | exact Or.inr rfl) (by first | exact Or.inl rfl | exact Or.inr rfl)) (by rfl) (by rfl) (by rfl)) (b_cons (s_for passes_k rfl (ki_enum (by rfl) t.no_enumerate (A1 (Vr 0) a_nil) (by rfl)) (kg_tup (is := [4, 5]) rfl hN ⟨rfl, (by first | exact Or.inl rfl | exact Or.inr rfl), (by first | exact Or.inl rfl | exact Or.inr rfl), ⟨rfl, (by first | exact Or.inl rfl | exact Or.inr rfl), (by first | exact Or.inl rfl | exact Or.inr rfl), trivial⟩⟩) (b_cons (s_if (Tw (t_and (Tq (fun _ => o_eqQ h64) (Ix h1 (Vr 1) (Vr 4)) (Vr 2)) (t_and1 (Tw (t_or (Tq (fun _ => o_eqQ h64) (Vr 3) (d_lst (mu := false) a_nil)) (t_or1 (Tq (fun _ => o_gt) (Vr 5) (Ix h1 (Vr 3) (d_un (fun _ => o_neg) d_c_int))))))))) (b_cons (s_expr (Append (Vr 3) (A1 (Vr 5) a_nil)) (by rfl)) (b_cons (s_asg (d_bin (fun _ => o_sub) (Vr 2) d_c_int) (kg_name (i := 2) hN rfl (by first | exact Or.inl rfl | exact Or.inr rfl) (by first | exact Or.inl rfl | exact Or.inr rfl)) (by rfl) (by rfl) (by rfl)) b_nil)) b_nil) b_nil) (fun _ => rfl)) (b_cons (s_ret (Vr 3)) b_nil)))))
theorem ce_best_row_1 (t : Tx K mg a) : Callee P w K mg base (tb a) 2 a.f_best_row 1 [] φ_best_row := by
  obtain ⟨oc, od, kV, doc, pm, an, cdv, ct, osl, l, c, k⟩ := t.fn_best_row
  exact callee_of (kfn (fun_mk l c k) sc_best_row fun cdv A outer s H E hr => kb_best_row t hr) fun _ us ws h1 h2 => match us, ws, h1, h2 with | [_], [], _, _ => .of_eq rfl
theorem sc__law_digit : FnScope N__law_digit P__law_digit (defScope st__law_digit) := ⟨rfl, rfl, rfl, by decide +kernel, rfl, by decide +kernel, by decide +kernel⟩
theorem kb__law_digit (t : Tx K mg a) {cdv : Value} {A : Around} {outer : List Env} {s : Shared} {H : Hp} {E : XK} (hr : LD.Room 0 (A.deeper (envOfC "_law_digit" (defScope st__law_digit) s.heap.objs.size a.f__law_digit cdv))) :
    KB (cxOf (L2.CX P w) P w K mg base N__law_digit "_law_digit" (defScope st__law_digit) a.f__law_digit cdv A outer s H E) (tb a) (fun c d _ H => E c d H) (defBody st__law_digit) ψ__law_digit := by
  have hN := sc__law_digit.nd
  have h65 := u65 hr
  have h64 := u64 hr
  have h0 := u0 hr
  have h1 := u1 hr
  exact (b_cons (s_asg (d_bin (fun _ => o_mod) (Bty (fun _ => c_int) t.no_int (A1 (Ix h1 (Vr 0) d_c_int) a_nil)) (Vr 1)) (kg_name (i := 2) hN rfl (by first | exact Or.inl rfl | exact Or.inr rfl) (by first | exact Or.inl rfl | exact Or.inr rfl)) (by rfl) (by rfl) (by rfl)) (b_cons (s_sub h1 (d_bin (fun _ => o_fdiv) (Ix h1 (Vr 0) d_c_int) (Vr 1)) (Vr 0) d_c_int (by rfl) (by rfl) (by rfl) (fun _ => rfl)) (b_cons (s_ret (Vr 2)) b_nil)))
theorem ce__law_digit_2 (t : Tx K mg a) : Callee P w K mg base (tb a) 1 a.f__law_digit 2 [] φ__law_digit := by
  obtain ⟨oc, od, kV, doc, pm, an, cdv, ct, osl, l, c, k⟩ := t.fn__law_digit
  exact callee_of (kfn (fun_mk l c k) sc__law_digit fun cdv A outer s H E hr => kb__law_digit t hr) fun _ us ws h1 h2 => match us, ws, h1, h2 with | [_, _], [], _, _ => .of_eq rfl
theorem sc__law_start : FnScope N__law_start P__law_start (defScope st__law_start) := ⟨rfl, rfl, rfl, by decide +kernel, rfl, by decide +kernel, by decide +kernel⟩
theorem kb__law_start (t : Tx K mg a) {cdv : Value} {A : Around} {outer : List Env} {s : Shared} {H : Hp} {E : XK} (hr : LD.Room 0 (A.deeper (envOfC "_law_start" (defScope st__law_start) s.heap.objs.size a.f__law_start cdv))) :
    KB (cxOf (L2.CX P w) P w K mg base N__law_start "_law_start" (defScope st__law_start) a.f__law_start cdv A outer s H E) (tb a) (fun c d _ H => E c d H) (defBody st__law_start) ψ__law_start := by
  have hN := sc__law_start.nd
  have h65 := u65 hr
  have h64 := u64 hr
  have h0 := u0 hr
  have h1 := u1 hr
  exact (b_cons (s_asg d_c_int (kg_name (i := 2) hN rfl (by first | exact Or.inl rfl | exact Or.inr rfl) (by first | exact Or.inl rfl | exact Or.inr rfl)) (by rfl) (by rfl) (by rfl)) (b_cons (s_if (t_chain (fun _ => o_lt h0) (fun _ => o_lt h0) (d_un (fun _ => o_neg) d_c_int) (Vr 0) d_c_int (by rfl)) (b_cons (s_asg (d_bin (fun _ => o_mod) (Bty (fun _ => c_int) t.no_int (A1 (d_bin (fun _ => o_add) (d_bin (fun _ => o_mul) (Vr 0) d_c_int) (d_bin (fun _ => o_mul) (d_bin (fun _ => o_add) (Vr 1) d_c_int) d_c_int)) a_nil)) (Vr 2)) (kg_name (i := 3) hN rfl (by first | exact Or.inl rfl | exact Or.inr rfl) (by first | exact Or.inl rfl | exact Or.inr rfl)) (by rfl) (by rfl) (by rfl)) (b_cons (s_ret (d_lst (mu := true) (A1 (d_bin (fun _ => o_mod) (Bty (fun _ => c_int) t.no_int (A1 (d_bin (fun _ => o_add) (d_bin (fun _ => o_add) (d_bin (fun _ => o_mulH) (Vr 3) (Vr 3)) (d_bin (fun _ => o_mulH) d_c_int (Vr 3))) (Vr 1)) a_nil)) (Vr 2)) a_nil))) b_nil)) b_nil) (b_cons (s_ret (d_lst (mu := true) (A1 (Blt (fun _ => c_abs) t.no_abs (A1 (Vr 0) a_nil)) a_nil))) b_nil)))
theorem ce__law_start_2 (t : Tx K mg a) : Callee P w K mg base (tb a) 1 a.f__law_start 2 [] φ__law_start := by
  obtain ⟨oc, od, kV, doc, pm, an, cdv, ct, osl, l, c, k⟩ := t.fn__law_start
  exact callee_of (kfn (fun_mk l c k) sc__law_start fun cdv A outer s H E hr => kb__law_start t hr) fun _ us ws h1 h2 => match us, ws, h1, h2 with | [_, _], [], _, _ => .of_eq rfl
theorem sc__law_cell : FnScope N__law_cell P__law_cell (defScope st__law_cell) := ⟨rfl, rfl, rfl, by decide +kernel, rfl, by decide +kernel, by decide +kernel⟩
theorem kb__law_cell (t : Tx K mg a) {cdv : Value} {A : Around} {outer : List Env} {s : Shared} {H : Hp} {E : XK} (hr : LD.Room 0 (A.deeper (envOfC "_law_cell" (defScope st__law_cell) s.heap.objs.size a.f__law_cell cdv))) :
    KB (cxOf (L2.CX P w) P w K mg base N__law_cell "_law_cell" (defScope st__law_cell) a.f__law_cell cdv A outer s H E) (tb a) (fun c d _ H => E c d H) (defBody st__law_cell) ψ__law_cell := by
  have hN := sc__law_cell.nd
  have h65 := u65 hr
  have h64 := u64 hr
  have h0 := u0 hr
  have h1 := u1 hr
  exact (b_cons (s_if (Tq (fun _ => o_lt h0) (Vr 1) (Blt (fun _ => c_len) t.no_len (A1 (Vr 0) a_nil))) (b_cons (s_ret (Ix h1 (Vr 0) (Vr 1))) b_nil) b_nil) (b_cons (s_ret d_c_int) b_nil))
theorem ce__law_cell_2 (t : Tx K mg a) : Callee P w K mg base (tb a) 1 a.f__law_cell 2 [] φ__law_cell := by
  obtain ⟨oc, od, kV, doc, pm, an, cdv, ct, osl, l, c, k⟩ := t.fn__law_cell
  exact callee_of (kfn (fun_mk l c k) sc__law_cell fun cdv A outer s H E hr => kb__law_cell t hr) fun _ us ws h1 h2 => match us, ws, h1, h2 with | [_, _], [], _, _ => .of_eq rfl
theorem sc_law : FnScope N_law P_law (defScope st_law) := ⟨rfl, rfl, rfl, by decide +kernel, rfl, by decide +kernel, by decide +kernel⟩
theorem kb_law (t : Tx K mg a) {cdv : Value} {A : Around} {outer : List Env} {s : Shared} {H : Hp} {E : XK} (hr : LD.Room 2 (A.deeper (envOfC "law" (defScope st_law) s.heap.objs.size a.f_law cdv))) :
    KB (cxOf (L2.CX P w) P w K mg base N_law "law" (defScope st_law) a.f_law cdv A outer s H E) (tb a) (fun c d _ H => E c d H) (defBody st_law) ψ_law := by
  have hN := sc_law.nd
  have h65 := u65 hr
  have h64 := u64 hr
  have h0 := u0 hr
  have h1 := u1 hr
  exact (b_cons (s_for passes_k rfl (ki_range1 (by rfl) t.no_range (A1 (Blt (fun _ => (c_min rfl)) t.no_min (A1 d_c_int (A1 (Blt (fun _ => (c_max rfl)) t.no_max (A1 d_c_int (A1 (Blt (fun _ => c_len) t.no_len (A1 (Vr 0) a_nil)) a_nil))) a_nil))) a_nil) (by rfl)) (kg_name (i := 1) hN rfl (by first | exact Or.inl rfl | exact Or.inr rfl) (by first | exact Or.inl rfl | exact Or.inr rfl)) (b_cons (s_asg (Call (ce__law_start_2 t) hr takes_k t.mg__law_start t.kp__law_start (A1 (Call (ce__law_cell_2 t) hr takes_k t.mg__law_cell t.kp__law_cell (A1 (Vr 0) (A1 (Vr 1) a_nil)) k_nil) (A1 (Vr 1) a_nil)) k_nil) (kg_name (i := 2) hN rfl (by first | exact Or.inl rfl | exact Or.inr rfl) (by first | exact Or.inl rfl | exact Or.inr rfl)) (by rfl) (by rfl) (by rfl)) (b_cons (s_asg (Call (ce__law_digit_2 t) hr takes_k t.mg__law_digit t.kp__law_digit (A1 (Vr 2) (A1 d_c_int a_nil)) k_nil) (kg_name (i := 3) hN rfl (by first | exact Or.inl rfl | exact Or.inr rfl) (by first | exact Or.inl rfl | exact Or.inr rfl)) (by rfl) (by rfl) (by rfl)) (b_cons (s_if (Tq (fun _ => o_eq h64) (Call (ce__law_digit_2 t) hr takes_k t.mg__law_digit t.kp__law_digit (A1 (Vr 2) (A1 d_c_int a_nil)) k_nil) d_c_int) (b_cons (s_asg (d_bin (fun _ => o_add) d_c_int (Call (ce__law_digit_2 t) hr takes_k t.mg__law_digit t.kp__law_digit (A1 (Vr 2) (A1 d_c_int a_nil)) k_nil)) (kg_name (i := 3) hN rfl (by first | exact Or.inl rfl | exact Or.inr rfl) (by first | exact Or.inl rfl | exact Or.inr rfl)) (by rfl) (by rfl) (by rfl)) b_nil) b_nil) (b_cons (s_asg (d_lst (mu := true) a_nil) (kg_name (i := 4) hN rfl (by first | exact Or.inl rfl | exact Or.inr rfl) (by first | exact Or.inl rfl | exact Or.inr rfl)) (by rfl) (by rfl) (by rfl)) (b_cons (s_for passes_k rfl (ki_range1 (by rfl) t.no_range (A1 (Vr 3) a_nil) (by rfl)) (kg_name (i := 5) hN rfl (by first | exact Or.inl rfl | exact Or.inr rfl) (by first | exact Or.inl rfl | exact Or.inr rfl)) (b_cons (s_asg (d_bin (fun _ => o_sub) (Call (ce__law_digit_2 t) hr takes_k t.mg__law_digit t.kp__law_digit (A1 (Vr 2) (A1 d_c_int a_nil)) k_nil) d_c_int) (kg_name (i := 6) hN rfl (by first | exact Or.inl rfl | exact Or.inr rfl) (by first | exact Or.inl rfl | exact Or.inr rfl)) (by rfl) (by rfl) (by rfl)) (b_cons (s_if (Tq (fun _ => o_eq h64) (Call (ce__law_digit_2 t) hr takes_k t.mg__law_digit t.kp__law_digit (A1 (Vr 2) (A1 d_c_int a_nil)) k_nil) d_c_int) (b_cons (s_asg (d_bin (fun _ => o_add) (Vr 6) (d_bin (fun _ => o_pow) d_c_int d_c_int)) (kg_name (i := 6) hN rfl (by first | exact Or.inl rfl | exact Or.inr rfl) (by first | exact Or.inl rfl | exact Or.inr rfl)) (by rfl) (by rfl) (by rfl)) b_nil) b_nil) (b_cons (s_if (Tq (fun _ => o_notin h65) (Vr 6) (Vr 4)) (b_cons (s_expr (Append (Vr 4) (A1 (Vr 6) a_nil)) (by rfl)) b_nil) b_nil) b_nil))) (fun _ => rfl)) (b_cons (s_setLc (own := [("_law_number", 6)]) (mu := false) rfl hN (blkOk_by (N := N_law) (sc := defScope st_law) (by decide +kernel)) (by decide)  rfl rfl (sw_true rfl rfl rfl (by decide +kernel)) (ki_of (Vr 4)) (fun _ _ _ _ _ => (kg_name (i := 6) hN rfl (by first | exact Or.inl rfl | exact Or.inr rfl) (by first | exact Or.inl rfl | exact Or.inr rfl))) (fun _ _ _ _ _ => kts_nil) (fun _ _ _ _ _ => (Vr 6)) (fun _ => rfl)) (b_cons (s_asg (Call (ce_best_row_1 t) hr takes_k t.mg_best_row t.kp_best_row (A1 (Vr 4) a_nil) k_nil) (kg_name (i := 8) hN rfl (by first | exact Or.inl rfl | exact Or.inr rfl) (by first | exact Or.inl rfl | exact Or.inr rfl)) (by rfl) (by rfl) (by rfl)) (b_cons (s_if (Tw (t_or (t_not (Tv (Blt (fun _ => c_isi) t.no_isinstance (A1 (Vr 8) (A1 (Ty t.no_list) a_nil))))) (t_or (t_not (Tv (Call (ce__law_right_2 t) hr takes_k t.mg__law_right t.kp__law_right (A1 (Vr 4) (A1 (Vr 8) a_nil)) k_nil))) (t_or1 (Tq (fun _ => o_neQ h64) (Vr 4) (Vr 7)))))) (b_cons (s_ret d_c_bl) b_nil) b_nil) (b_cons (s_if (Tw (t_and (Tq (fun _ => o_lt h0) (Blt (fun _ => c_len) t.no_len (A1 (Vr 4) a_nil)) d_c_int) (t_and1 (Tq (fun _ => o_neQ h64) (Vr 8) (Call (ce__law_all_1 t) hr takes_k t.mg__law_all t.kp__law_all (A1 (Vr 4) a_nil) k_nil))))) (b_cons (s_ret d_c_bl) b_nil) b_nil) b_nil))))))))) (fun _ => rfl)) (b_cons (s_ret d_c_bl) b_nil))
theorem ok_law (t : Tx K mg a) : ∃ fd : FuncData, (∀ (s : Shared) (v : Value), BindsTo s fd ⟨[v], []⟩ [("_law_script", v)]) ∧ ∀ base : Heap, FnX P w K mg base (tb a) 3 a.f_law fd P_law φ_law := by
  obtain ⟨oc, od, kV, doc, pm, an, cdv, ct, osl, l, c, k⟩ := t.fn_law
  exact ⟨_, fun s v => .of_eq rfl, fun base => kfn (fun_mk l c k) sc_law fun cdv A outer s H E hr => kb_law t hr⟩
end
end K30
namespace K30
open PySem PySem.Spec PyProof.Rows L2 LD
/-! ### rising rows: plain -/
def mxL (l : List Nat) : Nat := l.foldr max 0
theorem mxL_le {l : List Nat} {b : Nat} (h : ∀ x ∈ l, x ≤ b) : mxL l ≤ b := by
  induction l with
  | nil => exact Nat.zero_le _
  | cons a l ih => exact Nat.max_le.mpr ⟨h a List.mem_cons_self, ih fun x hx => h x (List.mem_cons_of_mem _ hx)⟩
theorem le_mxL {l : List Nat} {x : Nat} (h : x ∈ l) : x ≤ mxL l := by
  induction l with
  | nil => cases h
  | cons a l ih =>
    rcases List.mem_cons.mp h with rfl | h
    · exact Nat.le_max_left _ _
    · exact Nat.le_trans (ih h) (Nat.le_max_right _ _)
theorem mxL_mem {l : List Nat} (h : mxL l ≠ 0) : mxL l ∈ l := by
  induction l with
  | nil => exact absurd rfl h
  | cons a l ih =>
    show max a (mxL l) ∈ _
    by_cases ha : mxL l ≤ a
    · rw [Nat.max_eq_left ha]; exact List.mem_cons_self
    · have ha : a ≤ mxL l := by omega
      have e : mxL (a :: l) = mxL l := Nat.max_eq_right ha
      rw [Nat.max_eq_right ha]
      exact List.mem_cons_of_mem _ (ih (by rw [← e]; exact h))
theorem mxL_rev (l : List Nat) : mxL l.reverse = mxL l := Nat.le_antisymm (mxL_le fun x hx => le_mxL (List.mem_reverse.mp hx)) (mxL_le fun x hx => le_mxL (List.mem_reverse.mpr hx))
def extR (R : Int → Int → Bool) (x : Int) (t : List (Int × Nat)) : Nat := mxL ((t.filter fun p => R x p.1).map (·.2))
def lens (R : Int → Int → Bool) : List Int → List (Int × Nat)
  | [] => []
  | x :: r => (x, 1 + extR R x (lens R r)) :: lens R r
abbrev len1 (R : Int → Int → Bool) (x : Int) (r : List Int) : Nat := 1 + extR R x (lens R r)
def best (R : Int → Int → Bool) (xs : List Int) : Nat := mxL ((lens R xs).map (·.2))
abbrev Ch (R : Int → Int → Bool) (s : List Int) : Prop := s.Pairwise fun a b => R a b = true
theorem ext_le {R : Int → Int → Bool} {x y : Int} {l : Nat} {t : List (Int × Nat)} (h : (y, l) ∈ t) (hr : R x y = true) : l ≤ extR R x t := le_mxL (List.mem_map.mpr ⟨(y, l), List.mem_filter.mpr ⟨h, hr⟩, rfl⟩)
theorem ext_mem {R : Int → Int → Bool} {x : Int} {t : List (Int × Nat)} (h : extR R x t ≠ 0) : ∃ y, (y, extR R x t) ∈ t ∧ R x y = true := by
  obtain ⟨p, h1, h2⟩ := List.mem_map.mp (mxL_mem h)
  obtain ⟨h3, h4⟩ := List.mem_filter.mp h1
  refine ⟨p.1, ?_, h4⟩
  show (p.1, mxL _) ∈ _
  rw [← h2]
  exact h3
theorem lens_ge {R : Int → Int → Bool} {x : Int} {l : Nat} : ∀ {xs : List Int}, (x, l) ∈ lens R xs → 1 ≤ l
  | [], h => by cases h
  | y :: r, h => by
    rw [lens, List.mem_cons] at h
    rcases h with h | h
    · cases h; omega
    · exact lens_ge h
theorem tr_cons {R : Int → Int → Bool} (tr : ∀ a b c, R a b = true → R b c = true → R a c = true) {x y : Int} {s : List Int} (h : R x y = true) (c : Ch R (y :: s)) : Ch R (x :: y :: s) := by
  refine List.pairwise_cons.mpr ⟨fun z hz => ?_, c⟩
  rcases List.mem_cons.mp hz with rfl | hz
  · exact h
  · exact tr _ _ _ h ((List.pairwise_cons.mp c).1 z hz)
section
variable {R : Int → Int → Bool} (tr : ∀ a b c, R a b = true → R b c = true → R a c = true)
include tr
theorem row_of : ∀ {xs : List Int} {x : Int} {l : Nat}, (x, l) ∈ lens R xs → ∃ s, (x :: s).Sublist xs ∧ Ch R (x :: s) ∧ s.length + 1 = l
  | [], _, _, h => by cases h
  | y :: r, x, l, h => by
    rw [lens, List.mem_cons] at h
    rcases h with h | h
    · cases h
      by_cases h0 : extR R y (lens R r) = 0
      · exact ⟨[], List.Sublist.cons₂ _ (List.nil_sublist _), List.pairwise_singleton _ _, by rw [h0] <;> rfl⟩
      · obtain ⟨z, h1, h2⟩ := ext_mem h0
        obtain ⟨s, h3, h4, h5⟩ := row_of h1
        exact ⟨z :: s, List.Sublist.cons₂ _ h3, tr_cons tr h2 h4, by rw [List.length_cons, h5]; omega⟩
    · obtain ⟨s, h3, h4, h5⟩ := row_of h
      exact ⟨s, List.Sublist.cons _ h3, h4, h5⟩
theorem row_at1 {x : Int} {r : List Int} : ∃ s, s.Sublist r ∧ Ch R (x :: s) ∧ s.length + 1 = len1 R x r := by
  by_cases h0 : extR R x (lens R r) = 0
  · exact ⟨[], List.nil_sublist _, List.pairwise_singleton _ _, by show 0 + 1 = 1 + _; rw [h0]⟩
  · obtain ⟨z, h1, h2⟩ := ext_mem h0
    obtain ⟨s, h3, h4, h5⟩ := row_of tr h1
    exact ⟨z :: s, h3, tr_cons tr h2 h4, by rw [List.length_cons, h5]; show _ = 1 + _; omega⟩
theorem best_ex (xs : List Int) : ∃ s, s.Sublist xs ∧ Ch R s ∧ s.length = best R xs := by
  by_cases h0 : best R xs = 0
  · exact ⟨[], List.nil_sublist _, List.Pairwise.nil, h0.symm⟩
  · obtain ⟨p, h1, h2⟩ := List.mem_map.mp (mxL_mem h0)
    obtain ⟨s, h3, h4, h5⟩ := row_of tr (x := p.1) (l := p.2) h1
    exact ⟨p.1 :: s, h3, h4, by rw [List.length_cons, h5, h2] <;> rfl⟩
end
theorem len_of {R : Int → Int → Bool} : ∀ {xs : List Int} {x : Int} {s : List Int}, (x :: s).Sublist xs → Ch R (x :: s) → ∃ l, (x, l) ∈ lens R xs ∧ s.length + 1 ≤ l
  | [], x, s, h, _ => by cases h
  | y :: r, x, s, h, c => by
    cases h with
    | cons _ h =>
      obtain ⟨l, h1, h2⟩ := len_of h c
      exact ⟨l, List.mem_cons_of_mem _ h1, h2⟩
    | cons_cons _ h =>
      refine ⟨_, List.mem_cons_self, ?_⟩
      cases s with
      | nil => show 0 + 1 ≤ 1 + _; omega
      | cons z s =>
        obtain ⟨c1, c2⟩ := List.pairwise_cons.mp c
        obtain ⟨l, h1, h2⟩ := len_of h c2
        have := ext_le h1 (c1 z List.mem_cons_self)
        rw [List.length_cons]
        omega
theorem len1_le {R : Int → Int → Bool} {x : Int} {r s : List Int} (h : s.Sublist r) (c : Ch R (x :: s)) : s.length + 1 ≤ len1 R x r := by
  cases s with
  | nil => show 0 + 1 ≤ 1 + _; omega
  | cons z s =>
    obtain ⟨c1, c2⟩ := List.pairwise_cons.mp c
    obtain ⟨l, h1, h2⟩ := len_of h c2
    have := ext_le h1 (c1 z List.mem_cons_self)
    rw [List.length_cons]
    show _ ≤ 1 + _
    omega
theorem le_best {R : Int → Int → Bool} {xs s : List Int} (h : s.Sublist xs) (c : Ch R s) : s.length ≤ best R xs := by
  cases s with
  | nil => exact Nat.zero_le _
  | cons x s =>
    obtain ⟨l, h1, h2⟩ := len_of h c
    exact Nat.le_trans h2 (le_mxL (List.mem_map.mpr ⟨_, h1, rfl⟩))
def lt (a b : Int) : Bool := decide (a < b)
def gt (a b : Int) : Bool := decide (b < a)
theorem lt_tr (a b c : Int) (h1 : lt a b = true) (h2 : lt b c = true) : lt a c = true := decide_eq_true (by have := of_decide_eq_true h1; have := of_decide_eq_true h2; omega)
theorem gt_tr (a b c : Int) (h1 : gt a b = true) (h2 : gt b c = true) : gt a c = true := decide_eq_true (by have := of_decide_eq_true h1; have := of_decide_eq_true h2; omega)
theorem best_rev (xs : List Int) : best gt xs.reverse = best lt xs := by
  apply Nat.le_antisymm
  · obtain ⟨s, h1, h2, h3⟩ := best_ex gt_tr xs.reverse
    rw [← h3, ← List.length_reverse]
    refine le_best ?_ (List.pairwise_reverse.mpr h2)
    have := h1.reverse
    rw [List.reverse_reverse] at this
    exact this
  · obtain ⟨s, h1, h2, h3⟩ := best_ex lt_tr xs
    rw [← h3, ← List.length_reverse]
    exact le_best h1.reverse (List.pairwise_reverse.mpr h2)
/-- the rows that begin with the first number, of what is not less -/
theorem best_rest {x : Int} {r : List Int} (nd : x ∉ r) : best lt ((x :: r).filter fun y => decide (x ≤ y)) = len1 lt x r := by
  have e : (x :: r).filter (fun y => decide (x ≤ y)) = x :: r.filter (fun y => decide (x ≤ y)) := List.filter_cons_of_pos (p := fun y => decide (x ≤ y)) (decide_eq_true (Int.le_refl x))
  rw [e]
  apply Nat.le_antisymm
  · obtain ⟨s, h1, h2, h3⟩ := best_ex lt_tr (x :: r.filter fun y => decide (x ≤ y))
    rw [← h3]
    cases h1 with
    | cons _ h =>
      have hs : ∀ y ∈ s, lt x y = true := fun y hy => by
        obtain ⟨a, b⟩ := List.mem_filter.mp (h.subset hy)
        have := of_decide_eq_true b
        have : x ≠ y := fun q => nd (by rw [q]; exact a)
        exact decide_eq_true (by omega)
      have := len1_le (h.trans List.filter_sublist) (List.pairwise_cons.mpr ⟨hs, h2⟩)
      omega
    | cons_cons _ h => exact len1_le (h.trans List.filter_sublist) h2
  · obtain ⟨s, h1, h2, h3⟩ := row_at1 lt_tr (x := x) (r := r)
    rw [← h3]
    refine le_best (s := x :: s) (List.Sublist.cons₂ _ ?_) h2
    have hf : s.filter (fun y => decide (x ≤ y)) = s := List.filter_eq_self.mpr fun y hy => decide_eq_true (by
      have := of_decide_eq_true ((List.pairwise_cons.mp h2).1 y hy)
      omega)
    rw [← hf]
    exact h1.filter _
/-! ### the greedy row -/
def okB (last : Option Int) (x : Int) : Bool := match last with
  | none => true
  | some y => decide (y < x)
def pickP (last : Option Int) (w : Nat) (i : Nat) : List Int → List Nat
  | [] => []
  | x :: r => if (decide (len1 lt x r = w) && okB last x) = true then i :: pickP (some x) (w - 1) (i + 1) r else pickP last w (i + 1) r
theorem pick_zero : ∀ (ys : List Int) (last : Option Int) (i : Nat), pickP last 0 i ys = []
  | [], _, _ => rfl
  | x :: r, last, i => by
    rw [pickP, if_neg, pick_zero r]
    rw [Bool.and_eq_true]
    intro h
    have := of_decide_eq_true h.1
    have : 1 + extR lt x (lens lt r) = 0 := this
    omega
theorem pick_ge : ∀ (ys : List Int) (last : Option Int) (w i : Nat), ∀ p ∈ pickP last w i ys, i ≤ p ∧ p < i + ys.length
  | [], _, _, _, p, h => by cases h
  | x :: r, last, w, i, p, h => by
    rw [List.length_cons]
    rw [pickP] at h
    split at h
    · rcases List.mem_cons.mp h with rfl | h
      · omega
      · have := pick_ge r _ _ _ p h; omega
    · have := pick_ge r _ _ _ p h; omega
theorem pick_inc : ∀ (ys : List Int) (last : Option Int) (w i : Nat), (pickP last w i ys).Pairwise (· < ·)
  | [], _, _, _ => List.Pairwise.nil
  | x :: r, last, w, i => by
    rw [pickP]
    split
    · refine List.pairwise_cons.mpr ⟨fun p hp => ?_, pick_inc r _ _ _⟩
      have := pick_ge r _ _ _ p hp
      omega
    · exact pick_inc r _ _ _
theorem okB_tr {last : Option Int} {x y : Int} (h : okB last x = true) (h2 : x < y) : okB last y = true := by
  cases last with
  | none => rfl
  | some z => exact decide_eq_true (by have := of_decide_eq_true h; omega)
/-- with the values: they rise -/
theorem pick_val {xs : List Int} : ∀ (ys : List Int) (last : Option Int) (w i : Nat), xs.drop i = ys → ((pickP last w i ys).map fun p => xs.getD p 0).Pairwise (· < ·) ∧ ∀ p ∈ pickP last w i ys, okB last (xs.getD p 0) = true
  | [], _, _, _, _ => ⟨List.Pairwise.nil, fun p h => by cases h⟩
  | x :: r, last, w, i, hd => by
    have hx : xs.getD i 0 = x := by
      rw [List.getD_eq_getElem?_getD, ← List.head?_drop, hd] <;> rfl
    have hr : xs.drop (i + 1) = r := by rw [← List.tail_drop, hd] <;> rfl
    rw [pickP]
    split
    · rename_i hc
      rw [Bool.and_eq_true] at hc
      obtain ⟨h1, h2⟩ := pick_val (xs := xs) r (some x) (w - 1) (i + 1) hr
      refine ⟨?_, fun p hp => ?_⟩
      · rw [List.map_cons, hx]
        refine List.pairwise_cons.mpr ⟨fun y hy => ?_, h1⟩
        obtain ⟨p, hp, rfl⟩ := List.mem_map.mp hy
        exact of_decide_eq_true (h2 p hp)
      · rcases List.mem_cons.mp hp with rfl | hp
        · rw [hx]; exact hc.2
        · exact okB_tr hc.2 (of_decide_eq_true (h2 p hp))
    · exact pick_val r last w (i + 1) hr
theorem pick_len : ∀ (ys : List Int) (last : Option Int) (w i : Nat), (∃ y, (y, w) ∈ lens lt ys ∧ okB last y = true) → (pickP last w i ys).length = w
  | [], _, _, _, h => by obtain ⟨_, h, _⟩ := h; cases h
  | x :: r, last, w, i, h => by
    rw [pickP]
    split
    · rename_i hc
      rw [Bool.and_eq_true] at hc
      have hw : 1 + extR lt x (lens lt r) = w := of_decide_eq_true hc.1
      rw [List.length_cons]
      by_cases h0 : extR lt x (lens lt r) = 0
      · have : w - 1 = 0 := by omega
        rw [this, pick_zero]
        show 0 + 1 = w
        omega
      · obtain ⟨z, h1, h2⟩ := ext_mem h0
        rw [pick_len r (some x) (w - 1) (i + 1) ⟨z, by rw [show w - 1 = extR lt x (lens lt r) by omega]; exact h1, h2⟩]
        omega
    · rename_i hc
      refine pick_len r last w (i + 1) ?_
      obtain ⟨y, h1, h2⟩ := h
      rw [lens, List.mem_cons] at h1
      rcases h1 with h1 | h1
      · have e1 : y = x := congrArg Prod.fst h1
        have e2 : w = 1 + extR lt x (lens lt r) := congrArg Prod.snd h1
        exact absurd (by rw [Bool.and_eq_true]; exact ⟨decide_eq_true e2.symm, by rw [← e1]; exact h2⟩) hc
      · exact ⟨y, h1, h2⟩
/-- the length at a place -/
def lenAt (xs : List Int) (j : Nat) : Nat := match xs.drop j with
  | [] => 0
  | x :: r => len1 lt x r
/-- the value ahead of the k-th place -/
def prevV (xs : List Int) (last : Option Int) (G : List Nat) (k : Nat) : Option Int := match k with
  | 0 => last
  | k + 1 => some (xs.getD (G.getD k 0) 0)
def prevP (i : Nat) (G : List Nat) (k : Nat) : Nat := match k with
  | 0 => i
  | k + 1 => G.getD k 0 + 1
theorem pick_skip {xs : List Int} : ∀ (ys : List Int) (last : Option Int) (w i : Nat), xs.drop i = ys → ∀ k j, k < (pickP last w i ys).length → prevP i (pickP last w i ys) k ≤ j → j < (pickP last w i ys).getD k 0 → okB (prevV xs last (pickP last w i ys) k) (xs.getD j 0) = true → lenAt xs j ≠ w - k
  | [], _, _, _, _, k, j, h, _, _, _ => by cases h
  | x :: r, last, w, i, hd, k, j, hk, h1, h2, h3 => by
    have hx : xs.getD i 0 = x := by
      rw [List.getD_eq_getElem?_getD, ← List.head?_drop, hd] <;> rfl
    have hr : xs.drop (i + 1) = r := by rw [← List.tail_drop, hd] <;> rfl
    have hl : lenAt xs i = len1 lt x r := by unfold lenAt; rw [hd]
    by_cases hc : (decide (len1 lt x r = w) && okB last x) = true
    · have e : pickP last w i (x :: r) = i :: pickP (some x) (w - 1) (i + 1) r := by rw [pickP, if_pos hc]
      rw [e] at hk h1 h2 h3
      cases k with
      | zero =>
        have h1 : i ≤ j := h1
        have h2 : j < i := h2
        omega
      | succ k =>
        rw [List.length_cons] at hk
        have h2 : j < (pickP (some x) (w - 1) (i + 1) r).getD k 0 := h2
        have ih := pick_skip r (some x) (w - 1) (i + 1) hr k j (by omega)
        cases k with
        | zero =>
          have h1 : i + 1 ≤ j := h1
          have h3 : okB (some (xs.getD i 0)) (xs.getD j 0) = true := h3
          rw [hx] at h3
          have := ih h1 h2 h3
          omega
        | succ k =>
          have := ih h1 h2 h3
          omega
    · have e : pickP last w i (x :: r) = pickP last w (i + 1) r := by rw [pickP, if_neg hc]
      rw [e] at hk h1 h2 h3
      have ih := pick_skip r last w (i + 1) hr k j hk
      cases k with
      | zero =>
        have h1 : i ≤ j := h1
        by_cases hj : j = i
        · subst hj
          rw [hl]
          intro q
          refine hc ?_
          rw [Bool.and_eq_true]
          have h3 : okB last (xs.getD j 0) = true := h3
          rw [hx] at h3
          exact ⟨decide_eq_true q, h3⟩
        · exact ih (by show i + 1 ≤ j; omega) h2 h3
      | succ k => exact ih h1 h2 h3
/-- no other row is as long and stands first -/
theorem pick_first {xs : List Int} : ∀ (ys : List Int) (last : Option Int) (w i : Nat) (P : List Nat), xs.drop i = ys → (∀ y l, (y, l) ∈ lens lt ys → okB last y = true → l ≤ w) → P.Pairwise (· < ·) → (∀ p ∈ P, i ≤ p ∧ p < i + ys.length) → (P.map fun p => xs.getD p 0).Pairwise (· < ·) → (∀ p ∈ P, okB last (xs.getD p 0) = true) → P.length = w →
    P = pickP last w i ys ∨ HT.lexLt ((pickP last w i ys).map fun p : Nat => (p : Int)) (P.map fun p : Nat => (p : Int)) = true
  | [], last, w, i, P, _, _, _, hb, _, _, _ => by
    cases P with
    | nil => exact .inl rfl
    | cons p P =>
      have := hb p List.mem_cons_self
      rw [List.length_nil] at this
      omega
  | x :: r, last, w, i, P, hd, hmax, hinc, hb, hval, hok, hlen => by
    have hx : xs.getD i 0 = x := by
      rw [List.getD_eq_getElem?_getD, ← List.head?_drop, hd] <;> rfl
    have hr : xs.drop (i + 1) = r := by rw [← List.tail_drop, hd] <;> rfl
    rw [List.length_cons] at hb
    cases P with
    | nil =>
      have : w = 0 := hlen.symm
      subst this
      rw [pick_zero]
      exact .inl rfl
    | cons p P =>
      obtain ⟨i1, i2⟩ := List.pairwise_cons.mp hinc
      rw [List.map_cons] at hval
      obtain ⟨v1, v2⟩ := List.pairwise_cons.mp hval
      have hbp := hb p List.mem_cons_self
      by_cases hp : p = i
      · subst hp
        rw [hx] at v1
        have okx : okB last x = true := by have := hok p List.mem_cons_self; rw [hx] at this; exact this
        -- the row from here on
        have hsub : (P.map fun q => xs.getD q 0).Sublist r := by
          have key : ∀ (Q : List Nat) (k : Nat) (zs : List Int), xs.drop k = zs → Q.Pairwise (· < ·) → (∀ q ∈ Q, k ≤ q ∧ q < k + zs.length) → (Q.map fun q => xs.getD q 0).Sublist zs := by
            intro Q k zs
            induction zs generalizing Q k with
            | nil =>
              intro _ _ h
              cases Q with
              | nil => exact List.nil_sublist _
              | cons q Q => have := h q List.mem_cons_self; rw [List.length_nil] at this; omega
            | cons z zs ih =>
              intro hk hq h
              have hz : xs.getD k 0 = z := by rw [List.getD_eq_getElem?_getD, ← List.head?_drop, hk] <;> rfl
              have hzs : xs.drop (k + 1) = zs := by rw [← List.tail_drop, hk] <;> rfl
              rw [List.length_cons] at h
              cases Q with
              | nil => exact List.nil_sublist _
              | cons q Q =>
                obtain ⟨q1, q2⟩ := List.pairwise_cons.mp hq
                have hq0 := h q List.mem_cons_self
                by_cases e : q = k
                · subst e
                  rw [List.map_cons, hz]
                  refine List.Sublist.cons₂ _ (ih Q (q + 1) hzs q2 fun u hu => ?_)
                  have := q1 u hu
                  have := h u (List.mem_cons_of_mem _ hu)
                  omega
                · refine List.Sublist.cons _ (ih (q :: Q) (k + 1) hzs hq fun u hu => ?_)
                  have := h u hu
                  rcases List.mem_cons.mp hu with rfl | hu
                  · omega
                  · have := q1 u hu
                    omega
          refine key P (p + 1) r hr i2 fun q hq => ?_
          have := i1 q hq
          have := hb q (List.mem_cons_of_mem _ hq)
          omega
        have hch : Ch lt (x :: P.map fun q => xs.getD q 0) := List.pairwise_cons.mpr ⟨fun y hy => decide_eq_true (v1 y hy), v2.imp fun h => decide_eq_true h⟩
        have h1 := len1_le hsub hch
        rw [List.length_map] at h1
        have h2 := hmax x (len1 lt x r) (by rw [lens]; exact List.mem_cons_self) okx
        have hw : len1 lt x r = w := by
          rw [List.length_cons] at hlen
          omega
        have hc : (decide (len1 lt x r = w) && okB last x) = true := by rw [Bool.and_eq_true]; exact ⟨decide_eq_true hw, okx⟩
        have e : pickP last w p (x :: r) = p :: pickP (some x) (w - 1) (p + 1) r := by rw [pickP, if_pos hc]
        rw [e]
        have ih := pick_first r (some x) (w - 1) (p + 1) P hr (fun y l hy hxy => by
          have := ext_le (R := lt) hy hxy
          have : 1 + extR lt x (lens lt r) = w := hw
          omega) i2 (fun q hq => by
          have := i1 q hq
          have := hb q (List.mem_cons_of_mem _ hq)
          omega) v2 (fun q hq => decide_eq_true (v1 _ (List.mem_map.mpr ⟨q, hq, rfl⟩))) (by rw [List.length_cons] at hlen; omega)
        rcases ih with ih | ih
        · exact .inl (by rw [← ih])
        · refine .inr ?_
          rw [List.map_cons, List.map_cons, HT.lexLt_cons, if_pos rfl]
          exact ih
      · by_cases hc : (decide (len1 lt x r = w) && okB last x) = true
        · have e : pickP last w i (x :: r) = i :: pickP (some x) (w - 1) (i + 1) r := by rw [pickP, if_pos hc]
          rw [e]
          refine .inr ?_
          rw [List.map_cons, List.map_cons, HT.lexLt_cons, if_neg (by omega)]
          exact decide_eq_true (by omega)
        · have e : pickP last w i (x :: r) = pickP last w (i + 1) r := by rw [pickP, if_neg hc]
          rw [e]
          refine pick_first r last w (i + 1) (p :: P) hr (fun y l hy => hmax y l (by rw [lens]; exact List.mem_cons_of_mem _ hy)) hinc (fun q hq => ?_) (by rw [List.map_cons]; exact hval) hok hlen
          have := hb q hq
          rcases List.mem_cons.mp hq with rfl | hq
          · omega
          · have := i1 q hq
            omega
end K30
namespace K30
open PySem PySem.Spec PyProof.Rows L2 LD
theorem big : 100000 ≤ LINE := by decide
theorem app_at {M : Mem} {o : DO} : (M ++ [o])[M.length]? = some o := by rw [List.getElem?_append_right (Nat.le_refl _), Nat.sub_self] <;> rfl
theorem app_old {M X : Mem} {j : Nat} (h : j < M.length) : (M ++ X)[j]? = M[j]? := List.getElem?_append_left h
theorem lt_of {M : Mem} {i : Nat} {o : DO} (h : M[i]? = some o) : i < M.length := (List.getElem?_eq_some_iff.mp h).1
theorem set_at {M : Mem} {i j : Nat} {o : DO} (h : i ≠ j) : (M.set i o)[j]? = M[j]? := List.getElem?_set_ne h
theorem set_lt {M : Mem} {i : Nat} {o : DO} (h : i < M.length) : (M.set i o)[i]? = some o := List.getElem?_set_self h
theorem filt {α : Type} (l : List α) : l.filter (fun _ => true) = l := List.filter_eq_self.mpr fun _ _ => rfl
/-! ### a list of numbers: a value, or one in memory -/
def IsL (M : Mem) (v : D) (xs : List Int) : Prop := lsOf M v = some (xs.map .int)
theorem isl_v (M : Mem) (xs : List Int) : IsL M (.lst (xs.map .int)) xs := rfl
theorem isl_r {M : Mem} {i : Nat} {xs : List Int} (h : M[i]? = some (.lst (xs.map .int))) : IsL M (.ref i) xs := v_lsR h
theorem len_l {M : Mem} {v : D} {xs : List Int} (h : IsL M v xs) : lenC [v] M = some (.int xs.length, M) := by
  unfold IsL at h
  cases v with
  | lst ys => cases h; show some (D.int ((xs.map D.int).length : Nat), M) = _; rw [List.length_map]
  | ref i =>
    simp only [lsOf] at h
    split at h
    · rename_i zs hz
      cases h
      rw [v_lenR hz, List.length_map]
    · cases h
  | _ => cases h
theorem ix_l {M : Mem} {v : D} {xs : List Int} {k : Nat} {x : Int} (h : IsL M v xs) (hk : xs[k]? = some x) : ixD v (.int (k : Int)) M = some (.int x, M) := by
  have ha : atI (xs.map D.int) (k : Int) = some (.int x) := atN (by rw [List.getElem?_map, hk] <;> rfl)
  unfold IsL at h
  cases v with
  | lst ys =>
    cases h
    show (atI (xs.map D.int) (k : Int)).map _ = _
    rw [ha] <;> rfl
  | ref i =>
    simp only [lsOf] at h
    split at h
    · rename_i zs hz
      cases h
      rw [v_rix, hz, rixK_l, ha] <;> rfl
    · cases h
  | _ => cases h
theorem getD_at {xs : List Int} {k : Nat} (h : k < xs.length) : xs[k]? = some (xs.getD k 0) := by
  rw [List.getD_eq_getElem?_getD, List.getElem?_eq_getElem h] <;> rfl
theorem drop_at {xs : List Int} {i : Nat} {x : Int} {r : List Int} (h : xs.drop i = x :: r) : xs[i]? = some x ∧ xs.drop (i + 1) = r ∧ i < xs.length := by
  have h1 : xs[i]? = some x := by rw [← List.head?_drop, h] <;> rfl
  exact ⟨h1, by rw [← List.tail_drop, h] <;> rfl, (List.getElem?_eq_some_iff.mp h1).1⟩
theorem ints_map : ∀ xs : List Int, intsOf (xs.map D.int) = some xs
  | [] => rfl
  | x :: xs => by
    rw [List.map_cons]
    unfold intsOf
    rw [ints_map xs] <;> rfl
theorem maxI_mx : ∀ (l : List Nat) (a : Nat), maxI ((a : Int) :: l.map fun n : Nat => (n : Int)) = ((mxL (a :: l) : Nat) : Int)
  | [], a => by show (a : Int) = ((max a 0 : Nat) : Int); rw [Nat.max_zero]
  | b :: l, a => by
    have ih := maxI_mx l b
    rw [List.map_cons]
    show max (a : Int) (maxI ((b : Int) :: l.map fun n : Nat => (n : Int))) = ((max a (mxL (b :: l)) : Nat) : Int)
    rw [ih]
    omega
theorem max_l {l : List Nat} {M : Mem} (h : l ≠ []) : maxC [.lst ((l.map fun n : Nat => (n : Int)).map .int)] M = some (.int ((mxL l : Nat) : Int), M) := by
  cases l with
  | nil => exact absurd rfl h
  | cons a l =>
    show ((lsOf M (.lst (((a :: l).map fun n : Nat => (n : Int)).map D.int))).bind fun xs => (intsOf xs).bind fun ns => if ns.isEmpty then none else some (D.int (maxI ns), M)) = _
    show ((intsOf (((a :: l).map fun n : Nat => (n : Int)).map D.int)).bind fun ns => if ns.isEmpty then none else some (D.int (maxI ns), M)) = _
    rw [ints_map]
    show some (D.int (maxI ((a : Int) :: l.map fun n : Nat => (n : Int))), M) = _
    rw [maxI_mx]
def natsD (l : List Nat) : List D := (l.map fun n : Nat => (n : Int)).map D.int
theorem natsD_len (l : List Nat) : (natsD l).length = l.length := by unfold natsD; rw [List.length_map, List.length_map]
theorem natsD_at {l : List Nat} {k n : Nat} (h : l[k]? = some n) : atI (natsD l) (k : Int) = some (.int (n : Int)) := atN (by unfold natsD; rw [List.getElem?_map, List.getElem?_map, h] <;> rfl)
/-! ### the lengths of the program -/
theorem fold_ext (x : Int) : ∀ (t : List (Int × Nat)) (c : Nat), 1 ≤ c → t.foldl (fun c p => if x < p.1 then max c (p.2 + 1) else c) c = max c (1 + extR lt x t)
  | [], c, h => by show c = max c (1 + 0); omega
  | p :: t, c, h => by
    rw [List.foldl_cons]
    by_cases hp : x < p.1
    · rw [if_pos hp, fold_ext x t _ (by omega)]
      have e : extR lt x (p :: t) = max p.2 (extR lt x t) := by
        unfold extR
        rw [List.filter_cons_of_pos (p := fun q : Int × Nat => lt x q.1) (decide_eq_true hp)] <;> rfl
      rw [e]
      omega
    · rw [if_neg hp, fold_ext x t _ h]
      have e : extR lt x (p :: t) = extR lt x t := by
        unfold extR
        rw [List.filter_cons_of_neg (p := fun q : Int × Nat => lt x q.1) (fun z => hp (of_decide_eq_true z))]
      rw [e]
theorem set_lst {M : Mem} {i k : Nat} {ys : List D} {d : D} (h : M[i]? = some (.lst ys)) (hk : k < ys.length) : setD (.ref i) (.int (k : Int)) d M = some (M.set i (.lst (ys.set k d))) := by
  have e : ixN ys.length (k : Int) = some k := by
    unfold ixN
    split
    · rename_i h0; rw [Int.toNat_natCast, if_pos (by omega)]
    · rename_i h0; omega
  simp only [setD, h, e]
theorem lens_len (R : Int → Int → Bool) : ∀ xs : List Int, (lens R xs).length = xs.length
  | [] => rfl
  | x :: r => by rw [lens, List.length_cons, List.length_cons, lens_len R r]
theorem lens_fst (R : Int → Int → Bool) : ∀ xs : List Int, (lens R xs).map (·.1) = xs
  | [] => rfl
  | x :: r => by rw [lens, List.map_cons, lens_fst R r]
section
variable {B : Mem} {N Lr : Nat} {xs : List Int}
/-- the lengths: i ones, the one at work, those behind -/
def lenM (B : Mem) (Lr i c : Nat) (post : List Nat) : Mem := B.set Lr (.lst (natsD (List.replicate i 1 ++ c :: post)))
theorem lenM_N {i c : Nat} {post : List Nat} (hN : B[N]? = some (.lst (xs.map .int))) (hne : Lr ≠ N) : (lenM B Lr i c post)[N]? = some (.lst (xs.map .int)) := by
  unfold lenM
  rw [set_at hne]
  exact hN
theorem inner_loop (hN : B[N]? = some (.lst (xs.map .int))) (hL : Lr < B.length) (hne : Lr ≠ N) {i : Nat} {x : Int} {r : List Int} (hd : xs.drop i = x :: r) {a2 : Option D} : ∀ (t done : List (Int × Nat)) (c : Nat) (x4 : Option D), lens lt r = done ++ t → 1 ≤ c → ∃ y4, forV (fun _ => true) (gNm 4) β_lengths_from_3 ((List.range' (i + 1 + done.length) t.length).map fun j : Nat => D.int (j : Int)) [some (.ref N), some (.ref Lr), a2, some (.int (i : Int)), x4] (lenM B Lr i c ((lens lt r).map (·.2))) =
    .nx [some (.ref N), some (.ref Lr), a2, some (.int (i : Int)), y4] (lenM B Lr i (t.foldl (fun c p => if x < p.1 then max c (p.2 + 1) else c) c) ((lens lt r).map (·.2)))
  | [], done, c, x4, _, _ => ⟨x4, forV_n rfl⟩
  | p :: t, done, c, x4, hdt, hc => by
    obtain ⟨hx, hr, hi⟩ := drop_at hd
    have hp : (lens lt r)[done.length]? = some p := by rw [hdt, List.getElem?_append_right (Nat.le_refl _), Nat.sub_self] <;> rfl
    have hpf : r[done.length]? = some p.1 := by
      have := congrArg (fun l : List Int => l[done.length]?) (lens_fst lt r)
      have e : ((lens lt r).map (·.1))[done.length]? = r[done.length]? := this
      rw [List.getElem?_map, hp] at e
      exact e.symm
    have hxp : xs[i + 1 + done.length]? = some p.1 := by rw [← hr, List.getElem?_drop] at hpf; exact hpf
    obtain ⟨y4, e⟩ := inner_loop hN hL hne hd (a2 := a2) t (done ++ [p]) (if x < p.1 then max c (p.2 + 1) else c) (some (.int ((i + 1 + done.length : Nat) : Int))) (by rw [hdt, List.append_assoc] <;> rfl) (by split <;> omega)
    refine ⟨y4, ?_⟩
    rw [List.length_append, List.length_singleton, ← Nat.add_assoc] at e
    rw [List.length_cons, List.range'_succ, List.map_cons, List.foldl_cons]
    refine (forV_c (s2 := [some (.ref N), some (.ref Lr), a2, some (.int (i : Int)), some (.int ((i + 1 + done.length : Nat) : Int))]) (M2 := lenM B Lr i (if x < p.1 then max c (p.2 + 1) else c) ((lens lt r).map (·.2))) rfl rfl ?_).trans e
    have gN := lenM_N (i := i) (c := c) (post := (lens lt r).map (·.2)) hN hne
    have gL : (lenM B Lr i c ((lens lt r).map (·.2)))[Lr]? = some (.lst (natsD (List.replicate i 1 ++ c :: (lens lt r).map (·.2)))) := set_lt hL
    have a1 := ix_l (isl_r gN) hxp
    have a2' := ix_l (isl_r gN) hx
    rw [v_rix] at a1 a2'
    have li : (List.replicate i 1 ++ c :: (lens lt r).map (·.2))[i]? = some c := by rw [List.getElem?_append_right (by rw [List.length_replicate]; exact Nat.le_refl _), List.length_replicate, Nat.sub_self] <;> rfl
    have lj : (List.replicate i 1 ++ c :: (lens lt r).map (·.2))[i + 1 + done.length]? = some p.2 := by
      rw [List.getElem?_append_right (by rw [List.length_replicate]; omega), List.length_replicate, show i + 1 + done.length - i = done.length + 1 by omega, List.getElem?_cons_succ, List.getElem?_map, hp] <;> rfl
    have b1 := natsD_at li
    have b2 := natsD_at lj
    unfold β_lengths_from_3
    by_cases hlt : x < p.1
    · rw [if_pos hlt]
      have hmx : ∀ M : Mem, maxC [.int (c : Int), .int ((p.2 : Int) + 1)] M = some (.int ((max c (p.2 + 1) : Nat) : Int), M) := fun M => by
        show some (D.int (if ((p.2 : Int) + 1) > (c : Int) then ((p.2 : Int) + 1) else (c : Int)), M) = _
        congr 3
        split <;> omega
      have hs := set_lst (k := i) (d := .int ((max c (p.2 + 1) : Nat) : Int)) gL (by rw [natsD_len, List.length_append, List.length_replicate, List.length_cons]; omega)
      have hset : (lenM B Lr i c ((lens lt r).map (·.2))).set Lr (.lst ((natsD (List.replicate i 1 ++ c :: (lens lt r).map (·.2))).set i (.int ((max c (p.2 + 1) : Nat) : Int)))) = lenM B Lr i (max c (p.2 + 1)) ((lens lt r).map (·.2)) := by
        unfold lenM natsD
        rw [List.set_set, List.map_append, List.map_append, List.set_append_right _ _ (by rw [List.length_map, List.length_map, List.length_replicate]; exact Nat.le_refl _), List.length_map, List.length_map, List.length_replicate, Nat.sub_self, List.map_append, List.map_append] <;> rfl
      rw [hset] at hs
      simp only [LD.v_lenO, LD.v_eqQi, LD.v_neQi, LD.v_mulGi, LD.q_Ins, LD.q_App, LD.okS_t, LD.v_isLst, LD.lstK_s, LD.v_app, LD.q_Rev, LD.lsK_s, LD.q_Get, LD.getKK_s, LD.v_lsL, LD.v_keyI, LD.v_keyS, Option.isSome_some, Option.isSome_none, Option.getD_some, Option.getD_none, LD.v_eqs, LD.v_nes, LD.v_isiBb, LD.q_C, LD.q_Var, LD.q_Bin, LD.q_Un, LD.q_tOf, LD.q_tCmp, LD.q_tAnd, LD.q_tOr, LD.q_tNot, LD.q_And, LD.q_Or, LD.q_Not, LD.q_If, LD.q_Nil, LD.q_Cons, LD.q_Tup, LD.q_Lst, LD.q_LstM, LD.q_Call, LD.q_Meth, LD.q_Attr, LD.q_Blt, LD.q_Comp, LD.q_iOf, LD.srcK_s, LD.v_truB, LD.v_truL, LD.v_truN, LD.v_srcL, LD.v_neg, LD.q_iRange, LD.q_Next, LD.q_Seq, LD.q_Expr, LD.q_Ret, LD.q_RetN, LD.q_SIf, LD.q_Bk, LD.q_Ct, LD.q_Asg, LD.q_Nm, LD.q_Sub, LD.q_Del, LD.q_Fld, LD.q_Dic, LD.q_For, LD.wipeD, Bool.not_true, Bool.not_false, LD.ifT, LD.le0, LD.le1, LD.le2, LD.le3, LD.le4, LD.le5, LD.le6, LD.cmpK_l, LD.nn_n, LD.nn_i, LD.nn_t, LD.nn_l, LD.nn_r, LD.nn_b, LD.nn_s, LD.nonK_n, LD.okK_o, LD.bind_k, LD.bind_b, LD.bind_e, LD.bindS_k, LD.bindS_e, LD.ofO_s, LD.getV_s, LD.truK_s, LD.blK_b, LD.refK_r, LD.insK_i, LD.lookK_s, LD.lookK_n, LD.refS_r, LD.insS_i, LD.lookS_s, LD.seq_n, LD.seq_r, LD.seq_b, LD.seq_c, LD.seq_e, LD.storeK_s, LD.memK_s, LD.endF_n, LD.endF_r, LD.endF_e, LD.pick_t, LD.pick_f, LD.finL_f, LD.finL_t, LD.v_add, LD.v_sub, LD.v_mulR, LD.v_fdiv, LD.v_mod, LD.v_int, LD.v_lt, LD.v_le, LD.v_gt, LD.v_ge, LD.v_eq, LD.v_ne, LD.v_len, LD.v_tix, LD.v_lix, LD.v_rix, LD.rixK_l, LD.rixK_d, LD.v_isN, LD.v_isnN, LD.v_isNone, LD.v_isNoneN, LD.startD, List.length_cons, List.length_nil, List.map_cons, List.map_nil, List.cons_append, List.nil_append, List.append_nil, List.getElem?_cons_zero, List.getElem?_cons_succ, List.set_cons_zero, List.set_cons_succ, List.replicate_succ, List.replicate_zero, Nat.reduceAdd, Nat.reduceSub, Nat.reduceBEq, Int.reduceLT, Int.reduceNeg, Int.reduceLE, Nat.reduceLeDiff, Nat.reduceLT, List.lookup_cons, List.lookup_nil, beq_self_eq_true, Option.map_some, Option.map_none, a1, a2', decide_eq_true hlt, gL, b1, b2, hmx, hs]
    · rw [if_neg hlt]
      simp only [LD.v_lenO, LD.v_eqQi, LD.v_neQi, LD.v_mulGi, LD.q_Ins, LD.q_App, LD.okS_t, LD.v_isLst, LD.lstK_s, LD.v_app, LD.q_Rev, LD.lsK_s, LD.q_Get, LD.getKK_s, LD.v_lsL, LD.v_keyI, LD.v_keyS, Option.isSome_some, Option.isSome_none, Option.getD_some, Option.getD_none, LD.v_eqs, LD.v_nes, LD.v_isiBb, LD.q_C, LD.q_Var, LD.q_Bin, LD.q_Un, LD.q_tOf, LD.q_tCmp, LD.q_tAnd, LD.q_tOr, LD.q_tNot, LD.q_And, LD.q_Or, LD.q_Not, LD.q_If, LD.q_Nil, LD.q_Cons, LD.q_Tup, LD.q_Lst, LD.q_LstM, LD.q_Call, LD.q_Meth, LD.q_Attr, LD.q_Blt, LD.q_Comp, LD.q_iOf, LD.srcK_s, LD.v_truB, LD.v_truL, LD.v_truN, LD.v_srcL, LD.v_neg, LD.q_iRange, LD.q_Next, LD.q_Seq, LD.q_Expr, LD.q_Ret, LD.q_RetN, LD.q_SIf, LD.q_Bk, LD.q_Ct, LD.q_Asg, LD.q_Nm, LD.q_Sub, LD.q_Del, LD.q_Fld, LD.q_Dic, LD.q_For, LD.wipeD, Bool.not_true, Bool.not_false, LD.ifT, LD.le0, LD.le1, LD.le2, LD.le3, LD.le4, LD.le5, LD.le6, LD.cmpK_l, LD.nn_n, LD.nn_i, LD.nn_t, LD.nn_l, LD.nn_r, LD.nn_b, LD.nn_s, LD.nonK_n, LD.okK_o, LD.bind_k, LD.bind_b, LD.bind_e, LD.bindS_k, LD.bindS_e, LD.ofO_s, LD.getV_s, LD.truK_s, LD.blK_b, LD.refK_r, LD.insK_i, LD.lookK_s, LD.lookK_n, LD.refS_r, LD.insS_i, LD.lookS_s, LD.seq_n, LD.seq_r, LD.seq_b, LD.seq_c, LD.seq_e, LD.storeK_s, LD.memK_s, LD.endF_n, LD.endF_r, LD.endF_e, LD.pick_t, LD.pick_f, LD.finL_f, LD.finL_t, LD.v_add, LD.v_sub, LD.v_mulR, LD.v_fdiv, LD.v_mod, LD.v_int, LD.v_lt, LD.v_le, LD.v_gt, LD.v_ge, LD.v_eq, LD.v_ne, LD.v_len, LD.v_tix, LD.v_lix, LD.v_rix, LD.rixK_l, LD.rixK_d, LD.v_isN, LD.v_isnN, LD.v_isNone, LD.v_isNoneN, LD.startD, List.length_cons, List.length_nil, List.map_cons, List.map_nil, List.cons_append, List.nil_append, List.append_nil, List.getElem?_cons_zero, List.getElem?_cons_succ, List.set_cons_zero, List.set_cons_succ, List.replicate_succ, List.replicate_zero, Nat.reduceAdd, Nat.reduceSub, Nat.reduceBEq, Int.reduceLT, Int.reduceNeg, Int.reduceLE, Nat.reduceLeDiff, Nat.reduceLT, List.lookup_cons, List.lookup_nil, beq_self_eq_true, Option.map_some, Option.map_none, a1, a2', decide_eq_false hlt]
/-- the outer loop, from the end -/
theorem outer_loop (hN : B[N]? = some (.lst (xs.map .int))) (hL : Lr < B.length) (hne : Lr ≠ N) (hlx : xs.length < 1000) {a2 : Option D} : ∀ (i : Nat) (r : List Int) (x3 x4 : Option D), xs.drop i = r → i ≤ xs.length → ∃ y3 y4, forV (fun _ => true) (gNm 3) β_lengths_from_2 ((List.range i).reverse.map fun j : Nat => D.int (j : Int)) [some (.ref N), some (.ref Lr), a2, x3, x4] (B.set Lr (.lst (natsD (List.replicate i 1 ++ (lens lt r).map (·.2))))) =
    .nx [some (.ref N), some (.ref Lr), a2, y3, y4] (B.set Lr (.lst (natsD ((lens lt xs).map (·.2)))))
  | 0, r, x3, x4, hr, _ => ⟨x3, x4, by
    rw [List.drop_zero] at hr
    subst hr
    exact forV_n rfl⟩
  | i + 1, r, x3, x4, hr, hi => by
    obtain ⟨x, hx⟩ : ∃ x, xs.drop i = x :: r := by
      cases h : xs.drop i with
      | nil =>
        have := congrArg List.length h
        rw [List.length_drop, List.length_nil] at this
        omega
      | cons x r' => exact ⟨x, by rw [← hr, ← List.tail_drop, h] <;> rfl⟩
    have hrl : r.length = xs.length - (i + 1) := by rw [← hr, List.length_drop]
    obtain ⟨z4, e1⟩ := inner_loop hN hL hne hx (a2 := a2) (lens lt r) [] 1 x4 rfl (Nat.le_refl _)
    rw [List.length_nil, Nat.add_zero, fold_ext x _ 1 (Nat.le_refl _), Nat.max_eq_right (by omega), lens_len] at e1
    obtain ⟨y3, y4, e2⟩ := outer_loop hN hL hne hlx (a2 := a2) i (x :: r) (some (.int (i : Int))) z4 hx (by omega)
    refine ⟨y3, y4, ?_⟩
    rw [List.range_succ, List.reverse_append, List.map_append]
    show forV _ _ _ (D.int (i : Int) :: ((List.range i).reverse.map fun j : Nat => D.int (j : Int))) _ _ = _
    have hrep : List.replicate (i + 1) 1 ++ (lens lt r).map (·.2) = List.replicate i 1 ++ 1 :: (lens lt r).map (·.2) := by
      rw [List.replicate_succ', List.append_assoc] <;> rfl
    rw [hrep]
    refine (forV_c (s2 := [some (.ref N), some (.ref Lr), a2, some (.int (i : Int)), z4]) (M2 := B.set Lr (.lst (natsD (List.replicate i 1 ++ (lens lt (x :: r)).map (·.2))))) rfl rfl ?_).trans e2
    have gN := lenM_N (i := i) (c := 1) (post := (lens lt r).map (·.2)) hN hne
    have gl := len_l (isl_r gN)
    have e1 : forV (fun _ => true) (gNm 4) β_lengths_from_3 ((List.range' (i + 1) r.length).map fun j : Nat => D.int (j : Int)) [some (.ref N), some (.ref Lr), a2, some (.int (i : Int)), x4] (lenM B Lr i 1 ((lens lt r).map (·.2))) = .nx [some (.ref N), some (.ref Lr), a2, some (.int (i : Int)), z4] (B.set Lr (.lst (natsD (List.replicate i 1 ++ (lens lt (x :: r)).map (·.2))))) := e1
    have hrn : ∀ M : Mem, rngK [.int ((i : Int) + 1), .int (xs.length : Int)] M = .ok ⟨(List.range' (i + 1) r.length).map fun j : Nat => D.int (j : Int), fun _ => true⟩ M := fun M => by
      show (if (mid ((i : Int) + 1) && mid (xs.length : Int)) = true then LD.R.ok (Src.mk (rangeL ((i : Int) + 1) ((xs.length : Int) - ((i : Int) + 1)).toNat 1) fun _ => true) M else _) = _
      rw [if_pos (by rw [Bool.and_eq_true]; exact ⟨mid_iff.mpr ⟨by omega, by omega⟩, mid_iff.mpr ⟨by omega, by omega⟩⟩)]
      congr 2
      unfold rangeL
      rw [show ((xs.length : Int) - ((i : Int) + 1)).toNat = r.length by omega, List.range'_eq_map_range, List.map_map]
      apply List.map_congr_left
      intro j _
      show D.int (((i : Int) + 1) + (j : Int) * 1) = D.int ((i + 1 + j : Nat) : Int)
      congr 1
      omega
    show β_lengths_from_2 [some (.ref N), some (.ref Lr), a2, some (.int (i : Int)), x4] (lenM B Lr i 1 ((lens lt r).map (·.2))) = _
    unfold β_lengths_from_2
    simp only [LD.v_lenO, LD.v_eqQi, LD.v_neQi, LD.v_mulGi, LD.q_Ins, LD.q_App, LD.okS_t, LD.v_isLst, LD.lstK_s, LD.v_app, LD.q_Rev, LD.lsK_s, LD.q_Get, LD.getKK_s, LD.v_lsL, LD.v_keyI, LD.v_keyS, Option.isSome_some, Option.isSome_none, Option.getD_some, Option.getD_none, LD.v_eqs, LD.v_nes, LD.v_isiBb, LD.q_C, LD.q_Var, LD.q_Bin, LD.q_Un, LD.q_tOf, LD.q_tCmp, LD.q_tAnd, LD.q_tOr, LD.q_tNot, LD.q_And, LD.q_Or, LD.q_Not, LD.q_If, LD.q_Nil, LD.q_Cons, LD.q_Tup, LD.q_Lst, LD.q_LstM, LD.q_Call, LD.q_Meth, LD.q_Attr, LD.q_Blt, LD.q_Comp, LD.q_iOf, LD.srcK_s, LD.v_truB, LD.v_truL, LD.v_truN, LD.v_srcL, LD.v_neg, LD.q_iRange, LD.q_Next, LD.q_Seq, LD.q_Expr, LD.q_Ret, LD.q_RetN, LD.q_SIf, LD.q_Bk, LD.q_Ct, LD.q_Asg, LD.q_Nm, LD.q_Sub, LD.q_Del, LD.q_Fld, LD.q_Dic, LD.q_For, LD.wipeD, Bool.not_true, Bool.not_false, LD.ifT, LD.le0, LD.le1, LD.le2, LD.le3, LD.le4, LD.le5, LD.le6, LD.cmpK_l, LD.nn_n, LD.nn_i, LD.nn_t, LD.nn_l, LD.nn_r, LD.nn_b, LD.nn_s, LD.nonK_n, LD.okK_o, LD.bind_k, LD.bind_b, LD.bind_e, LD.bindS_k, LD.bindS_e, LD.ofO_s, LD.getV_s, LD.truK_s, LD.blK_b, LD.refK_r, LD.insK_i, LD.lookK_s, LD.lookK_n, LD.refS_r, LD.insS_i, LD.lookS_s, LD.seq_n, LD.seq_r, LD.seq_b, LD.seq_c, LD.seq_e, LD.storeK_s, LD.memK_s, LD.endF_n, LD.endF_r, LD.endF_e, LD.pick_t, LD.pick_f, LD.finL_f, LD.finL_t, LD.v_add, LD.v_sub, LD.v_mulR, LD.v_fdiv, LD.v_mod, LD.v_int, LD.v_lt, LD.v_le, LD.v_gt, LD.v_ge, LD.v_eq, LD.v_ne, LD.v_len, LD.v_tix, LD.v_lix, LD.v_rix, LD.rixK_l, LD.rixK_d, LD.v_isN, LD.v_isnN, LD.v_isNone, LD.v_isNoneN, LD.startD, List.length_cons, List.length_nil, List.map_cons, List.map_nil, List.cons_append, List.nil_append, List.append_nil, List.getElem?_cons_zero, List.getElem?_cons_succ, List.set_cons_zero, List.set_cons_succ, List.replicate_succ, List.replicate_zero, Nat.reduceAdd, Nat.reduceSub, Nat.reduceBEq, Int.reduceLT, Int.reduceNeg, Int.reduceLE, Nat.reduceLeDiff, Nat.reduceLT, List.lookup_cons, List.lookup_nil, beq_self_eq_true, Option.map_some, Option.map_none, gl, hrn, e1]
end
theorem lengths_eq {M : Mem} {N : Nat} {xs : List Int} (hN : M[N]? = some (.lst (xs.map .int))) (hl : xs.length < 1000) : φ_lengths_from [.ref N] M = .ok (.ref M.length) (M ++ [.lst (natsD ((lens lt xs).map (·.2)))]) := by
  have hLL : (xs.map D.int).length ≤ LINE := by rw [List.length_map]; have := big; omega
  have hc := compV_map (M := M) (s := [some (.ref N), none, none, none, none]) (γ := gNm 2) (τ := tTrue) (φ := eC (.int 1)) (chk := mutChk N (xs.map D.int)) (e := fun x : Int => D.int x) (g := fun _ : Int => D.int 1) (p := fun _ => true) (eqb_mut hN) (as := xs) fun x _ => ⟨_, rfl, rfl, fun _ => rfl⟩
  rw [filt] at hc
  have h1 : xs.map (fun _ : Int => D.int 1) = natsD (List.replicate xs.length 1 ++ (lens lt []).map (·.2)) := by
    unfold natsD
    show _ = ((List.replicate xs.length 1 ++ []).map _).map _
    rw [List.append_nil, List.map_replicate, List.map_replicate, List.map_const'] <;> rfl
  rw [h1] at hc
  have hN' : (M ++ [DO.lst []])[N]? = some (.lst (xs.map .int)) := by rw [app_old (lt_of hN)]; exact hN
  obtain ⟨y3, y4, e⟩ := outer_loop (B := M ++ [.lst []]) (Lr := M.length) hN' (by rw [List.length_append]; exact Nat.lt_succ_self _) (by have := lt_of hN; omega) hl (a2 := none) xs.length [] none none (List.drop_eq_nil_of_le (Nat.le_refl _)) (Nat.le_refl _)
  have hse : ∀ o : DO, (M ++ [DO.lst []]).set M.length o = M ++ [o] := fun o => by rw [List.set_append_right _ _ (Nat.le_refl _), Nat.sub_self] <;> rfl
  rw [hse, hse] at e
  have gl := len_l (isl_r (M := M ++ [.lst (natsD (List.replicate xs.length 1 ++ (lens lt []).map (·.2)))]) (i := N) (xs := xs) (by rw [app_old (lt_of hN)]; exact hN))
  have hrev : ∀ M : Mem, (if mid (xs.length : Int) = true then LD.R.ok (Src.mk (rangeL ((0 : Int) + ((((xs.length : Int) - 0).toNat : Nat) : Int) - 1) ((xs.length : Int) - 0).toNat (-1)) fun _ => true) M else .bad) = .ok ⟨(List.range xs.length).reverse.map fun j : Nat => D.int (j : Int), fun _ => true⟩ M := fun M => by
    rw [if_pos (mid_iff.mpr ⟨by omega, by omega⟩)]
    congr 2
    unfold rangeL
    rw [show ((xs.length : Int) - 0).toNat = xs.length by omega]
    apply List.ext_getElem
    · rw [List.length_map, List.length_map, List.length_reverse]
    · intro k h1 h2
      rw [List.getElem_map, List.getElem_map, List.getElem_range, List.getElem_reverse, List.getElem_range]
      rw [List.length_map, List.length_range] at h1
      congr 1
      rw [List.length_range]
      omega
  have qrev : ∀ (φ : Sem1 D) (s : DS) (M : Mem), iRevN φ s M = bnd (φ s M) (fun x M1 => match x with
    | .int n => if mid n then .ok ⟨rangeL ((0 : Int) + (((n - 0).toNat : Nat) : Int) - 1) (n - 0).toNat (-1), fun _ => true⟩ M1 else .bad
    | _ => .bad) .mk := fun _ _ _ => rfl
  unfold φ_lengths_from
  refine run_def rfl ?_
  unfold ψ_lengths_from
  simp only [LD.v_lenO, LD.v_eqQi, LD.v_neQi, LD.v_mulGi, LD.q_Ins, LD.q_App, LD.okS_t, LD.v_isLst, LD.lstK_s, LD.v_app, LD.q_Rev, LD.lsK_s, LD.q_Get, LD.getKK_s, LD.v_lsL, LD.v_keyI, LD.v_keyS, Option.isSome_some, Option.isSome_none, Option.getD_some, Option.getD_none, LD.v_eqs, LD.v_nes, LD.v_isiBb, LD.q_C, LD.q_Var, LD.q_Bin, LD.q_Un, LD.q_tOf, LD.q_tCmp, LD.q_tAnd, LD.q_tOr, LD.q_tNot, LD.q_And, LD.q_Or, LD.q_Not, LD.q_If, LD.q_Nil, LD.q_Cons, LD.q_Tup, LD.q_Lst, LD.q_LstM, LD.q_Call, LD.q_Meth, LD.q_Attr, LD.q_Blt, LD.q_Comp, LD.q_iOf, LD.srcK_s, LD.v_truB, LD.v_truL, LD.v_truN, LD.v_srcL, LD.v_neg, LD.q_iRange, LD.q_Next, LD.q_Seq, LD.q_Expr, LD.q_Ret, LD.q_RetN, LD.q_SIf, LD.q_Bk, LD.q_Ct, LD.q_Asg, LD.q_Nm, LD.q_Sub, LD.q_Del, LD.q_Fld, LD.q_Dic, LD.q_For, LD.wipeD, Bool.not_true, Bool.not_false, LD.ifT, LD.le0, LD.le1, LD.le2, LD.le3, LD.le4, LD.le5, LD.le6, LD.cmpK_l, LD.nn_n, LD.nn_i, LD.nn_t, LD.nn_l, LD.nn_r, LD.nn_b, LD.nn_s, LD.nonK_n, LD.okK_o, LD.bind_k, LD.bind_b, LD.bind_e, LD.bindS_k, LD.bindS_e, LD.ofO_s, LD.getV_s, LD.truK_s, LD.blK_b, LD.refK_r, LD.insK_i, LD.lookK_s, LD.lookK_n, LD.refS_r, LD.insS_i, LD.lookS_s, LD.seq_n, LD.seq_r, LD.seq_b, LD.seq_c, LD.seq_e, LD.storeK_s, LD.memK_s, LD.endF_n, LD.endF_r, LD.endF_e, LD.pick_t, LD.pick_f, LD.finL_f, LD.finL_t, LD.v_add, LD.v_sub, LD.v_mulR, LD.v_fdiv, LD.v_mod, LD.v_int, LD.v_lt, LD.v_le, LD.v_gt, LD.v_ge, LD.v_eq, LD.v_ne, LD.v_len, LD.v_tix, LD.v_lix, LD.v_rix, LD.rixK_l, LD.rixK_d, LD.v_isN, LD.v_isnN, LD.v_isNone, LD.v_isNoneN, LD.startD, List.length_cons, List.length_nil, List.map_cons, List.map_nil, List.cons_append, List.nil_append, List.append_nil, List.getElem?_cons_zero, List.getElem?_cons_succ, List.set_cons_zero, List.set_cons_succ, List.replicate_succ, List.replicate_zero, Nat.reduceAdd, Nat.reduceSub, Nat.reduceBEq, Int.reduceLT, Int.reduceNeg, Int.reduceLE, Nat.reduceLeDiff, Nat.reduceLT, List.lookup_cons, List.lookup_nil, beq_self_eq_true, Option.map_some, Option.map_none, v_srcR hN, cmpK_l hLL, hc, qrev, gl, hrev, e]
end K30
namespace K30
open PySem PySem.Spec PyProof.Rows L2 LD
theorem set_end {M : Mem} {o o' : DO} : (M ++ [o]).set M.length o' = M ++ [o'] := by rw [List.set_append_right _ _ (Nat.le_refl _), Nat.sub_self] <;> rfl
theorem lens_drop (R : Int → Int → Bool) : ∀ (xs : List Int) (i : Nat), (lens R xs).drop i = lens R (xs.drop i)
  | xs, 0 => by rw [List.drop_zero, List.drop_zero]
  | [], i + 1 => rfl
  | x :: r, i + 1 => by rw [lens, List.drop_succ_cons, List.drop_succ_cons, lens_drop R r i]
theorem len_i {R : Int → Int → Bool} {xs : List Int} {i : Nat} {x : Int} {r : List Int} (h : xs.drop i = x :: r) : ((lens R xs).map (·.2))[i]? = some (len1 R x r) := by
  have e := lens_drop R xs i
  rw [h, lens] at e
  rw [List.getElem?_map, ← List.head?_drop, e] <;> rfl
theorem add_lr {M : Mem} {a : List D} {v : D} {ys : List D} (h : lsOf M v = some ys) (hl : a.length + ys.length ≤ LINE) : addD (.lst a) v M = some (.lst (a ++ ys), M) := by
  cases v with
  | ref i =>
    show (match lsOf M (.lst a), lsOf M (.ref i) with | some a, some b => if a.length + b.length ≤ LINE then some (D.lst (a ++ b), M) else none | _, _ => none) = _
    rw [h]
    exact if_pos hl
  | lst zs =>
    cases h
    exact if_pos hl
  | _ => cases h
theorem best0 (R : Int → Int → Bool) (xs : List Int) : mxL (0 :: (lens R xs).map (·.2)) = best R xs := Nat.max_eq_right (Nat.zero_le _)
/-! ### the best row -/
def rowOf (xs : List Int) (G : List Nat) : List Int := G.map fun p => xs.getD p 0
theorem isnil {M : Mem} {i : Nat} {row : List Int} (h : M[i]? = some (.lst (row.map .int))) : boD eqQ (.ref i) (.lst []) M = some (.bl row.isEmpty, M) := by
  have e : eqQ M (.ref i) (.lst []) = some row.isEmpty := by
    have e1 : lsOf M (.ref i) = some (row.map .int) := v_lsR h
    have e2 : ((tupO (.ref i)).isSome || (lsOf M (.ref i)).isSome) = true := by rw [e1] <;> rfl
    unfold eqQ
    rw [if_pos e2]
    unfold eqG
    simp only [isF, tupO, lsOf, h]
    cases row with
    | nil => rfl
    | cons a r => rfl
  unfold boD
  rw [e] <;> rfl
theorem best_loop {B : Mem} {N Lr : Nat} {xs : List Int} (hN : B[N]? = some (.lst (xs.map .int))) (hL : B[Lr]? = some (.lst (natsD ((lens lt xs).map (·.2))))) (hlx : xs.length < 1000) : ∀ (ys : List Int) (i w : Nat) (row : List Int) (x4 x5 : Option D), xs.drop i = ys → row.length ≤ i → ∃ w' y4 y5, forV (mutChk N (xs.map D.int)) (gTp [4, 5]) β_best_row_4 (enL i (ys.map .int)) [some (.ref N), some (.ref Lr), some (.int (w : Int)), some (.ref B.length), x4, x5] (B ++ [.lst (row.map .int)]) =
    .nx [some (.ref N), some (.ref Lr), some (.int w'), some (.ref B.length), y4, y5] (B ++ [.lst ((row ++ rowOf xs (pickP row.getLast? w i ys)).map .int)])
  | [], i, w, row, x4, x5, _, _ => ⟨w, x4, x5, by
    rw [pickP]
    show _ = RS.nx _ (B ++ [.lst ((row ++ []).map .int)])
    rw [List.append_nil]
    exact forV_n (eqb_mut (by rw [app_old (lt_of hN)]; exact hN))⟩
  | x :: r, i, w, row, x4, x5, hd, hrl => by
    obtain ⟨hx, hr, hi⟩ := drop_at hd
    have gN : (B ++ [DO.lst (row.map .int)])[N]? = some (.lst (xs.map .int)) := by rw [app_old (lt_of hN)]; exact hN
    have gL : (B ++ [DO.lst (row.map .int)])[Lr]? = some (.lst (natsD ((lens lt xs).map (·.2)))) := by rw [app_old (lt_of hL)]; exact hL
    have gR : (B ++ [DO.lst (row.map .int)])[B.length]? = some (.lst (row.map .int)) := app_at
    have hli := natsD_at (len_i (R := lt) hd)
    have hnil := isnil gR
    have hxv : xs.getD i 0 = x := by rw [List.getD_eq_getElem?_getD, hx] <;> rfl
    have hc : mutChk N (xs.map D.int) (B ++ [.lst (row.map .int)]) = true := eqb_mut gN
    have hL2 : (row.map D.int).length < LINE := by rw [List.length_map]; have := big; omega
    have hlast : ∀ y, row.getLast? = some y → atI (row.map D.int) (-1) = some (.int y) := fun y hy => atL (by rw [List.getLast?_map, hy] <;> rfl)
    have hcast : ((len1 lt x r : Nat) : Int) = 1 + ((extR lt x (lens lt r) : Nat) : Int) := by show (((1 + extR lt x (lens lt r)) : Nat) : Int) = _; omega
    have hem : row.isEmpty = row.getLast?.isNone := by cases row with
      | nil => rfl
      | cons a as => rw [List.getLast?_cons]; rfl
    by_cases hp : (decide (len1 lt x r = w) && okB row.getLast? x) = true
    · have e0 : pickP row.getLast? w i (x :: r) = i :: pickP (some x) (w - 1) (i + 1) r := by rw [pickP, if_pos hp]
      rw [Bool.and_eq_true] at hp
      have hw : len1 lt x r = w := of_decide_eq_true hp.1
      have hw1 : 1 ≤ w := by have : 1 + extR lt x (lens lt r) = w := hw; omega
      obtain ⟨w', y4, y5, e⟩ := best_loop hN hL hlx r (i + 1) (w - 1) (row ++ [x]) (some (.int (i : Int))) (some (.int x)) hr (by rw [List.length_append, List.length_singleton]; omega)
      refine ⟨w', y4, y5, ?_⟩
      rw [List.getLast?_append, List.getLast?_singleton, Option.some_or, List.append_assoc] at e
      rw [e0]
      have er : row ++ rowOf xs (i :: pickP (some x) (w - 1) (i + 1) r) = row ++ ([x] ++ rowOf xs (pickP (some x) (w - 1) (i + 1) r)) := by
        unfold rowOf
        rw [List.map_cons, hxv] <;> rfl
      rw [er]
      refine (forV_c (s1 := [some (.ref N), some (.ref Lr), some (.int (w : Int)), some (.ref B.length), some (.int (i : Int)), some (.int x)]) (s2 := [some (.ref N), some (.ref Lr), some (.int ((w - 1 : Nat) : Int)), some (.ref B.length), some (.int (i : Int)), some (.int x)]) (M2 := B ++ [.lst ((row ++ [x]).map .int)]) hc rfl ?_).trans e
      have hw2 : (((len1 lt x r : Nat) : Int) == (w : Int)) = true := beq_iff_eq.mpr (by rw [hw])
      have hsub : (w : Int) - 1 = ((w - 1 : Nat) : Int) := by omega
      have em : (row ++ [x]).map D.int = row.map D.int ++ [.int x] := by rw [List.map_append] <;> rfl
      rw [em]
      unfold β_best_row_4
      cases hg : row.getLast? with
      | none =>
        rw [hem, hg] at hnil
        have hnil : boD eqQ (.ref B.length) (.lst []) (B ++ [.lst (row.map .int)]) = some (.bl true, B ++ [.lst (row.map .int)]) := hnil
        simp only [LD.v_lenO, LD.v_eqQi, LD.v_neQi, LD.v_mulGi, LD.q_Ins, LD.q_App, LD.okS_t, LD.v_isLst, LD.lstK_s, LD.v_app, LD.q_Rev, LD.lsK_s, LD.q_Get, LD.getKK_s, LD.v_lsL, LD.v_keyI, LD.v_keyS, Option.isSome_some, Option.isSome_none, Option.getD_some, Option.getD_none, LD.v_eqs, LD.v_nes, LD.v_isiBb, LD.q_C, LD.q_Var, LD.q_Bin, LD.q_Un, LD.q_tOf, LD.q_tCmp, LD.q_tAnd, LD.q_tOr, LD.q_tNot, LD.q_And, LD.q_Or, LD.q_Not, LD.q_If, LD.q_Nil, LD.q_Cons, LD.q_Tup, LD.q_Lst, LD.q_LstM, LD.q_Call, LD.q_Meth, LD.q_Attr, LD.q_Blt, LD.q_Comp, LD.q_iOf, LD.srcK_s, LD.v_truB, LD.v_truL, LD.v_truN, LD.v_srcL, LD.v_neg, LD.q_iRange, LD.q_Next, LD.q_Seq, LD.q_Expr, LD.q_Ret, LD.q_RetN, LD.q_SIf, LD.q_Bk, LD.q_Ct, LD.q_Asg, LD.q_Nm, LD.q_Sub, LD.q_Del, LD.q_Fld, LD.q_Dic, LD.q_For, LD.wipeD, Bool.not_true, Bool.not_false, LD.ifT, LD.le0, LD.le1, LD.le2, LD.le3, LD.le4, LD.le5, LD.le6, LD.cmpK_l, LD.nn_n, LD.nn_i, LD.nn_t, LD.nn_l, LD.nn_r, LD.nn_b, LD.nn_s, LD.nonK_n, LD.okK_o, LD.bind_k, LD.bind_b, LD.bind_e, LD.bindS_k, LD.bindS_e, LD.ofO_s, LD.getV_s, LD.truK_s, LD.blK_b, LD.refK_r, LD.insK_i, LD.lookK_s, LD.lookK_n, LD.refS_r, LD.insS_i, LD.lookS_s, LD.seq_n, LD.seq_r, LD.seq_b, LD.seq_c, LD.seq_e, LD.storeK_s, LD.memK_s, LD.endF_n, LD.endF_r, LD.endF_e, LD.pick_t, LD.pick_f, LD.finL_f, LD.finL_t, LD.v_add, LD.v_sub, LD.v_mulR, LD.v_fdiv, LD.v_mod, LD.v_int, LD.v_lt, LD.v_le, LD.v_gt, LD.v_ge, LD.v_eq, LD.v_ne, LD.v_len, LD.v_tix, LD.v_lix, LD.v_rix, LD.rixK_l, LD.rixK_d, LD.v_isN, LD.v_isnN, LD.v_isNone, LD.v_isNoneN, LD.startD, List.length_cons, List.length_nil, List.map_cons, List.map_nil, List.cons_append, List.nil_append, List.append_nil, List.getElem?_cons_zero, List.getElem?_cons_succ, List.set_cons_zero, List.set_cons_succ, List.replicate_succ, List.replicate_zero, Nat.reduceAdd, Nat.reduceSub, Nat.reduceBEq, Int.reduceLT, Int.reduceNeg, Int.reduceLE, Nat.reduceLeDiff, Nat.reduceLT, List.lookup_cons, List.lookup_nil, beq_self_eq_true, Option.map_some, Option.map_none, gL, hli, hw2, hnil, gR, appK_s hL2, set_end, hsub]
      | some y =>
        have hok := hp.2
        rw [hg] at hok
        have hok : decide (y < x) = true := hok
        rw [hem, hg] at hnil
        have hnil : boD eqQ (.ref B.length) (.lst []) (B ++ [.lst (row.map .int)]) = some (.bl false, B ++ [.lst (row.map .int)]) := hnil
        simp only [LD.v_lenO, LD.v_eqQi, LD.v_neQi, LD.v_mulGi, LD.q_Ins, LD.q_App, LD.okS_t, LD.v_isLst, LD.lstK_s, LD.v_app, LD.q_Rev, LD.lsK_s, LD.q_Get, LD.getKK_s, LD.v_lsL, LD.v_keyI, LD.v_keyS, Option.isSome_some, Option.isSome_none, Option.getD_some, Option.getD_none, LD.v_eqs, LD.v_nes, LD.v_isiBb, LD.q_C, LD.q_Var, LD.q_Bin, LD.q_Un, LD.q_tOf, LD.q_tCmp, LD.q_tAnd, LD.q_tOr, LD.q_tNot, LD.q_And, LD.q_Or, LD.q_Not, LD.q_If, LD.q_Nil, LD.q_Cons, LD.q_Tup, LD.q_Lst, LD.q_LstM, LD.q_Call, LD.q_Meth, LD.q_Attr, LD.q_Blt, LD.q_Comp, LD.q_iOf, LD.srcK_s, LD.v_truB, LD.v_truL, LD.v_truN, LD.v_srcL, LD.v_neg, LD.q_iRange, LD.q_Next, LD.q_Seq, LD.q_Expr, LD.q_Ret, LD.q_RetN, LD.q_SIf, LD.q_Bk, LD.q_Ct, LD.q_Asg, LD.q_Nm, LD.q_Sub, LD.q_Del, LD.q_Fld, LD.q_Dic, LD.q_For, LD.wipeD, Bool.not_true, Bool.not_false, LD.ifT, LD.le0, LD.le1, LD.le2, LD.le3, LD.le4, LD.le5, LD.le6, LD.cmpK_l, LD.nn_n, LD.nn_i, LD.nn_t, LD.nn_l, LD.nn_r, LD.nn_b, LD.nn_s, LD.nonK_n, LD.okK_o, LD.bind_k, LD.bind_b, LD.bind_e, LD.bindS_k, LD.bindS_e, LD.ofO_s, LD.getV_s, LD.truK_s, LD.blK_b, LD.refK_r, LD.insK_i, LD.lookK_s, LD.lookK_n, LD.refS_r, LD.insS_i, LD.lookS_s, LD.seq_n, LD.seq_r, LD.seq_b, LD.seq_c, LD.seq_e, LD.storeK_s, LD.memK_s, LD.endF_n, LD.endF_r, LD.endF_e, LD.pick_t, LD.pick_f, LD.finL_f, LD.finL_t, LD.v_add, LD.v_sub, LD.v_mulR, LD.v_fdiv, LD.v_mod, LD.v_int, LD.v_lt, LD.v_le, LD.v_gt, LD.v_ge, LD.v_eq, LD.v_ne, LD.v_len, LD.v_tix, LD.v_lix, LD.v_rix, LD.rixK_l, LD.rixK_d, LD.v_isN, LD.v_isnN, LD.v_isNone, LD.v_isNoneN, LD.startD, List.length_cons, List.length_nil, List.map_cons, List.map_nil, List.cons_append, List.nil_append, List.append_nil, List.getElem?_cons_zero, List.getElem?_cons_succ, List.set_cons_zero, List.set_cons_succ, List.replicate_succ, List.replicate_zero, Nat.reduceAdd, Nat.reduceSub, Nat.reduceBEq, Int.reduceLT, Int.reduceNeg, Int.reduceLE, Nat.reduceLeDiff, Nat.reduceLT, List.lookup_cons, List.lookup_nil, beq_self_eq_true, Option.map_some, Option.map_none, gL, hli, hw2, hnil, gR, hlast y hg, hok, appK_s hL2, set_end, hsub]
    · have e0 : pickP row.getLast? w i (x :: r) = pickP row.getLast? w (i + 1) r := by rw [pickP, if_neg hp]
      obtain ⟨w', y4, y5, e⟩ := best_loop hN hL hlx r (i + 1) w row (some (.int (i : Int))) (some (.int x)) hr (by omega)
      refine ⟨w', y4, y5, ?_⟩
      rw [e0]
      refine (forV_c (s1 := [some (.ref N), some (.ref Lr), some (.int (w : Int)), some (.ref B.length), some (.int (i : Int)), some (.int x)]) (s2 := [some (.ref N), some (.ref Lr), some (.int (w : Int)), some (.ref B.length), some (.int (i : Int)), some (.int x)]) (M2 := B ++ [.lst (row.map .int)]) hc rfl ?_).trans e
      unfold β_best_row_4
      by_cases hw : len1 lt x r = w
      · have hw2 : (((len1 lt x r : Nat) : Int) == (w : Int)) = true := beq_iff_eq.mpr (by rw [hw])
        cases hg : row.getLast? with
        | none =>
          exact absurd (by rw [Bool.and_eq_true]; exact ⟨decide_eq_true hw, by rw [hg]; rfl⟩) hp
        | some y =>
          have hok : decide (y < x) = false := by
            cases hh : decide (y < x) with
            | false => rfl
            | true => exact absurd (by rw [Bool.and_eq_true]; exact ⟨decide_eq_true hw, by rw [hg]; exact hh⟩) hp
          rw [hem, hg] at hnil
          have hnil : boD eqQ (.ref B.length) (.lst []) (B ++ [.lst (row.map .int)]) = some (.bl false, B ++ [.lst (row.map .int)]) := hnil
          simp only [LD.v_lenO, LD.v_eqQi, LD.v_neQi, LD.v_mulGi, LD.q_Ins, LD.q_App, LD.okS_t, LD.v_isLst, LD.lstK_s, LD.v_app, LD.q_Rev, LD.lsK_s, LD.q_Get, LD.getKK_s, LD.v_lsL, LD.v_keyI, LD.v_keyS, Option.isSome_some, Option.isSome_none, Option.getD_some, Option.getD_none, LD.v_eqs, LD.v_nes, LD.v_isiBb, LD.q_C, LD.q_Var, LD.q_Bin, LD.q_Un, LD.q_tOf, LD.q_tCmp, LD.q_tAnd, LD.q_tOr, LD.q_tNot, LD.q_And, LD.q_Or, LD.q_Not, LD.q_If, LD.q_Nil, LD.q_Cons, LD.q_Tup, LD.q_Lst, LD.q_LstM, LD.q_Call, LD.q_Meth, LD.q_Attr, LD.q_Blt, LD.q_Comp, LD.q_iOf, LD.srcK_s, LD.v_truB, LD.v_truL, LD.v_truN, LD.v_srcL, LD.v_neg, LD.q_iRange, LD.q_Next, LD.q_Seq, LD.q_Expr, LD.q_Ret, LD.q_RetN, LD.q_SIf, LD.q_Bk, LD.q_Ct, LD.q_Asg, LD.q_Nm, LD.q_Sub, LD.q_Del, LD.q_Fld, LD.q_Dic, LD.q_For, LD.wipeD, Bool.not_true, Bool.not_false, LD.ifT, LD.le0, LD.le1, LD.le2, LD.le3, LD.le4, LD.le5, LD.le6, LD.cmpK_l, LD.nn_n, LD.nn_i, LD.nn_t, LD.nn_l, LD.nn_r, LD.nn_b, LD.nn_s, LD.nonK_n, LD.okK_o, LD.bind_k, LD.bind_b, LD.bind_e, LD.bindS_k, LD.bindS_e, LD.ofO_s, LD.getV_s, LD.truK_s, LD.blK_b, LD.refK_r, LD.insK_i, LD.lookK_s, LD.lookK_n, LD.refS_r, LD.insS_i, LD.lookS_s, LD.seq_n, LD.seq_r, LD.seq_b, LD.seq_c, LD.seq_e, LD.storeK_s, LD.memK_s, LD.endF_n, LD.endF_r, LD.endF_e, LD.pick_t, LD.pick_f, LD.finL_f, LD.finL_t, LD.v_add, LD.v_sub, LD.v_mulR, LD.v_fdiv, LD.v_mod, LD.v_int, LD.v_lt, LD.v_le, LD.v_gt, LD.v_ge, LD.v_eq, LD.v_ne, LD.v_len, LD.v_tix, LD.v_lix, LD.v_rix, LD.rixK_l, LD.rixK_d, LD.v_isN, LD.v_isnN, LD.v_isNone, LD.v_isNoneN, LD.startD, List.length_cons, List.length_nil, List.map_cons, List.map_nil, List.cons_append, List.nil_append, List.append_nil, List.getElem?_cons_zero, List.getElem?_cons_succ, List.set_cons_zero, List.set_cons_succ, List.replicate_succ, List.replicate_zero, Nat.reduceAdd, Nat.reduceSub, Nat.reduceBEq, Int.reduceLT, Int.reduceNeg, Int.reduceLE, Nat.reduceLeDiff, Nat.reduceLT, List.lookup_cons, List.lookup_nil, beq_self_eq_true, Option.map_some, Option.map_none, gL, hli, hw2, hnil, gR, hlast y hg, hok]
      · have hw2 : (((len1 lt x r : Nat) : Int) == (w : Int)) = false := beq_eq_false_iff_ne.mpr (fun z => hw (Int.ofNat.inj z))
        simp only [LD.v_lenO, LD.v_eqQi, LD.v_neQi, LD.v_mulGi, LD.q_Ins, LD.q_App, LD.okS_t, LD.v_isLst, LD.lstK_s, LD.v_app, LD.q_Rev, LD.lsK_s, LD.q_Get, LD.getKK_s, LD.v_lsL, LD.v_keyI, LD.v_keyS, Option.isSome_some, Option.isSome_none, Option.getD_some, Option.getD_none, LD.v_eqs, LD.v_nes, LD.v_isiBb, LD.q_C, LD.q_Var, LD.q_Bin, LD.q_Un, LD.q_tOf, LD.q_tCmp, LD.q_tAnd, LD.q_tOr, LD.q_tNot, LD.q_And, LD.q_Or, LD.q_Not, LD.q_If, LD.q_Nil, LD.q_Cons, LD.q_Tup, LD.q_Lst, LD.q_LstM, LD.q_Call, LD.q_Meth, LD.q_Attr, LD.q_Blt, LD.q_Comp, LD.q_iOf, LD.srcK_s, LD.v_truB, LD.v_truL, LD.v_truN, LD.v_srcL, LD.v_neg, LD.q_iRange, LD.q_Next, LD.q_Seq, LD.q_Expr, LD.q_Ret, LD.q_RetN, LD.q_SIf, LD.q_Bk, LD.q_Ct, LD.q_Asg, LD.q_Nm, LD.q_Sub, LD.q_Del, LD.q_Fld, LD.q_Dic, LD.q_For, LD.wipeD, Bool.not_true, Bool.not_false, LD.ifT, LD.le0, LD.le1, LD.le2, LD.le3, LD.le4, LD.le5, LD.le6, LD.cmpK_l, LD.nn_n, LD.nn_i, LD.nn_t, LD.nn_l, LD.nn_r, LD.nn_b, LD.nn_s, LD.nonK_n, LD.okK_o, LD.bind_k, LD.bind_b, LD.bind_e, LD.bindS_k, LD.bindS_e, LD.ofO_s, LD.getV_s, LD.truK_s, LD.blK_b, LD.refK_r, LD.insK_i, LD.lookK_s, LD.lookK_n, LD.refS_r, LD.insS_i, LD.lookS_s, LD.seq_n, LD.seq_r, LD.seq_b, LD.seq_c, LD.seq_e, LD.storeK_s, LD.memK_s, LD.endF_n, LD.endF_r, LD.endF_e, LD.pick_t, LD.pick_f, LD.finL_f, LD.finL_t, LD.v_add, LD.v_sub, LD.v_mulR, LD.v_fdiv, LD.v_mod, LD.v_int, LD.v_lt, LD.v_le, LD.v_gt, LD.v_ge, LD.v_eq, LD.v_ne, LD.v_len, LD.v_tix, LD.v_lix, LD.v_rix, LD.rixK_l, LD.rixK_d, LD.v_isN, LD.v_isnN, LD.v_isNone, LD.v_isNoneN, LD.startD, List.length_cons, List.length_nil, List.map_cons, List.map_nil, List.cons_append, List.nil_append, List.append_nil, List.getElem?_cons_zero, List.getElem?_cons_succ, List.set_cons_zero, List.set_cons_succ, List.replicate_succ, List.replicate_zero, Nat.reduceAdd, Nat.reduceSub, Nat.reduceBEq, Int.reduceLT, Int.reduceNeg, Int.reduceLE, Nat.reduceLeDiff, Nat.reduceLT, List.lookup_cons, List.lookup_nil, beq_self_eq_true, Option.map_some, Option.map_none, gL, hli, hw2]
def places (xs : List Int) : List Nat := pickP none (best lt xs) 0 xs
theorem bestrow_eq {M : Mem} {N : Nat} {xs : List Int} (hN : M[N]? = some (.lst (xs.map .int))) (hl : xs.length < 1000) : φ_best_row [.ref N] M = .ok (.ref (M.length + 1)) (M ++ [.lst (natsD ((lens lt xs).map (·.2)))] ++ [.lst ((rowOf xs (places xs)).map .int)]) := by
  have hb := big
  have e1 := lengths_eq hN hl
  have hL1 : (M ++ [DO.lst (natsD ((lens lt xs).map (·.2)))])[M.length]? = some (.lst (natsD ((lens lt xs).map (·.2)))) := app_at
  have ha := add_lr (a := [.int 0]) (v_lsR hL1) (by rw [natsD_len, List.length_map, lens_len]; show 1 + _ ≤ _; omega)
  have hm : ∀ M : Mem, maxC [.lst (.int 0 :: natsD ((lens lt xs).map (·.2)))] M = some (.int ((best lt xs : Nat) : Int), M) := fun M => by
    have := max_l (M := M) (l := 0 :: (lens lt xs).map (·.2)) (fun z => nomatch z)
    rw [best0] at this
    exact this
  have ln : (M ++ [DO.lst (natsD ((lens lt xs).map (·.2)))]).length = M.length + 1 := by rw [List.length_append] <;> rfl
  obtain ⟨w', y4, y5, e2⟩ := best_loop (B := M ++ [.lst (natsD ((lens lt xs).map (·.2)))]) (N := N) (Lr := M.length) (by rw [app_old (lt_of hN)]; exact hN) hL1 hl xs 0 (best lt xs) [] none none (List.drop_zero) (Nat.zero_le _)
  rw [ln, List.nil_append] at e2
  have e2 : forV (mutChk N (xs.map D.int)) (gTp [4, 5]) β_best_row_4 (enL 0 (xs.map .int)) [some (.ref N), some (.ref M.length), some (.int ((best lt xs : Nat) : Int)), some (.ref (M.length + 1)), none, none] (M ++ [.lst (natsD ((lens lt xs).map (·.2)))] ++ [.lst []]) = .nx [some (.ref N), some (.ref M.length), some (.int w'), some (.ref (M.length + 1)), y4, y5] (M ++ [.lst (natsD ((lens lt xs).map (·.2)))] ++ [.lst ((rowOf xs (places xs)).map .int)]) := e2
  have qen : ∀ (α : Sem1 (List D)) (s : DS) (M : Mem), iEnN α s M = bnd (α s M) (fun xs M1 => match xs with
    | [.lst ys] => .ok ⟨enL 0 ys, fun _ => true⟩ M1
    | [.ref i] => match M1[i]? with
      | some (.lst ys) => .ok ⟨enL 0 ys, mutChk i ys⟩ M1
      | _ => .bad
    | _ => .bad) .mk := fun _ _ _ => rfl
  have gN : (M ++ [DO.lst (natsD ((lens lt xs).map (·.2)))] ++ [DO.lst []])[N]? = some (.lst (xs.map .int)) := by rw [List.append_assoc, app_old (lt_of hN)]; exact hN
  unfold φ_best_row
  refine run_def rfl ?_
  unfold ψ_best_row
  simp only [LD.v_lenO, LD.v_eqQi, LD.v_neQi, LD.v_mulGi, LD.q_Ins, LD.q_App, LD.okS_t, LD.v_isLst, LD.lstK_s, LD.v_app, LD.q_Rev, LD.lsK_s, LD.q_Get, LD.getKK_s, LD.v_lsL, LD.v_keyI, LD.v_keyS, Option.isSome_some, Option.isSome_none, Option.getD_some, Option.getD_none, LD.v_eqs, LD.v_nes, LD.v_isiBb, LD.q_C, LD.q_Var, LD.q_Bin, LD.q_Un, LD.q_tOf, LD.q_tCmp, LD.q_tAnd, LD.q_tOr, LD.q_tNot, LD.q_And, LD.q_Or, LD.q_Not, LD.q_If, LD.q_Nil, LD.q_Cons, LD.q_Tup, LD.q_Lst, LD.q_LstM, LD.q_Call, LD.q_Meth, LD.q_Attr, LD.q_Blt, LD.q_Comp, LD.q_iOf, LD.srcK_s, LD.v_truB, LD.v_truL, LD.v_truN, LD.v_srcL, LD.v_neg, LD.q_iRange, LD.q_Next, LD.q_Seq, LD.q_Expr, LD.q_Ret, LD.q_RetN, LD.q_SIf, LD.q_Bk, LD.q_Ct, LD.q_Asg, LD.q_Nm, LD.q_Sub, LD.q_Del, LD.q_Fld, LD.q_Dic, LD.q_For, LD.wipeD, Bool.not_true, Bool.not_false, LD.ifT, LD.le0, LD.le1, LD.le2, LD.le3, LD.le4, LD.le5, LD.le6, LD.cmpK_l, LD.nn_n, LD.nn_i, LD.nn_t, LD.nn_l, LD.nn_r, LD.nn_b, LD.nn_s, LD.nonK_n, LD.okK_o, LD.bind_k, LD.bind_b, LD.bind_e, LD.bindS_k, LD.bindS_e, LD.ofO_s, LD.getV_s, LD.truK_s, LD.blK_b, LD.refK_r, LD.insK_i, LD.lookK_s, LD.lookK_n, LD.refS_r, LD.insS_i, LD.lookS_s, LD.seq_n, LD.seq_r, LD.seq_b, LD.seq_c, LD.seq_e, LD.storeK_s, LD.memK_s, LD.endF_n, LD.endF_r, LD.endF_e, LD.pick_t, LD.pick_f, LD.finL_f, LD.finL_t, LD.v_add, LD.v_sub, LD.v_mulR, LD.v_fdiv, LD.v_mod, LD.v_int, LD.v_lt, LD.v_le, LD.v_gt, LD.v_ge, LD.v_eq, LD.v_ne, LD.v_len, LD.v_tix, LD.v_lix, LD.v_rix, LD.rixK_l, LD.rixK_d, LD.v_isN, LD.v_isnN, LD.v_isNone, LD.v_isNoneN, LD.startD, List.length_cons, List.length_nil, List.map_cons, List.map_nil, List.cons_append, List.nil_append, List.append_nil, List.getElem?_cons_zero, List.getElem?_cons_succ, List.set_cons_zero, List.set_cons_succ, List.replicate_succ, List.replicate_zero, Nat.reduceAdd, Nat.reduceSub, Nat.reduceBEq, Int.reduceLT, Int.reduceNeg, Int.reduceLE, Nat.reduceLeDiff, Nat.reduceLT, List.lookup_cons, List.lookup_nil, beq_self_eq_true, Option.map_some, Option.map_none, e1, ha, hm, ln, qen, gN, e2]
/-! ### rows that rise -/
def risB : List Int → Bool
  | x :: y :: t => decide (x < y) && risB (y :: t)
  | _ => true
theorem ris_iff : ∀ xs : List Int, risB xs = true ↔ xs.Pairwise (· < ·)
  | [] => by simp [risB]
  | [x] => by simp [risB]
  | x :: y :: t => by
    have ih := ris_iff (y :: t)
    rw [risB, Bool.and_eq_true, decide_eq_true_eq, ih]
    constructor
    · rintro ⟨h1, h2⟩
      refine List.pairwise_cons.mpr ⟨fun z hz => ?_, h2⟩
      rcases List.mem_cons.mp hz with rfl | hz
      · exact h1
      · have := (List.pairwise_cons.mp h2).1 z hz
        omega
    · intro h
      obtain ⟨h1, h2⟩ := List.pairwise_cons.mp h
      exact ⟨h1 y List.mem_cons_self, h2⟩
theorem ris_loop {M : Mem} {v : D} {xs : List Int} (hv : IsL M v xs) : ∀ (d k : Nat) (x1 : Option D), k + d + 1 = xs.length → (risB (xs.drop k) = true ∧ ∃ y1, forV (fun _ => true) (gNm 1) β__law_rises_1 ((List.range' k d).map fun j : Nat => D.int (j : Int)) [some v, x1] M = .nx [some v, y1] M) ∨ (risB (xs.drop k) = false ∧ forV (fun _ => true) (gNm 1) β__law_rises_1 ((List.range' k d).map fun j : Nat => D.int (j : Int)) [some v, x1] M = .rt (.bl false) M)
  | 0, k, x1, hk => by
    refine .inl ⟨?_, x1, forV_n rfl⟩
    cases h : xs.drop k with
    | nil => rfl
    | cons x r =>
      have := congrArg List.length h
      rw [List.length_drop, List.length_cons] at this
      have : r = [] := List.length_eq_zero_iff.mp (by omega)
      rw [this] <;> rfl
  | d + 1, k, x1, hk => by
    obtain ⟨x, y, t, h⟩ : ∃ x y t, xs.drop k = x :: y :: t := by
      cases h : xs.drop k with
      | nil => have := congrArg List.length h; rw [List.length_drop, List.length_nil] at this; omega
      | cons x r =>
        cases r with
        | nil => have := congrArg List.length h; rw [List.length_drop, List.length_singleton] at this; omega
        | cons y t => exact ⟨x, y, t, rfl⟩
    obtain ⟨hx, hr, _⟩ := drop_at h
    obtain ⟨hy, _, _⟩ := drop_at hr
    have a1 := ix_l hv hx
    have a2 := ix_l hv hy
    have ek : (k : Int) + 1 = ((k + 1 : Nat) : Int) := by omega
    rw [h, risB, List.range'_succ, List.map_cons, ← hr]
    by_cases hxy : x < y
    · rw [decide_eq_true hxy, Bool.true_and]
      have st : β__law_rises_1 [some v, some (.int (k : Int))] M = .nx [some v, some (.int (k : Int))] M := by
        unfold β__law_rises_1
        simp only [LD.v_lenO, LD.v_eqQi, LD.v_neQi, LD.v_mulGi, LD.q_Ins, LD.q_App, LD.okS_t, LD.v_isLst, LD.lstK_s, LD.v_app, LD.q_Rev, LD.lsK_s, LD.q_Get, LD.getKK_s, LD.v_lsL, LD.v_keyI, LD.v_keyS, Option.isSome_some, Option.isSome_none, Option.getD_some, Option.getD_none, LD.v_eqs, LD.v_nes, LD.v_isiBb, LD.q_C, LD.q_Var, LD.q_Bin, LD.q_Un, LD.q_tOf, LD.q_tCmp, LD.q_tAnd, LD.q_tOr, LD.q_tNot, LD.q_And, LD.q_Or, LD.q_Not, LD.q_If, LD.q_Nil, LD.q_Cons, LD.q_Tup, LD.q_Lst, LD.q_LstM, LD.q_Call, LD.q_Meth, LD.q_Attr, LD.q_Blt, LD.q_Comp, LD.q_iOf, LD.srcK_s, LD.v_truB, LD.v_truL, LD.v_truN, LD.v_srcL, LD.v_neg, LD.q_iRange, LD.q_Next, LD.q_Seq, LD.q_Expr, LD.q_Ret, LD.q_RetN, LD.q_SIf, LD.q_Bk, LD.q_Ct, LD.q_Asg, LD.q_Nm, LD.q_Sub, LD.q_Del, LD.q_Fld, LD.q_Dic, LD.q_For, LD.wipeD, Bool.not_true, Bool.not_false, LD.ifT, LD.le0, LD.le1, LD.le2, LD.le3, LD.le4, LD.le5, LD.le6, LD.cmpK_l, LD.nn_n, LD.nn_i, LD.nn_t, LD.nn_l, LD.nn_r, LD.nn_b, LD.nn_s, LD.nonK_n, LD.okK_o, LD.bind_k, LD.bind_b, LD.bind_e, LD.bindS_k, LD.bindS_e, LD.ofO_s, LD.getV_s, LD.truK_s, LD.blK_b, LD.refK_r, LD.insK_i, LD.lookK_s, LD.lookK_n, LD.refS_r, LD.insS_i, LD.lookS_s, LD.seq_n, LD.seq_r, LD.seq_b, LD.seq_c, LD.seq_e, LD.storeK_s, LD.memK_s, LD.endF_n, LD.endF_r, LD.endF_e, LD.pick_t, LD.pick_f, LD.finL_f, LD.finL_t, LD.v_add, LD.v_sub, LD.v_mulR, LD.v_fdiv, LD.v_mod, LD.v_int, LD.v_lt, LD.v_le, LD.v_gt, LD.v_ge, LD.v_eq, LD.v_ne, LD.v_len, LD.v_tix, LD.v_lix, LD.v_rix, LD.rixK_l, LD.rixK_d, LD.v_isN, LD.v_isnN, LD.v_isNone, LD.v_isNoneN, LD.startD, List.length_cons, List.length_nil, List.map_cons, List.map_nil, List.cons_append, List.nil_append, List.append_nil, List.getElem?_cons_zero, List.getElem?_cons_succ, List.set_cons_zero, List.set_cons_succ, List.replicate_succ, List.replicate_zero, Nat.reduceAdd, Nat.reduceSub, Nat.reduceBEq, Int.reduceLT, Int.reduceNeg, Int.reduceLE, Nat.reduceLeDiff, Nat.reduceLT, List.lookup_cons, List.lookup_nil, beq_self_eq_true, Option.map_some, Option.map_none, a1, ek, a2, decide_eq_false (show ¬ y ≤ x by omega)]
      rcases ris_loop hv d (k + 1) (some (.int (k : Int))) (by omega) with ⟨g1, y1, g2⟩ | ⟨g1, g2⟩
      · exact .inl ⟨g1, y1, (forV_c rfl rfl st).trans g2⟩
      · exact .inr ⟨g1, (forV_c rfl rfl st).trans g2⟩
    · rw [decide_eq_false hxy, Bool.false_and]
      refine .inr ⟨rfl, forV_r rfl rfl ?_⟩
      unfold β__law_rises_1
      simp only [LD.v_lenO, LD.v_eqQi, LD.v_neQi, LD.v_mulGi, LD.q_Ins, LD.q_App, LD.okS_t, LD.v_isLst, LD.lstK_s, LD.v_app, LD.q_Rev, LD.lsK_s, LD.q_Get, LD.getKK_s, LD.v_lsL, LD.v_keyI, LD.v_keyS, Option.isSome_some, Option.isSome_none, Option.getD_some, Option.getD_none, LD.v_eqs, LD.v_nes, LD.v_isiBb, LD.q_C, LD.q_Var, LD.q_Bin, LD.q_Un, LD.q_tOf, LD.q_tCmp, LD.q_tAnd, LD.q_tOr, LD.q_tNot, LD.q_And, LD.q_Or, LD.q_Not, LD.q_If, LD.q_Nil, LD.q_Cons, LD.q_Tup, LD.q_Lst, LD.q_LstM, LD.q_Call, LD.q_Meth, LD.q_Attr, LD.q_Blt, LD.q_Comp, LD.q_iOf, LD.srcK_s, LD.v_truB, LD.v_truL, LD.v_truN, LD.v_srcL, LD.v_neg, LD.q_iRange, LD.q_Next, LD.q_Seq, LD.q_Expr, LD.q_Ret, LD.q_RetN, LD.q_SIf, LD.q_Bk, LD.q_Ct, LD.q_Asg, LD.q_Nm, LD.q_Sub, LD.q_Del, LD.q_Fld, LD.q_Dic, LD.q_For, LD.wipeD, Bool.not_true, Bool.not_false, LD.ifT, LD.le0, LD.le1, LD.le2, LD.le3, LD.le4, LD.le5, LD.le6, LD.cmpK_l, LD.nn_n, LD.nn_i, LD.nn_t, LD.nn_l, LD.nn_r, LD.nn_b, LD.nn_s, LD.nonK_n, LD.okK_o, LD.bind_k, LD.bind_b, LD.bind_e, LD.bindS_k, LD.bindS_e, LD.ofO_s, LD.getV_s, LD.truK_s, LD.blK_b, LD.refK_r, LD.insK_i, LD.lookK_s, LD.lookK_n, LD.refS_r, LD.insS_i, LD.lookS_s, LD.seq_n, LD.seq_r, LD.seq_b, LD.seq_c, LD.seq_e, LD.storeK_s, LD.memK_s, LD.endF_n, LD.endF_r, LD.endF_e, LD.pick_t, LD.pick_f, LD.finL_f, LD.finL_t, LD.v_add, LD.v_sub, LD.v_mulR, LD.v_fdiv, LD.v_mod, LD.v_int, LD.v_lt, LD.v_le, LD.v_gt, LD.v_ge, LD.v_eq, LD.v_ne, LD.v_len, LD.v_tix, LD.v_lix, LD.v_rix, LD.rixK_l, LD.rixK_d, LD.v_isN, LD.v_isnN, LD.v_isNone, LD.v_isNoneN, LD.startD, List.length_cons, List.length_nil, List.map_cons, List.map_nil, List.cons_append, List.nil_append, List.append_nil, List.getElem?_cons_zero, List.getElem?_cons_succ, List.set_cons_zero, List.set_cons_succ, List.replicate_succ, List.replicate_zero, Nat.reduceAdd, Nat.reduceSub, Nat.reduceBEq, Int.reduceLT, Int.reduceNeg, Int.reduceLE, Nat.reduceLeDiff, Nat.reduceLT, List.lookup_cons, List.lookup_nil, beq_self_eq_true, Option.map_some, Option.map_none, a1, ek, a2, decide_eq_true (show y ≤ x by omega)]
theorem rises_eq {M : Mem} {v : D} {xs : List Int} (hv : IsL M v xs) (hl : xs.length < 100000) : φ__law_rises [v] M = .ok (.bl (risB xs)) M := by
  have gl := len_l hv
  unfold φ__law_rises
  refine run_def rfl ?_
  unfold ψ__law_rises
  cases hx : xs with
  | nil =>
    rw [hx] at gl
    have gl : lenC [v] M = some (.int 0, M) := gl
    have hr : ∀ M : Mem, rngK [.int (0 - 1)] M = .ok ⟨[], fun _ => true⟩ M := fun _ => rfl
    have hf : forV (fun _ => true) (gNm 1) β__law_rises_1 [] [some v, none] M = .nx [some v, none] M := forV_n rfl
    have hr : ∀ M : Mem, rngK [.int (-1)] M = .ok ⟨[], fun _ => true⟩ M := fun _ => rfl
    have hs : ∀ M : Mem, subD (.int 0) (.int 1) M = some (.int (-1), M) := fun _ => rfl
    simp only [LD.v_lenO, LD.v_eqQi, LD.v_neQi, LD.v_mulGi, LD.q_Ins, LD.q_App, LD.okS_t, LD.v_isLst, LD.lstK_s, LD.v_app, LD.q_Rev, LD.lsK_s, LD.q_Get, LD.getKK_s, LD.v_lsL, LD.v_keyI, LD.v_keyS, Option.isSome_some, Option.isSome_none, Option.getD_some, Option.getD_none, LD.v_eqs, LD.v_nes, LD.v_isiBb, LD.q_C, LD.q_Var, LD.q_Bin, LD.q_Un, LD.q_tOf, LD.q_tCmp, LD.q_tAnd, LD.q_tOr, LD.q_tNot, LD.q_And, LD.q_Or, LD.q_Not, LD.q_If, LD.q_Nil, LD.q_Cons, LD.q_Tup, LD.q_Lst, LD.q_LstM, LD.q_Call, LD.q_Meth, LD.q_Attr, LD.q_Blt, LD.q_Comp, LD.q_iOf, LD.srcK_s, LD.v_truB, LD.v_truL, LD.v_truN, LD.v_srcL, LD.v_neg, LD.q_iRange, LD.q_Next, LD.q_Seq, LD.q_Expr, LD.q_Ret, LD.q_RetN, LD.q_SIf, LD.q_Bk, LD.q_Ct, LD.q_Asg, LD.q_Nm, LD.q_Sub, LD.q_Del, LD.q_Fld, LD.q_Dic, LD.q_For, LD.wipeD, Bool.not_true, Bool.not_false, LD.ifT, LD.le0, LD.le1, LD.le2, LD.le3, LD.le4, LD.le5, LD.le6, LD.cmpK_l, LD.nn_n, LD.nn_i, LD.nn_t, LD.nn_l, LD.nn_r, LD.nn_b, LD.nn_s, LD.nonK_n, LD.okK_o, LD.bind_k, LD.bind_b, LD.bind_e, LD.bindS_k, LD.bindS_e, LD.ofO_s, LD.getV_s, LD.truK_s, LD.blK_b, LD.refK_r, LD.insK_i, LD.lookK_s, LD.lookK_n, LD.refS_r, LD.insS_i, LD.lookS_s, LD.seq_n, LD.seq_r, LD.seq_b, LD.seq_c, LD.seq_e, LD.storeK_s, LD.memK_s, LD.endF_n, LD.endF_r, LD.endF_e, LD.pick_t, LD.pick_f, LD.finL_f, LD.finL_t, LD.v_add, LD.v_sub, LD.v_mulR, LD.v_fdiv, LD.v_mod, LD.v_int, LD.v_lt, LD.v_le, LD.v_gt, LD.v_ge, LD.v_eq, LD.v_ne, LD.v_len, LD.v_tix, LD.v_lix, LD.v_rix, LD.rixK_l, LD.rixK_d, LD.v_isN, LD.v_isnN, LD.v_isNone, LD.v_isNoneN, LD.startD, List.length_cons, List.length_nil, List.map_cons, List.map_nil, List.cons_append, List.nil_append, List.append_nil, List.getElem?_cons_zero, List.getElem?_cons_succ, List.set_cons_zero, List.set_cons_succ, List.replicate_succ, List.replicate_zero, Nat.reduceAdd, Nat.reduceSub, Nat.reduceBEq, Int.reduceLT, Int.reduceNeg, Int.reduceLE, Nat.reduceLeDiff, Nat.reduceLT, List.lookup_cons, List.lookup_nil, beq_self_eq_true, Option.map_some, Option.map_none, gl, hs, hr, hf]
    rfl
  | cons a r =>
    have hln : xs.length = r.length + 1 := by rw [hx, List.length_cons]
    have hs : (xs.length : Int) - 1 = (r.length : Int) := by omega
    have hrn : ∀ M : Mem, rngK [.int (r.length : Int)] M = .ok ⟨(List.range' 0 r.length).map fun j : Nat => D.int (j : Int), fun _ => true⟩ M := fun M => by
      rw [rngN (by omega) (by omega), Int.toNat_natCast, rng']
    rcases ris_loop hv r.length 0 none (by omega) with ⟨g1, y1, g2⟩ | ⟨g1, g2⟩
    · rw [List.drop_zero, hx] at g1
      rw [g1]
      simp only [LD.v_lenO, LD.v_eqQi, LD.v_neQi, LD.v_mulGi, LD.q_Ins, LD.q_App, LD.okS_t, LD.v_isLst, LD.lstK_s, LD.v_app, LD.q_Rev, LD.lsK_s, LD.q_Get, LD.getKK_s, LD.v_lsL, LD.v_keyI, LD.v_keyS, Option.isSome_some, Option.isSome_none, Option.getD_some, Option.getD_none, LD.v_eqs, LD.v_nes, LD.v_isiBb, LD.q_C, LD.q_Var, LD.q_Bin, LD.q_Un, LD.q_tOf, LD.q_tCmp, LD.q_tAnd, LD.q_tOr, LD.q_tNot, LD.q_And, LD.q_Or, LD.q_Not, LD.q_If, LD.q_Nil, LD.q_Cons, LD.q_Tup, LD.q_Lst, LD.q_LstM, LD.q_Call, LD.q_Meth, LD.q_Attr, LD.q_Blt, LD.q_Comp, LD.q_iOf, LD.srcK_s, LD.v_truB, LD.v_truL, LD.v_truN, LD.v_srcL, LD.v_neg, LD.q_iRange, LD.q_Next, LD.q_Seq, LD.q_Expr, LD.q_Ret, LD.q_RetN, LD.q_SIf, LD.q_Bk, LD.q_Ct, LD.q_Asg, LD.q_Nm, LD.q_Sub, LD.q_Del, LD.q_Fld, LD.q_Dic, LD.q_For, LD.wipeD, Bool.not_true, Bool.not_false, LD.ifT, LD.le0, LD.le1, LD.le2, LD.le3, LD.le4, LD.le5, LD.le6, LD.cmpK_l, LD.nn_n, LD.nn_i, LD.nn_t, LD.nn_l, LD.nn_r, LD.nn_b, LD.nn_s, LD.nonK_n, LD.okK_o, LD.bind_k, LD.bind_b, LD.bind_e, LD.bindS_k, LD.bindS_e, LD.ofO_s, LD.getV_s, LD.truK_s, LD.blK_b, LD.refK_r, LD.insK_i, LD.lookK_s, LD.lookK_n, LD.refS_r, LD.insS_i, LD.lookS_s, LD.seq_n, LD.seq_r, LD.seq_b, LD.seq_c, LD.seq_e, LD.storeK_s, LD.memK_s, LD.endF_n, LD.endF_r, LD.endF_e, LD.pick_t, LD.pick_f, LD.finL_f, LD.finL_t, LD.v_add, LD.v_sub, LD.v_mulR, LD.v_fdiv, LD.v_mod, LD.v_int, LD.v_lt, LD.v_le, LD.v_gt, LD.v_ge, LD.v_eq, LD.v_ne, LD.v_len, LD.v_tix, LD.v_lix, LD.v_rix, LD.rixK_l, LD.rixK_d, LD.v_isN, LD.v_isnN, LD.v_isNone, LD.v_isNoneN, LD.startD, List.length_cons, List.length_nil, List.map_cons, List.map_nil, List.cons_append, List.nil_append, List.append_nil, List.getElem?_cons_zero, List.getElem?_cons_succ, List.set_cons_zero, List.set_cons_succ, List.replicate_succ, List.replicate_zero, Nat.reduceAdd, Nat.reduceSub, Nat.reduceBEq, Int.reduceLT, Int.reduceNeg, Int.reduceLE, Nat.reduceLeDiff, Nat.reduceLT, List.lookup_cons, List.lookup_nil, beq_self_eq_true, Option.map_some, Option.map_none, gl, hs, hrn, g2]
    · rw [List.drop_zero, hx] at g1
      rw [g1]
      simp only [LD.v_lenO, LD.v_eqQi, LD.v_neQi, LD.v_mulGi, LD.q_Ins, LD.q_App, LD.okS_t, LD.v_isLst, LD.lstK_s, LD.v_app, LD.q_Rev, LD.lsK_s, LD.q_Get, LD.getKK_s, LD.v_lsL, LD.v_keyI, LD.v_keyS, Option.isSome_some, Option.isSome_none, Option.getD_some, Option.getD_none, LD.v_eqs, LD.v_nes, LD.v_isiBb, LD.q_C, LD.q_Var, LD.q_Bin, LD.q_Un, LD.q_tOf, LD.q_tCmp, LD.q_tAnd, LD.q_tOr, LD.q_tNot, LD.q_And, LD.q_Or, LD.q_Not, LD.q_If, LD.q_Nil, LD.q_Cons, LD.q_Tup, LD.q_Lst, LD.q_LstM, LD.q_Call, LD.q_Meth, LD.q_Attr, LD.q_Blt, LD.q_Comp, LD.q_iOf, LD.srcK_s, LD.v_truB, LD.v_truL, LD.v_truN, LD.v_srcL, LD.v_neg, LD.q_iRange, LD.q_Next, LD.q_Seq, LD.q_Expr, LD.q_Ret, LD.q_RetN, LD.q_SIf, LD.q_Bk, LD.q_Ct, LD.q_Asg, LD.q_Nm, LD.q_Sub, LD.q_Del, LD.q_Fld, LD.q_Dic, LD.q_For, LD.wipeD, Bool.not_true, Bool.not_false, LD.ifT, LD.le0, LD.le1, LD.le2, LD.le3, LD.le4, LD.le5, LD.le6, LD.cmpK_l, LD.nn_n, LD.nn_i, LD.nn_t, LD.nn_l, LD.nn_r, LD.nn_b, LD.nn_s, LD.nonK_n, LD.okK_o, LD.bind_k, LD.bind_b, LD.bind_e, LD.bindS_k, LD.bindS_e, LD.ofO_s, LD.getV_s, LD.truK_s, LD.blK_b, LD.refK_r, LD.insK_i, LD.lookK_s, LD.lookK_n, LD.refS_r, LD.insS_i, LD.lookS_s, LD.seq_n, LD.seq_r, LD.seq_b, LD.seq_c, LD.seq_e, LD.storeK_s, LD.memK_s, LD.endF_n, LD.endF_r, LD.endF_e, LD.pick_t, LD.pick_f, LD.finL_f, LD.finL_t, LD.v_add, LD.v_sub, LD.v_mulR, LD.v_fdiv, LD.v_mod, LD.v_int, LD.v_lt, LD.v_le, LD.v_gt, LD.v_ge, LD.v_eq, LD.v_ne, LD.v_len, LD.v_tix, LD.v_lix, LD.v_rix, LD.rixK_l, LD.rixK_d, LD.v_isN, LD.v_isnN, LD.v_isNone, LD.v_isNoneN, LD.startD, List.length_cons, List.length_nil, List.map_cons, List.map_nil, List.cons_append, List.nil_append, List.append_nil, List.getElem?_cons_zero, List.getElem?_cons_succ, List.set_cons_zero, List.set_cons_succ, List.replicate_succ, List.replicate_zero, Nat.reduceAdd, Nat.reduceSub, Nat.reduceBEq, Int.reduceLT, Int.reduceNeg, Int.reduceLE, Nat.reduceLeDiff, Nat.reduceLT, List.lookup_cons, List.lookup_nil, beq_self_eq_true, Option.map_some, Option.map_none, gl, hs, hrn, g2]
/-! ### the lengths of the law -/
theorem comp_idx {chk : Mem → Bool} {γ : GSem} {τ : Sem1 Bool} {φ : Sem1 D} {s : DS} {M : Mem} {α : Type} {p : α → Bool} {g : α → D} (hc : chk M = true) : ∀ (Z : List α) (i : Nat), (∀ k q, Z[k]? = some q → ∃ s1, γ (.int ((i + k : Nat) : Int)) M s = some s1 ∧ τ s1 M = .ok (p q) M ∧ (p q = true → φ s1 M = .ok (g q) M)) → compV chk γ τ φ s ((List.range' i Z.length).map fun j : Nat => D.int (j : Int)) M = .ok ((Z.filter p).map g) M
  | [], i, h => by
    show (if chk M then _ else _) = _
    rw [if_pos hc] <;> rfl
  | q :: Z, i, h => by
    obtain ⟨s1, h1, h2, h3⟩ := h 0 q rfl
    rw [Nat.add_zero] at h1
    have ih := comp_idx (chk := chk) (γ := γ) (τ := τ) (φ := φ) (s := s) (M := M) (p := p) (g := g) hc Z (i + 1) fun k q' hq => by
      have := h (k + 1) q' hq
      rw [show i + (k + 1) = i + 1 + k by omega] at this
      exact this
    rw [List.length_cons, List.range'_succ, List.map_cons, compV, if_pos hc, h1]
    simp only [h2]
    by_cases hp : p q = true
    · rw [if_pos hp, h3 hp, List.filter_cons_of_pos hp, List.map_cons]
      simp only [ih, R.bind_ok]
    · rw [if_neg hp, List.filter_cons_of_neg hp, ih]
/-- it is a list of these numbers whatever is put behind the memory -/
def Stab (M : Mem) (v : D) (xs : List Int) : Prop := ∀ M' : Mem, (∀ j, j < M.length → M'[j]? = M[j]?) → IsL M' v xs
theorem stab_v (M : Mem) (xs : List Int) : Stab M (.lst (xs.map .int)) xs := fun _ _ => rfl
theorem stab_r {M : Mem} {i : Nat} {xs : List Int} (h : M[i]? = some (.lst (xs.map .int))) : Stab M (.ref i) xs := fun M' hm => isl_r (by rw [hm i (lt_of h)]; exact h)
def elen (p : List Int) : List Nat := ((lens gt p.reverse).map (·.2)).reverse
theorem elen_len (p : List Int) : (elen p).length = p.length := by unfold elen; rw [List.length_reverse, List.length_map, lens_len, List.length_reverse]
theorem elen_snoc (p : List Int) (x : Int) : elen (p ++ [x]) = elen p ++ [len1 gt x p.reverse] := by
  unfold elen
  rw [List.reverse_append]
  show ((lens gt (x :: p.reverse)).map (·.2)).reverse = _
  rw [lens, List.map_cons, List.reverse_cons]
theorem ll_loop {M : Mem} {v : D} {xs : List Int} (hv : Stab M v xs) (hlx : xs.length < 1000) : ∀ (d k : Nat) (x2 x3 x4 : Option D), k + d = xs.length → ∃ y2 y3 y4, forV (fun _ => true) (gNm 2) β__law_lengths_2 ((List.range' k d).map fun j : Nat => D.int (j : Int)) [some v, some (.ref M.length), x2, x3, x4] (M ++ [.lst (natsD (elen (xs.take k)))]) = .nx [some v, some (.ref M.length), y2, y3, y4] (M ++ [.lst (natsD (elen xs))])
  | 0, k, x2, x3, x4, hk => ⟨x2, x3, x4, by
    rw [List.take_of_length_le (by omega)]
    exact forV_n rfl⟩
  | d + 1, k, x2, x3, x4, hk => by
    have hb := big
    have hkl : k < xs.length := by omega
    have hx := getD_at hkl
    generalize xs.getD k 0 = x at hx
    have htk : xs.take (k + 1) = xs.take k ++ [x] := by rw [List.take_succ, hx] <;> rfl
    obtain ⟨y2, y3, y4, e⟩ := ll_loop hv hlx d (k + 1) (some (.int (k : Int))) (some (.lst (natsD ((((lens gt (xs.take k).reverse).reverse).filter fun q => gt x q.1).map (·.2))))) x4 (by omega)
    refine ⟨y2, y3, y4, ?_⟩
    rw [List.range'_succ, List.map_cons]
    refine (forV_c (s2 := [some v, some (.ref M.length), some (.int (k : Int)), some (.lst (natsD ((((lens gt (xs.take k).reverse).reverse).filter fun q => gt x q.1).map (·.2)))), x4]) (M2 := M ++ [.lst (natsD (elen (xs.take (k + 1))))]) rfl rfl ?_).trans e
    have hvM := hv (M ++ [.lst (natsD (elen (xs.take k)))]) fun j hj => app_old hj
    have hzl : ((lens gt (xs.take k).reverse).reverse).length = k := by rw [List.length_reverse, lens_len, List.length_reverse, List.length_take]; omega
    have gH : (M ++ [DO.lst (natsD (elen (xs.take k)))])[M.length]? = some (.lst (natsD (elen (xs.take k)))) := app_at
    have ax := ix_l hvM hx
    have hc := comp_idx (chk := fun _ => true) (γ := gNm 4) (τ := tCmp (boD ltB) (eBin ixD (eVar 0) (eVar 4)) (eBin ixD (eVar 0) (eVar 2))) (φ := eBin ixD (eVar 1) (eVar 4)) (s := [some v, some (.ref M.length), some (.int (k : Int)), x3, none]) (M := M ++ [.lst (natsD (elen (xs.take k)))]) (p := fun q : Int × Nat => gt x q.1) (g := fun q : Int × Nat => D.int ((q.2 : Nat) : Int)) rfl (lens gt (xs.take k).reverse).reverse 0 fun j q hq => by
      rw [Nat.zero_add]
      have hjk : j < k := by rw [← hzl]; exact (List.getElem?_eq_some_iff.mp hq).1
      have h1 : (xs.take k)[j]? = some q.1 := by
        have e1 : ((lens gt (xs.take k).reverse).reverse).map (·.1) = xs.take k := by rw [List.map_reverse, lens_fst, List.reverse_reverse]
        rw [← e1, List.getElem?_map, hq] <;> rfl
      have h1 : xs[j]? = some q.1 := by rw [List.getElem?_take, if_pos hjk] at h1; exact h1
      have h2 : (elen (xs.take k))[j]? = some q.2 := by
        unfold elen
        rw [← List.map_reverse, List.getElem?_map, hq] <;> rfl
      have a1 := ix_l hvM h1
      have a2 := natsD_at h2
      refine ⟨[some v, some (.ref M.length), some (.int (k : Int)), x3, some (.int (j : Int))], rfl, ?_, fun _ => ?_⟩
      · simp only [LD.v_lenO, LD.v_eqQi, LD.v_neQi, LD.v_mulGi, LD.q_Ins, LD.q_App, LD.okS_t, LD.v_isLst, LD.lstK_s, LD.v_app, LD.q_Rev, LD.lsK_s, LD.q_Get, LD.getKK_s, LD.v_lsL, LD.v_keyI, LD.v_keyS, Option.isSome_some, Option.isSome_none, Option.getD_some, Option.getD_none, LD.v_eqs, LD.v_nes, LD.v_isiBb, LD.q_C, LD.q_Var, LD.q_Bin, LD.q_Un, LD.q_tOf, LD.q_tCmp, LD.q_tAnd, LD.q_tOr, LD.q_tNot, LD.q_And, LD.q_Or, LD.q_Not, LD.q_If, LD.q_Nil, LD.q_Cons, LD.q_Tup, LD.q_Lst, LD.q_LstM, LD.q_Call, LD.q_Meth, LD.q_Attr, LD.q_Blt, LD.q_Comp, LD.q_iOf, LD.srcK_s, LD.v_truB, LD.v_truL, LD.v_truN, LD.v_srcL, LD.v_neg, LD.q_iRange, LD.q_Next, LD.q_Seq, LD.q_Expr, LD.q_Ret, LD.q_RetN, LD.q_SIf, LD.q_Bk, LD.q_Ct, LD.q_Asg, LD.q_Nm, LD.q_Sub, LD.q_Del, LD.q_Fld, LD.q_Dic, LD.q_For, LD.wipeD, Bool.not_true, Bool.not_false, LD.ifT, LD.le0, LD.le1, LD.le2, LD.le3, LD.le4, LD.le5, LD.le6, LD.cmpK_l, LD.nn_n, LD.nn_i, LD.nn_t, LD.nn_l, LD.nn_r, LD.nn_b, LD.nn_s, LD.nonK_n, LD.okK_o, LD.bind_k, LD.bind_b, LD.bind_e, LD.bindS_k, LD.bindS_e, LD.ofO_s, LD.getV_s, LD.truK_s, LD.blK_b, LD.refK_r, LD.insK_i, LD.lookK_s, LD.lookK_n, LD.refS_r, LD.insS_i, LD.lookS_s, LD.seq_n, LD.seq_r, LD.seq_b, LD.seq_c, LD.seq_e, LD.storeK_s, LD.memK_s, LD.endF_n, LD.endF_r, LD.endF_e, LD.pick_t, LD.pick_f, LD.finL_f, LD.finL_t, LD.v_add, LD.v_sub, LD.v_mulR, LD.v_fdiv, LD.v_mod, LD.v_int, LD.v_lt, LD.v_le, LD.v_gt, LD.v_ge, LD.v_eq, LD.v_ne, LD.v_len, LD.v_tix, LD.v_lix, LD.v_rix, LD.rixK_l, LD.rixK_d, LD.v_isN, LD.v_isnN, LD.v_isNone, LD.v_isNoneN, LD.startD, List.length_cons, List.length_nil, List.map_cons, List.map_nil, List.cons_append, List.nil_append, List.append_nil, List.getElem?_cons_zero, List.getElem?_cons_succ, List.set_cons_zero, List.set_cons_succ, List.replicate_succ, List.replicate_zero, Nat.reduceAdd, Nat.reduceSub, Nat.reduceBEq, Int.reduceLT, Int.reduceNeg, Int.reduceLE, Nat.reduceLeDiff, Nat.reduceLT, List.lookup_cons, List.lookup_nil, beq_self_eq_true, Option.map_some, Option.map_none, a1, ax]
        rfl
      · simp only [LD.v_lenO, LD.v_eqQi, LD.v_neQi, LD.v_mulGi, LD.q_Ins, LD.q_App, LD.okS_t, LD.v_isLst, LD.lstK_s, LD.v_app, LD.q_Rev, LD.lsK_s, LD.q_Get, LD.getKK_s, LD.v_lsL, LD.v_keyI, LD.v_keyS, Option.isSome_some, Option.isSome_none, Option.getD_some, Option.getD_none, LD.v_eqs, LD.v_nes, LD.v_isiBb, LD.q_C, LD.q_Var, LD.q_Bin, LD.q_Un, LD.q_tOf, LD.q_tCmp, LD.q_tAnd, LD.q_tOr, LD.q_tNot, LD.q_And, LD.q_Or, LD.q_Not, LD.q_If, LD.q_Nil, LD.q_Cons, LD.q_Tup, LD.q_Lst, LD.q_LstM, LD.q_Call, LD.q_Meth, LD.q_Attr, LD.q_Blt, LD.q_Comp, LD.q_iOf, LD.srcK_s, LD.v_truB, LD.v_truL, LD.v_truN, LD.v_srcL, LD.v_neg, LD.q_iRange, LD.q_Next, LD.q_Seq, LD.q_Expr, LD.q_Ret, LD.q_RetN, LD.q_SIf, LD.q_Bk, LD.q_Ct, LD.q_Asg, LD.q_Nm, LD.q_Sub, LD.q_Del, LD.q_Fld, LD.q_Dic, LD.q_For, LD.wipeD, Bool.not_true, Bool.not_false, LD.ifT, LD.le0, LD.le1, LD.le2, LD.le3, LD.le4, LD.le5, LD.le6, LD.cmpK_l, LD.nn_n, LD.nn_i, LD.nn_t, LD.nn_l, LD.nn_r, LD.nn_b, LD.nn_s, LD.nonK_n, LD.okK_o, LD.bind_k, LD.bind_b, LD.bind_e, LD.bindS_k, LD.bindS_e, LD.ofO_s, LD.getV_s, LD.truK_s, LD.blK_b, LD.refK_r, LD.insK_i, LD.lookK_s, LD.lookK_n, LD.refS_r, LD.insS_i, LD.lookS_s, LD.seq_n, LD.seq_r, LD.seq_b, LD.seq_c, LD.seq_e, LD.storeK_s, LD.memK_s, LD.endF_n, LD.endF_r, LD.endF_e, LD.pick_t, LD.pick_f, LD.finL_f, LD.finL_t, LD.v_add, LD.v_sub, LD.v_mulR, LD.v_fdiv, LD.v_mod, LD.v_int, LD.v_lt, LD.v_le, LD.v_gt, LD.v_ge, LD.v_eq, LD.v_ne, LD.v_len, LD.v_tix, LD.v_lix, LD.v_rix, LD.rixK_l, LD.rixK_d, LD.v_isN, LD.v_isnN, LD.v_isNone, LD.v_isNoneN, LD.startD, List.length_cons, List.length_nil, List.map_cons, List.map_nil, List.cons_append, List.nil_append, List.append_nil, List.getElem?_cons_zero, List.getElem?_cons_succ, List.set_cons_zero, List.set_cons_succ, List.replicate_succ, List.replicate_zero, Nat.reduceAdd, Nat.reduceSub, Nat.reduceBEq, Int.reduceLT, Int.reduceNeg, Int.reduceLE, Nat.reduceLeDiff, Nat.reduceLT, List.lookup_cons, List.lookup_nil, beq_self_eq_true, Option.map_some, Option.map_none, gH, a2]
    rw [hzl] at hc
    have hmap : (((lens gt (xs.take k).reverse).reverse).filter fun q => gt x q.1).map (fun q : Int × Nat => D.int ((q.2 : Nat) : Int)) = natsD ((((lens gt (xs.take k).reverse).reverse).filter fun q => gt x q.1).map (·.2)) := by
      unfold natsD
      rw [List.map_map, List.map_map] <;> rfl
    rw [hmap] at hc
    generalize hbf : (((lens gt (xs.take k).reverse).reverse).filter fun q => gt x q.1).map (·.2) = bf at hc ⊢
    have hbl : bf.length ≤ k := by
      rw [← hbf, List.length_map]
      exact Nat.le_trans (List.length_filter_le _ _) (Nat.le_of_eq hzl)
    have hrn : ∀ M : Mem, rngK [.int (k : Int)] M = .ok ⟨(List.range' 0 k).map fun j : Nat => D.int (j : Int), fun _ => true⟩ M := fun M => by
      rw [rngN (by omega) (by omega), Int.toNat_natCast, rng']
    have hL1 : ((List.range' 0 k).map fun j : Nat => D.int (j : Int)).length ≤ LINE := by rw [List.length_map, List.length_range']; omega
    have hadd : ∀ M : Mem, addD (.lst [.int 0]) (.lst (natsD bf)) M = some (.lst (.int 0 :: natsD bf), M) := fun M => add_lr (a := [.int 0]) (ys := natsD bf) rfl (by rw [natsD_len]; show 1 + _ ≤ _; omega)
    have hmx : ∀ M : Mem, maxC [.lst (.int 0 :: natsD bf)] M = some (.int ((mxL (0 :: bf) : Nat) : Int), M) := fun M => max_l (l := 0 :: bf) (fun z => nomatch z)
    have hmv : 1 + ((mxL (0 :: bf) : Nat) : Int) = ((len1 gt x (xs.take k).reverse : Nat) : Int) := by
      have e1 : mxL (0 :: bf) = extR gt x (lens gt (xs.take k).reverse) := by
        rw [show mxL (0 :: bf) = mxL bf from Nat.max_eq_right (Nat.zero_le _), ← hbf, List.filter_reverse, List.map_reverse, mxL_rev] <;> rfl
      rw [e1]
      show _ = ((1 + extR gt x (lens gt (xs.take k).reverse) : Nat) : Int)
      omega
    have hL2 : (natsD (elen (xs.take k))).length < LINE := by rw [natsD_len, elen_len, List.length_take]; omega
    have hfin : natsD (elen (xs.take k)) ++ [D.int ((len1 gt x (xs.take k).reverse : Nat) : Int)] = natsD (elen (xs.take (k + 1))) := by
      rw [htk, elen_snoc]
      unfold natsD
      rw [List.map_append, List.map_append] <;> rfl
    unfold β__law_lengths_2
    simp only [LD.v_lenO, LD.v_eqQi, LD.v_neQi, LD.v_mulGi, LD.q_Ins, LD.q_App, LD.okS_t, LD.v_isLst, LD.lstK_s, LD.v_app, LD.q_Rev, LD.lsK_s, LD.q_Get, LD.getKK_s, LD.v_lsL, LD.v_keyI, LD.v_keyS, Option.isSome_some, Option.isSome_none, Option.getD_some, Option.getD_none, LD.v_eqs, LD.v_nes, LD.v_isiBb, LD.q_C, LD.q_Var, LD.q_Bin, LD.q_Un, LD.q_tOf, LD.q_tCmp, LD.q_tAnd, LD.q_tOr, LD.q_tNot, LD.q_And, LD.q_Or, LD.q_Not, LD.q_If, LD.q_Nil, LD.q_Cons, LD.q_Tup, LD.q_Lst, LD.q_LstM, LD.q_Call, LD.q_Meth, LD.q_Attr, LD.q_Blt, LD.q_Comp, LD.q_iOf, LD.srcK_s, LD.v_truB, LD.v_truL, LD.v_truN, LD.v_srcL, LD.v_neg, LD.q_iRange, LD.q_Next, LD.q_Seq, LD.q_Expr, LD.q_Ret, LD.q_RetN, LD.q_SIf, LD.q_Bk, LD.q_Ct, LD.q_Asg, LD.q_Nm, LD.q_Sub, LD.q_Del, LD.q_Fld, LD.q_Dic, LD.q_For, LD.wipeD, Bool.not_true, Bool.not_false, LD.ifT, LD.le0, LD.le1, LD.le2, LD.le3, LD.le4, LD.le5, LD.le6, LD.cmpK_l, LD.nn_n, LD.nn_i, LD.nn_t, LD.nn_l, LD.nn_r, LD.nn_b, LD.nn_s, LD.nonK_n, LD.okK_o, LD.bind_k, LD.bind_b, LD.bind_e, LD.bindS_k, LD.bindS_e, LD.ofO_s, LD.getV_s, LD.truK_s, LD.blK_b, LD.refK_r, LD.insK_i, LD.lookK_s, LD.lookK_n, LD.refS_r, LD.insS_i, LD.lookS_s, LD.seq_n, LD.seq_r, LD.seq_b, LD.seq_c, LD.seq_e, LD.storeK_s, LD.memK_s, LD.endF_n, LD.endF_r, LD.endF_e, LD.pick_t, LD.pick_f, LD.finL_f, LD.finL_t, LD.v_add, LD.v_sub, LD.v_mulR, LD.v_fdiv, LD.v_mod, LD.v_int, LD.v_lt, LD.v_le, LD.v_gt, LD.v_ge, LD.v_eq, LD.v_ne, LD.v_len, LD.v_tix, LD.v_lix, LD.v_rix, LD.rixK_l, LD.rixK_d, LD.v_isN, LD.v_isnN, LD.v_isNone, LD.v_isNoneN, LD.startD, List.length_cons, List.length_nil, List.map_cons, List.map_nil, List.cons_append, List.nil_append, List.append_nil, List.getElem?_cons_zero, List.getElem?_cons_succ, List.set_cons_zero, List.set_cons_succ, List.replicate_succ, List.replicate_zero, Nat.reduceAdd, Nat.reduceSub, Nat.reduceBEq, Int.reduceLT, Int.reduceNeg, Int.reduceLE, Nat.reduceLeDiff, Nat.reduceLT, List.lookup_cons, List.lookup_nil, beq_self_eq_true, Option.map_some, Option.map_none, hrn, cmpK_l hL1, hc, gH, hadd, hmx, hmv, appK_s hL2, set_end, hfin]
theorem llens_eq {M : Mem} {v : D} {xs : List Int} (hv : Stab M v xs) (hlx : xs.length < 1000) : φ__law_lengths [v] M = .ok (.ref M.length) (M ++ [.lst (natsD (elen xs))]) := by
  obtain ⟨y2, y3, y4, e⟩ := ll_loop hv hlx xs.length 0 none none none (Nat.zero_add _)
  have gl := len_l (hv (M ++ [.lst []]) fun j hj => app_old hj)
  have hrn : ∀ M : Mem, rngK [.int (xs.length : Int)] M = .ok ⟨(List.range' 0 xs.length).map fun j : Nat => D.int (j : Int), fun _ => true⟩ M := fun M => by
    rw [rngN (by omega) (by omega), Int.toNat_natCast, rng']
  have e : forV (fun _ => true) (gNm 2) β__law_lengths_2 ((List.range' 0 xs.length).map fun j : Nat => D.int (j : Int)) [some v, some (.ref M.length), none, none, none] (M ++ [.lst []]) = .nx [some v, some (.ref M.length), y2, y3, y4] (M ++ [.lst (natsD (elen xs))]) := e
  unfold φ__law_lengths
  refine run_def rfl ?_
  unfold ψ__law_lengths
  simp only [LD.v_lenO, LD.v_eqQi, LD.v_neQi, LD.v_mulGi, LD.q_Ins, LD.q_App, LD.okS_t, LD.v_isLst, LD.lstK_s, LD.v_app, LD.q_Rev, LD.lsK_s, LD.q_Get, LD.getKK_s, LD.v_lsL, LD.v_keyI, LD.v_keyS, Option.isSome_some, Option.isSome_none, Option.getD_some, Option.getD_none, LD.v_eqs, LD.v_nes, LD.v_isiBb, LD.q_C, LD.q_Var, LD.q_Bin, LD.q_Un, LD.q_tOf, LD.q_tCmp, LD.q_tAnd, LD.q_tOr, LD.q_tNot, LD.q_And, LD.q_Or, LD.q_Not, LD.q_If, LD.q_Nil, LD.q_Cons, LD.q_Tup, LD.q_Lst, LD.q_LstM, LD.q_Call, LD.q_Meth, LD.q_Attr, LD.q_Blt, LD.q_Comp, LD.q_iOf, LD.srcK_s, LD.v_truB, LD.v_truL, LD.v_truN, LD.v_srcL, LD.v_neg, LD.q_iRange, LD.q_Next, LD.q_Seq, LD.q_Expr, LD.q_Ret, LD.q_RetN, LD.q_SIf, LD.q_Bk, LD.q_Ct, LD.q_Asg, LD.q_Nm, LD.q_Sub, LD.q_Del, LD.q_Fld, LD.q_Dic, LD.q_For, LD.wipeD, Bool.not_true, Bool.not_false, LD.ifT, LD.le0, LD.le1, LD.le2, LD.le3, LD.le4, LD.le5, LD.le6, LD.cmpK_l, LD.nn_n, LD.nn_i, LD.nn_t, LD.nn_l, LD.nn_r, LD.nn_b, LD.nn_s, LD.nonK_n, LD.okK_o, LD.bind_k, LD.bind_b, LD.bind_e, LD.bindS_k, LD.bindS_e, LD.ofO_s, LD.getV_s, LD.truK_s, LD.blK_b, LD.refK_r, LD.insK_i, LD.lookK_s, LD.lookK_n, LD.refS_r, LD.insS_i, LD.lookS_s, LD.seq_n, LD.seq_r, LD.seq_b, LD.seq_c, LD.seq_e, LD.storeK_s, LD.memK_s, LD.endF_n, LD.endF_r, LD.endF_e, LD.pick_t, LD.pick_f, LD.finL_f, LD.finL_t, LD.v_add, LD.v_sub, LD.v_mulR, LD.v_fdiv, LD.v_mod, LD.v_int, LD.v_lt, LD.v_le, LD.v_gt, LD.v_ge, LD.v_eq, LD.v_ne, LD.v_len, LD.v_tix, LD.v_lix, LD.v_rix, LD.rixK_l, LD.rixK_d, LD.v_isN, LD.v_isnN, LD.v_isNone, LD.v_isNoneN, LD.startD, List.length_cons, List.length_nil, List.map_cons, List.map_nil, List.cons_append, List.nil_append, List.append_nil, List.getElem?_cons_zero, List.getElem?_cons_succ, List.set_cons_zero, List.set_cons_succ, List.replicate_succ, List.replicate_zero, Nat.reduceAdd, Nat.reduceSub, Nat.reduceBEq, Int.reduceLT, Int.reduceNeg, Int.reduceLE, Nat.reduceLeDiff, Nat.reduceLT, List.lookup_cons, List.lookup_nil, beq_self_eq_true, Option.map_some, Option.map_none, gl, hrn, e]
theorem elen_max (xs : List Int) : mxL (elen xs) = best lt xs := by
  unfold elen
  rw [mxL_rev, ← best_rev] <;> rfl
end K30
namespace K30
open PySem PySem.Spec PyProof.Rows L2 LD
theorem getD_nat {xs : List Nat} {k : Nat} (h : k < xs.length) : xs[k]? = some (xs.getD k 0) := by
  rw [List.getD_eq_getElem?_getD, List.getElem?_eq_getElem h] <;> rfl
theorem places_len (xs : List Int) : (places xs).length = best lt xs := by
  unfold places
  by_cases h0 : best lt xs = 0
  · rw [h0, pick_zero] <;> rfl
  · obtain ⟨p, h1, h2⟩ := List.mem_map.mp (mxL_mem h0)
    refine pick_len xs none _ 0 ⟨p.1, ?_, rfl⟩
    have e : p.2 = best lt xs := h2
    rw [← e]
    exact h1
theorem places_lt {xs : List Int} {p : Nat} (h : p ∈ places xs) : p < xs.length := by
  have := pick_ge xs none (best lt xs) 0 p h
  omega
theorem rowOf_len (xs : List Int) (G : List Nat) : (rowOf xs G).length = G.length := List.length_map ..
theorem row_rises (xs : List Int) : (rowOf xs (places xs)).Pairwise (· < ·) := (pick_val (xs := xs) xs none (best lt xs) 0 List.drop_zero).1
theorem all_int : ∀ ls : List Int, (ls.map D.int).all isF = true
  | [] => rfl
  | y :: r => by rw [List.map_cons, List.all_cons, all_int r] <;> rfl
theorem any_int {x : Int} : ∀ ls : List Int, ((ls.map D.int).any fun z => eqF z (.int x)) = decide (x ∈ ls)
  | [] => rfl
  | y :: r => by
    have ih := any_int (x := x) r
    rw [List.map_cons, List.any_cons, ih]
    show (y == x || decide (x ∈ r)) = _
    by_cases h : x = y
    · subst h
      rw [beq_self_eq_true, decide_eq_true List.mem_cons_self, Bool.true_or]
    · rw [beq_eq_false_iff_ne.mpr (fun e => h e.symm), Bool.false_or]
      by_cases h2 : x ∈ r
      · rw [decide_eq_true h2, decide_eq_true (List.mem_cons_of_mem _ h2)]
      · rw [decide_eq_false h2, decide_eq_false fun z => (List.mem_cons.mp z).elim h h2]
theorem notin_r {M : Mem} {i : Nat} {x : Int} {xs : List Int} (h : M[i]? = some (.lst (xs.map .int))) : boD (notB inD) (.int x) (.ref i) M = some (.bl (!decide (x ∈ xs)), M) := by
  have e : inD M (.int x) (.ref i) = some (decide (x ∈ xs)) := by
    have e0 : dcOf M (.ref i) = none := by simp only [dcOf, h]
    unfold inD
    rw [e0]
    show (match lsOf M (.ref i) with | some xs => _ | none => none) = _
    rw [v_lsR h]
    show (if (isF (.int x) && (xs.map D.int).all isF) = true then some ((xs.map D.int).any fun z => eqF z (.int x)) else _) = _
    rw [all_int, any_int] <;> rfl
  unfold boD notB
  rw [e] <;> rfl
theorem idx_nd {x : Int} : ∀ {xs : List Int} {p : Nat}, xs.Nodup → xs[p]? = some x → idxD (.int x) (xs.map .int) = some p
  | [], p, _, h => by cases h
  | y :: r, 0, _, h => by
    cases h
    rw [List.map_cons]
    unfold idxD
    exact if_pos (show (x == x) = true from beq_self_eq_true x)
  | y :: r, p + 1, nd, h => by
    obtain ⟨n1, n2⟩ := List.nodup_cons.mp nd
    have h : r[p]? = some x := h
    rw [List.map_cons]
    unfold idxD
    rw [if_neg (show ¬ eqF (.int y) (.int x) = true from fun z => n1 (by have z : (y == x) = true := z; rw [beq_iff_eq.mp z]; exact List.mem_of_getElem? h)), idx_nd n2 h] <;> rfl
theorem q_Idx {a : Sem1 D} {α : Sem1 (List D)} {s : DS} {M : Mem} : eBm isLst idxG a α s M = bnd (a s M) (fun x M1 => okS (isLst M1 x) (bnd (α s M1) (fun ds M2 => ofO (idxG x ds M2)) .mk) .mk) .mk := rfl
theorem idx_ok {M : Mem} {v : D} {xs : List Int} {p : Nat} {x : Int} (hv : IsL M v xs) (nd : xs.Nodup) (h : xs[p]? = some x) : idxG v [.int x] M = some (.int (p : Int), M) := by
  show (lsOf M v).bind _ = _
  unfold IsL at hv
  rw [hv]
  show (if (isF (.int x) && (xs.map D.int).all isF) = true then (idxD (.int x) (xs.map .int)).map fun j => (D.int (j : Nat), M) else none) = _
  rw [all_int, idx_nd nd h] <;> rfl
def Ext (M M' : Mem) : Prop := M.length ≤ M'.length ∧ ∀ j, j < M.length → M'[j]? = M[j]?
theorem Ext.refl {M : Mem} : Ext M M := ⟨Nat.le_refl _, fun _ _ => rfl⟩
theorem Ext.trans {M M' M'' : Mem} (a : Ext M M') (b : Ext M' M'') : Ext M M'' := ⟨Nat.le_trans a.1 b.1, fun j hj => by rw [b.2 j (Nat.lt_of_lt_of_le hj a.1), a.2 j hj]⟩
theorem Ext.app {M X : Mem} : Ext M (M ++ X) := ⟨by rw [List.length_append]; omega, fun j hj => app_old hj⟩
theorem Ext.at' {M M' : Mem} {i : Nat} {o : DO} (e : Ext M M') (h : M[i]? = some o) : M'[i]? = some o := by rw [e.2 i (lt_of h)]; exact h
/-! ### the law's test of a row -/
theorem pl_loop {M : Mem} {N Rw : Nat} {xs row : List Int} (nd : xs.Nodup) (hN : M[N]? = some (.lst (xs.map .int))) (hR : M[Rw]? = some (.lst (row.map .int))) {a4 a5 a6 a7 a8 a9 : Option D} : ∀ (qs acc : List Nat) (x3 : Option D), (∀ q ∈ qs, q < xs.length) → acc.length + qs.length < 1000 → ∃ y3, forV (mutChk Rw (row.map D.int)) (gNm 3) β__law_right_2 ((rowOf xs qs).map .int) [some (.ref N), some (.ref Rw), some (.ref M.length), x3, a4, a5, a6, a7, a8, a9] (M ++ [.lst (natsD acc)]) =
    .nx [some (.ref N), some (.ref Rw), some (.ref M.length), y3, a4, a5, a6, a7, a8, a9] (M ++ [.lst (natsD (acc ++ qs))])
  | [], acc, x3, _, _ => ⟨x3, by rw [List.append_nil]; exact forV_n (eqb_mut (by rw [app_old (lt_of hR)]; exact hR))⟩
  | q :: qs, acc, x3, hq, hl => by
    have hb := big
    rw [List.length_cons] at hl
    have hq0 := hq q List.mem_cons_self
    have hx := getD_at hq0
    obtain ⟨y3, e⟩ := pl_loop nd hN hR (a4 := a4) (a5 := a5) (a6 := a6) (a7 := a7) (a8 := a8) (a9 := a9) qs (acc ++ [q]) (some (.int (xs.getD q 0))) (fun u hu => hq u (List.mem_cons_of_mem _ hu)) (by rw [List.length_append, List.length_singleton]; omega)
    refine ⟨y3, ?_⟩
    rw [List.append_assoc] at e
    have er : (rowOf xs (q :: qs)).map D.int = .int (xs.getD q 0) :: (rowOf xs qs).map .int := rfl
    have e := e.trans (show _ = RS.nx [some (.ref N), some (.ref Rw), some (.ref M.length), y3, a4, a5, a6, a7, a8, a9] (M ++ [.lst (natsD (acc ++ (q :: qs)))]) from rfl)
    rw [er]
    have gN : (M ++ [DO.lst (natsD acc)])[N]? = some (.lst (xs.map .int)) := by rw [app_old (lt_of hN)]; exact hN
    have gP : (M ++ [DO.lst (natsD acc)])[M.length]? = some (.lst (natsD acc)) := app_at
    have hni := notin_r (x := xs.getD q 0) gN
    rw [decide_eq_true (List.mem_of_getElem? hx)] at hni
    have hix := idx_ok (isl_r gN) nd hx
    have hL : (natsD acc).length < LINE := by rw [natsD_len]; omega
    have hfin : natsD acc ++ [D.int (q : Int)] = natsD (acc ++ [q]) := by
      unfold natsD
      rw [List.map_append, List.map_append] <;> rfl
    refine (forV_c (s1 := [some (.ref N), some (.ref Rw), some (.ref M.length), some (.int (xs.getD q 0)), a4, a5, a6, a7, a8, a9]) (s2 := [some (.ref N), some (.ref Rw), some (.ref M.length), some (.int (xs.getD q 0)), a4, a5, a6, a7, a8, a9]) (M2 := M ++ [.lst (natsD (acc ++ [q]))]) (eqb_mut (by rw [app_old (lt_of hR)]; exact hR)) rfl ?_).trans e
    unfold β__law_right_2
    simp only [LD.v_lenO, LD.v_eqQi, LD.v_neQi, LD.v_mulGi, LD.q_Ins, LD.q_App, LD.okS_t, LD.v_isLst, LD.lstK_s, LD.v_app, LD.q_Rev, LD.lsK_s, LD.q_Get, LD.getKK_s, LD.v_lsL, LD.v_keyI, LD.v_keyS, Option.isSome_some, Option.isSome_none, Option.getD_some, Option.getD_none, LD.v_eqs, LD.v_nes, LD.v_isiBb, LD.q_C, LD.q_Var, LD.q_Bin, LD.q_Un, LD.q_tOf, LD.q_tCmp, LD.q_tAnd, LD.q_tOr, LD.q_tNot, LD.q_And, LD.q_Or, LD.q_Not, LD.q_If, LD.q_Nil, LD.q_Cons, LD.q_Tup, LD.q_Lst, LD.q_LstM, LD.q_Call, LD.q_Meth, LD.q_Attr, LD.q_Blt, LD.q_Comp, LD.q_iOf, LD.srcK_s, LD.v_truB, LD.v_truL, LD.v_truN, LD.v_srcL, LD.v_neg, LD.q_iRange, LD.q_Next, LD.q_Seq, LD.q_Expr, LD.q_Ret, LD.q_RetN, LD.q_SIf, LD.q_Bk, LD.q_Ct, LD.q_Asg, LD.q_Nm, LD.q_Sub, LD.q_Del, LD.q_Fld, LD.q_Dic, LD.q_For, LD.wipeD, Bool.not_true, Bool.not_false, LD.ifT, LD.le0, LD.le1, LD.le2, LD.le3, LD.le4, LD.le5, LD.le6, LD.cmpK_l, LD.nn_n, LD.nn_i, LD.nn_t, LD.nn_l, LD.nn_r, LD.nn_b, LD.nn_s, LD.nonK_n, LD.okK_o, LD.bind_k, LD.bind_b, LD.bind_e, LD.bindS_k, LD.bindS_e, LD.ofO_s, LD.getV_s, LD.truK_s, LD.blK_b, LD.refK_r, LD.insK_i, LD.lookK_s, LD.lookK_n, LD.refS_r, LD.insS_i, LD.lookS_s, LD.seq_n, LD.seq_r, LD.seq_b, LD.seq_c, LD.seq_e, LD.storeK_s, LD.memK_s, LD.endF_n, LD.endF_r, LD.endF_e, LD.pick_t, LD.pick_f, LD.finL_f, LD.finL_t, LD.v_add, LD.v_sub, LD.v_mulR, LD.v_fdiv, LD.v_mod, LD.v_int, LD.v_lt, LD.v_le, LD.v_gt, LD.v_ge, LD.v_eq, LD.v_ne, LD.v_len, LD.v_tix, LD.v_lix, LD.v_rix, LD.rixK_l, LD.rixK_d, LD.v_isN, LD.v_isnN, LD.v_isNone, LD.v_isNoneN, LD.startD, List.length_cons, List.length_nil, List.map_cons, List.map_nil, List.cons_append, List.nil_append, List.append_nil, List.getElem?_cons_zero, List.getElem?_cons_succ, List.set_cons_zero, List.set_cons_succ, List.replicate_succ, List.replicate_zero, Nat.reduceAdd, Nat.reduceSub, Nat.reduceBEq, Int.reduceLT, Int.reduceNeg, Int.reduceLE, Nat.reduceLeDiff, Nat.reduceLT, List.lookup_cons, List.lookup_nil, beq_self_eq_true, Option.map_some, Option.map_none, hni, gP, q_Idx, gN, hix, appK_s hL, set_end, hfin]
theorem slice_to {M : Mem} {i k : Nat} {xs : List D} (h : M[i]? = some (.lst xs)) (hk : k ≤ xs.length) : sliceD false (.ref i) none (some (k : Int)) M = some (.lst (xs.take k), M) := by
  have e : cutL xs none (some (k : Int)) = xs.take k := by
    unfold cutL
    rw [HT.sIx_none, HT.sIx_nat, List.drop_zero, Nat.sub_zero, Nat.min_eq_left hk]
  show (lsOf M (.ref i)).map _ = _
  rw [v_lsR h]
  show some (newL false (cutL xs none (some (k : Int))) M) = _
  rw [e] <;> rfl
theorem slice_fr {M : Mem} {i k : Nat} {xs : List D} (h : M[i]? = some (.lst xs)) (hk : k ≤ xs.length) : sliceD false (.ref i) (some (k : Int)) none M = some (.lst (xs.drop k), M) := by
  have e : cutL xs (some (k : Int)) none = xs.drop k := by
    unfold cutL
    rw [HT.sIx_none, HT.sIx_nat, Nat.min_eq_left hk, ← List.length_drop, List.take_length]
  show (lsOf M (.ref i)).map _ = _
  rw [v_lsR h]
  show some (newL false (cutL xs (some (k : Int)) none) M) = _
  rw [e] <;> rfl
theorem q_Slice {mu : Bool} {a : Sem1 D} {lo hi : SemO} {s : DS} {M : Mem} : eSlice mu a lo hi s M = bnd (a s M) (fun x M1 => bnd (lo s M1) (fun l M2 => bnd (hi s M2) (fun h M3 => ofO (sliceD mu x l h M3)) .mk) .mk) .mk := rfl
def soK (x : D) (M : Mem) : R (Option Int) := match x with
  | .int i => .ok (some i) M
  | _ => .bad
theorem soK_i {i : Int} {M : Mem} : soK (.int i) M = .ok (some i) M := rfl
theorem q_oSome {a : Sem1 D} {s : DS} {M : Mem} : oSome a s M = bnd (a s M) (fun x M1 => soK x M1) .mk := rfl
theorem q_oNone {s : DS} {M : Mem} : oNone s M = .ok none M := rfl
theorem rng2 {i j : Nat} (hi : i < 100000) (hj : j < 100000) (M : Mem) : rngK [.int (i : Int), .int (j : Int)] M = .ok ⟨(List.range' i (j - i)).map fun k : Nat => D.int (k : Int), fun _ => true⟩ M := by
  show (if (mid (i : Int) && mid (j : Int)) = true then LD.R.ok (Src.mk (rangeL (i : Int) ((j : Int) - (i : Int)).toNat 1) fun _ => true) M else _) = _
  rw [if_pos (by rw [Bool.and_eq_true]; exact ⟨mid_iff.mpr ⟨by omega, by omega⟩, mid_iff.mpr ⟨by omega, by omega⟩⟩)]
  congr 2
  unfold rangeL
  rw [show ((j : Int) - (i : Int)).toNat = j - i by omega, List.range'_eq_map_range, List.map_map]
  apply List.map_congr_left
  intro k _
  show D.int ((i : Int) + (k : Int) * 1) = D.int ((i + k : Nat) : Int)
  congr 1
  omega
/-- the max of a list that was just made -/
theorem max_r {M : Mem} {i : Nat} {l : List Nat} (h : M[i]? = some (.lst (natsD l))) (hl : l ≠ []) : maxC [.ref i] M = some (.int ((mxL l : Nat) : Int), M) := by
  have e := max_l (M := M) hl
  show ((lsOf M (.ref i)).bind fun xs => (intsOf xs).bind fun ns => if ns.isEmpty then none else some (D.int (maxI ns), M)) = _
  rw [v_lsR h]
  exact e
theorem rest_eq {xs : List Int} {j : Nat} {x : Int} {r : List Int} (nd : xs.Nodup) (h : xs.drop j = x :: r) : mxL (elen ((xs.drop j).filter fun y => decide (x ≤ y))) = lenAt xs j := by
  have hnd : (x :: r).Nodup := by rw [← h]; exact nd.sublist (List.drop_sublist _ _)
  rw [elen_max, h, best_rest (List.nodup_cons.mp hnd).1]
  unfold lenAt
  rw [h]
section
variable {B : Mem} {N Rw Pl : Nat} {xs : List Int} (nd : xs.Nodup) (hlx : xs.length < 1000) (hN : B[N]? = some (.lst (xs.map .int))) (hR : B[Rw]? = some (.lst ((rowOf xs (places xs)).map .int))) (hP : B[Pl]? = some (.lst (natsD (places xs))))
include nd hlx hN hR hP
theorem right_in {k : Nat} (hk : k < (places xs).length) {a2 a6 a7 : Option D} : ∀ (d j : Nat) (M : Mem) (x8 x9 : Option D), j + d = (places xs).getD k 0 → prevP 0 (places xs) k ≤ j → Ext B M → ∃ M' y8 y9, (∀ x3 : Option D, forV (fun _ => true) (gNm 8) β__law_right_12 ((List.range' j d).map fun i : Nat => D.int (i : Int)) [some (.ref N), some (.ref Rw), a2, x3, some (.int (k : Int)), some (.lst (((rowOf xs (places xs)).take k).map .int)), a6, a7, x8, x9] M = .nx [some (.ref N), some (.ref Rw), a2, x3, some (.int (k : Int)), some (.lst (((rowOf xs (places xs)).take k).map .int)), a6, a7, y8, y9] M') ∧ Ext B M'
  | 0, j, M, x8, x9, hj, hp, e => ⟨M, x8, x9, fun x3 => forV_n rfl, e⟩
  | d + 1, j, M, x8, x9, hj, hp, e => by
    have hb := big
    have hG : (places xs).getD k 0 ∈ places xs := by
      rw [List.getD_eq_getElem?_getD, List.getElem?_eq_getElem hk]
      exact List.getElem_mem _
    have hGl := places_lt hG
    have hjl : j < xs.length := by omega
    have hx := getD_at hjl
    obtain ⟨r, hd⟩ : ∃ r, xs.drop j = xs.getD j 0 :: r := by
      cases h : xs.drop j with
      | nil => have := congrArg List.length h; rw [List.length_drop, List.length_nil] at this; omega
      | cons y r =>
        have := (drop_at h).1
        rw [hx] at this
        cases this
        exact ⟨r, rfl⟩
    have gN := e.at' hN
    have gR := e.at' hR
    have ax := ix_l (isl_r gN) hx
    rw [v_rix] at ax
    have ax' : atI (xs.map D.int) (j : Int) = some (.int (xs.getD j 0)) := atN (by rw [List.getElem?_map, hx] <;> rfl)
    have rl := rowOf_len xs (places xs)
    have hhl : ((rowOf xs (places xs)).take k).length = k := by rw [List.length_take]; omega
    -- the row ahead
    have hcond : ∀ M : Mem, M[N]? = some (.lst (xs.map .int)) → ∀ x3 : Option D, (tOr (tCmp (boD eqD) (eBlt lenC (aCons (eVar 5) aNil)) (eC (.int 0))) (tCmp (boD gtB) (eBin ixD (eVar 0) (eVar 8)) (eBin ixD (eVar 5) (eBin subD (eBlt lenC (aCons (eVar 5) aNil)) (eC (.int 1)))))) [some (.ref N), some (.ref Rw), a2, x3, some (.int (k : Int)), some (.lst (((rowOf xs (places xs)).take k).map .int)), a6, a7, some (.int (j : Int)), x9] M = .ok (okB (prevV xs none (places xs) k) (xs.getD j 0)) M := fun M hM x3 => by
      have ax := ix_l (isl_r hM) hx
      rw [v_rix] at ax
      have hl5 := len_l (M := M) (isl_v M ((rowOf xs (places xs)).take k))
      rw [hhl] at hl5
      cases k with
      | zero =>
        simp only [LD.v_lenO, LD.v_eqQi, LD.v_neQi, LD.v_mulGi, LD.q_Ins, LD.q_App, LD.okS_t, LD.v_isLst, LD.lstK_s, LD.v_app, LD.q_Rev, LD.lsK_s, LD.q_Get, LD.getKK_s, LD.v_lsL, LD.v_keyI, LD.v_keyS, Option.isSome_some, Option.isSome_none, Option.getD_some, Option.getD_none, LD.v_eqs, LD.v_nes, LD.v_isiBb, LD.q_C, LD.q_Var, LD.q_Bin, LD.q_Un, LD.q_tOf, LD.q_tCmp, LD.q_tAnd, LD.q_tOr, LD.q_tNot, LD.q_And, LD.q_Or, LD.q_Not, LD.q_If, LD.q_Nil, LD.q_Cons, LD.q_Tup, LD.q_Lst, LD.q_LstM, LD.q_Call, LD.q_Meth, LD.q_Attr, LD.q_Blt, LD.q_Comp, LD.q_iOf, LD.srcK_s, LD.v_truB, LD.v_truL, LD.v_truN, LD.v_srcL, LD.v_neg, LD.q_iRange, LD.q_Next, LD.q_Seq, LD.q_Expr, LD.q_Ret, LD.q_RetN, LD.q_SIf, LD.q_Bk, LD.q_Ct, LD.q_Asg, LD.q_Nm, LD.q_Sub, LD.q_Del, LD.q_Fld, LD.q_Dic, LD.q_For, LD.wipeD, Bool.not_true, Bool.not_false, LD.ifT, LD.le0, LD.le1, LD.le2, LD.le3, LD.le4, LD.le5, LD.le6, LD.cmpK_l, LD.nn_n, LD.nn_i, LD.nn_t, LD.nn_l, LD.nn_r, LD.nn_b, LD.nn_s, LD.nonK_n, LD.okK_o, LD.bind_k, LD.bind_b, LD.bind_e, LD.bindS_k, LD.bindS_e, LD.ofO_s, LD.getV_s, LD.truK_s, LD.blK_b, LD.refK_r, LD.insK_i, LD.lookK_s, LD.lookK_n, LD.refS_r, LD.insS_i, LD.lookS_s, LD.seq_n, LD.seq_r, LD.seq_b, LD.seq_c, LD.seq_e, LD.storeK_s, LD.memK_s, LD.endF_n, LD.endF_r, LD.endF_e, LD.pick_t, LD.pick_f, LD.finL_f, LD.finL_t, LD.v_add, LD.v_sub, LD.v_mulR, LD.v_fdiv, LD.v_mod, LD.v_int, LD.v_lt, LD.v_le, LD.v_gt, LD.v_ge, LD.v_eq, LD.v_ne, LD.v_len, LD.v_tix, LD.v_lix, LD.v_rix, LD.rixK_l, LD.rixK_d, LD.v_isN, LD.v_isnN, LD.v_isNone, LD.v_isNoneN, LD.startD, List.length_cons, List.length_nil, List.map_cons, List.map_nil, List.cons_append, List.nil_append, List.append_nil, List.getElem?_cons_zero, List.getElem?_cons_succ, List.set_cons_zero, List.set_cons_succ, List.replicate_succ, List.replicate_zero, Nat.reduceAdd, Nat.reduceSub, Nat.reduceBEq, Int.reduceLT, Int.reduceNeg, Int.reduceLE, Nat.reduceLeDiff, Nat.reduceLT, List.lookup_cons, List.lookup_nil, beq_self_eq_true, Option.map_some, Option.map_none, hl5]
        rfl
      | succ k =>
        have hz : ((((k + 1 : Nat) : Int)) == 0) = false := beq_eq_false_iff_ne.mpr (by omega)
        have hy : ((rowOf xs (places xs)).take (k + 1))[k]? = some (xs.getD ((places xs).getD k 0) 0) := by
          rw [List.getElem?_take, if_pos (by omega)]
          unfold rowOf
          rw [List.getElem?_map, getD_nat (by omega)] <;> rfl
        have ay : atI (List.map D.int (List.take (k + 1) (rowOf xs (places xs)))) (k : Int) = some (.int (xs.getD ((places xs).getD k 0) 0)) := atN (by rw [List.getElem?_map, hy] <;> rfl)
        have hln : (((List.map D.int (List.take (k + 1) (rowOf xs (places xs)))).length : Nat) : Int) - 1 = (k : Int) := by rw [List.length_map, hhl]; omega
        have hln0 : ((((List.map D.int (List.take (k + 1) (rowOf xs (places xs)))).length : Nat) : Int) == 0) = false := beq_eq_false_iff_ne.mpr (by rw [List.length_map, hhl]; omega)
        simp only [LD.v_lenO, LD.v_eqQi, LD.v_neQi, LD.v_mulGi, LD.q_Ins, LD.q_App, LD.okS_t, LD.v_isLst, LD.lstK_s, LD.v_app, LD.q_Rev, LD.lsK_s, LD.q_Get, LD.getKK_s, LD.v_lsL, LD.v_keyI, LD.v_keyS, Option.isSome_some, Option.isSome_none, Option.getD_some, Option.getD_none, LD.v_eqs, LD.v_nes, LD.v_isiBb, LD.q_C, LD.q_Var, LD.q_Bin, LD.q_Un, LD.q_tOf, LD.q_tCmp, LD.q_tAnd, LD.q_tOr, LD.q_tNot, LD.q_And, LD.q_Or, LD.q_Not, LD.q_If, LD.q_Nil, LD.q_Cons, LD.q_Tup, LD.q_Lst, LD.q_LstM, LD.q_Call, LD.q_Meth, LD.q_Attr, LD.q_Blt, LD.q_Comp, LD.q_iOf, LD.srcK_s, LD.v_truB, LD.v_truL, LD.v_truN, LD.v_srcL, LD.v_neg, LD.q_iRange, LD.q_Next, LD.q_Seq, LD.q_Expr, LD.q_Ret, LD.q_RetN, LD.q_SIf, LD.q_Bk, LD.q_Ct, LD.q_Asg, LD.q_Nm, LD.q_Sub, LD.q_Del, LD.q_Fld, LD.q_Dic, LD.q_For, LD.wipeD, Bool.not_true, Bool.not_false, LD.ifT, LD.le0, LD.le1, LD.le2, LD.le3, LD.le4, LD.le5, LD.le6, LD.cmpK_l, LD.nn_n, LD.nn_i, LD.nn_t, LD.nn_l, LD.nn_r, LD.nn_b, LD.nn_s, LD.nonK_n, LD.okK_o, LD.bind_k, LD.bind_b, LD.bind_e, LD.bindS_k, LD.bindS_e, LD.ofO_s, LD.getV_s, LD.truK_s, LD.blK_b, LD.refK_r, LD.insK_i, LD.lookK_s, LD.lookK_n, LD.refS_r, LD.insS_i, LD.lookS_s, LD.seq_n, LD.seq_r, LD.seq_b, LD.seq_c, LD.seq_e, LD.storeK_s, LD.memK_s, LD.endF_n, LD.endF_r, LD.endF_e, LD.pick_t, LD.pick_f, LD.finL_f, LD.finL_t, LD.v_add, LD.v_sub, LD.v_mulR, LD.v_fdiv, LD.v_mod, LD.v_int, LD.v_lt, LD.v_le, LD.v_gt, LD.v_ge, LD.v_eq, LD.v_ne, LD.v_len, LD.v_tix, LD.v_lix, LD.v_rix, LD.rixK_l, LD.rixK_d, LD.v_isN, LD.v_isnN, LD.v_isNone, LD.v_isNoneN, LD.startD, List.length_cons, List.length_nil, List.map_cons, List.map_nil, List.cons_append, List.nil_append, List.append_nil, List.getElem?_cons_zero, List.getElem?_cons_succ, List.set_cons_zero, List.set_cons_succ, List.replicate_succ, List.replicate_zero, Nat.reduceAdd, Nat.reduceSub, Nat.reduceBEq, Int.reduceLT, Int.reduceNeg, Int.reduceLE, Nat.reduceLeDiff, Nat.reduceLT, List.lookup_cons, List.lookup_nil, beq_self_eq_true, Option.map_some, Option.map_none, hln0, ax, hln, ay]
        rfl
    cases hok : okB (prevV xs none (places xs) k) (xs.getD j 0) with
    | false =>
      obtain ⟨M', y8, y9, e1, e2⟩ := right_in hk (a2 := a2) (a6 := a6) (a7 := a7) d (j + 1) M (some (.int (j : Int))) x9 (by omega) (by omega) e
      refine ⟨M', y8, y9, fun x3 => ?_, e2⟩
      rw [List.range'_succ, List.map_cons]
      refine (forV_c (s1 := [some (.ref N), some (.ref Rw), a2, x3, some (.int (k : Int)), some (.lst (((rowOf xs (places xs)).take k).map .int)), a6, a7, some (.int (j : Int)), x9]) (s2 := [some (.ref N), some (.ref Rw), a2, x3, some (.int (k : Int)), some (.lst (((rowOf xs (places xs)).take k).map .int)), a6, a7, some (.int (j : Int)), x9]) (M2 := M) rfl rfl ?_).trans (e1 x3)
      have hc := hcond M gN x3
      rw [hok] at hc
      unfold β__law_right_12
      rw [q_Seq, q_SIf, hc]
      simp only [LD.v_lenO, LD.v_eqQi, LD.v_neQi, LD.v_mulGi, LD.q_Ins, LD.q_App, LD.okS_t, LD.v_isLst, LD.lstK_s, LD.v_app, LD.q_Rev, LD.lsK_s, LD.q_Get, LD.getKK_s, LD.v_lsL, LD.v_keyI, LD.v_keyS, Option.isSome_some, Option.isSome_none, Option.getD_some, Option.getD_none, LD.v_eqs, LD.v_nes, LD.v_isiBb, LD.q_C, LD.q_Var, LD.q_Bin, LD.q_Un, LD.q_tOf, LD.q_tCmp, LD.q_tAnd, LD.q_tOr, LD.q_tNot, LD.q_And, LD.q_Or, LD.q_Not, LD.q_If, LD.q_Nil, LD.q_Cons, LD.q_Tup, LD.q_Lst, LD.q_LstM, LD.q_Call, LD.q_Meth, LD.q_Attr, LD.q_Blt, LD.q_Comp, LD.q_iOf, LD.srcK_s, LD.v_truB, LD.v_truL, LD.v_truN, LD.v_srcL, LD.v_neg, LD.q_iRange, LD.q_Next, LD.q_Seq, LD.q_Expr, LD.q_Ret, LD.q_RetN, LD.q_SIf, LD.q_Bk, LD.q_Ct, LD.q_Asg, LD.q_Nm, LD.q_Sub, LD.q_Del, LD.q_Fld, LD.q_Dic, LD.q_For, LD.wipeD, Bool.not_true, Bool.not_false, LD.ifT, LD.le0, LD.le1, LD.le2, LD.le3, LD.le4, LD.le5, LD.le6, LD.cmpK_l, LD.nn_n, LD.nn_i, LD.nn_t, LD.nn_l, LD.nn_r, LD.nn_b, LD.nn_s, LD.nonK_n, LD.okK_o, LD.bind_k, LD.bind_b, LD.bind_e, LD.bindS_k, LD.bindS_e, LD.ofO_s, LD.getV_s, LD.truK_s, LD.blK_b, LD.refK_r, LD.insK_i, LD.lookK_s, LD.lookK_n, LD.refS_r, LD.insS_i, LD.lookS_s, LD.seq_n, LD.seq_r, LD.seq_b, LD.seq_c, LD.seq_e, LD.storeK_s, LD.memK_s, LD.endF_n, LD.endF_r, LD.endF_e, LD.pick_t, LD.pick_f, LD.finL_f, LD.finL_t, LD.v_add, LD.v_sub, LD.v_mulR, LD.v_fdiv, LD.v_mod, LD.v_int, LD.v_lt, LD.v_le, LD.v_gt, LD.v_ge, LD.v_eq, LD.v_ne, LD.v_len, LD.v_tix, LD.v_lix, LD.v_rix, LD.rixK_l, LD.rixK_d, LD.v_isN, LD.v_isnN, LD.v_isNone, LD.v_isNoneN, LD.startD, List.length_cons, List.length_nil, List.map_cons, List.map_nil, List.cons_append, List.nil_append, List.append_nil, List.getElem?_cons_zero, List.getElem?_cons_succ, List.set_cons_zero, List.set_cons_succ, List.replicate_succ, List.replicate_zero, Nat.reduceAdd, Nat.reduceSub, Nat.reduceBEq, Int.reduceLT, Int.reduceNeg, Int.reduceLE, Nat.reduceLeDiff, Nat.reduceLT, List.lookup_cons, List.lookup_nil, beq_self_eq_true, Option.map_some, Option.map_none]
    | true =>
      have hskip := pick_skip (xs := xs) xs none (best lt xs) 0 List.drop_zero k j hk hp (by show j < (places xs).getD k 0; omega) hok
      rw [← places_len xs] at hskip
      have hrest := rest_eq nd hd
      generalize hre : (xs.drop j).filter (fun y => decide (xs.getD j 0 ≤ y)) = rest at hrest
      have hrl : rest.length < 1000 := by
        rw [← hre]
        have := List.length_filter_le (fun y => decide (xs.getD j 0 ≤ y)) (xs.drop j)
        rw [List.length_drop] at this
        omega
      have hne : rest ≠ [] := fun z => by
        have : xs.getD j 0 ∈ rest := by rw [← hre]; exact List.mem_filter.mpr ⟨by rw [hd]; exact List.mem_cons_self, decide_eq_true (Int.le_refl _)⟩
        rw [z] at this
        cases this
      have hsl := slice_fr (k := j) gN (by rw [List.length_map]; omega)
      rw [← List.map_drop] at hsl
      have hLd : ((xs.drop j).map D.int).length ≤ LINE := by rw [List.length_map, List.length_drop]; omega
      have hcm : ∀ x3 : Option D, compV (fun _ => true) (gNm 3) (tCmp (boD geB) (eVar 3) (eBin ixD (eVar 0) (eVar 8))) (eVar 3) [some (.ref N), some (.ref Rw), a2, none, some (.int (k : Int)), some (.lst (((rowOf xs (places xs)).take k).map .int)), a6, a7, some (.int (j : Int)), x9] ((xs.drop j).map D.int) M = .ok (rest.map D.int) M := fun _ => by
        rw [← hre]
        refine compV_map (e := fun y : Int => D.int y) (g := fun y : Int => D.int y) (p := fun y : Int => decide (xs.getD j 0 ≤ y)) rfl fun y _ => ⟨[some (.ref N), some (.ref Rw), a2, some (.int y), some (.int (k : Int)), some (.lst (((rowOf xs (places xs)).take k).map .int)), a6, a7, some (.int (j : Int)), x9], rfl, ?_, fun _ => rfl⟩
        simp only [LD.v_lenO, LD.v_eqQi, LD.v_neQi, LD.v_mulGi, LD.q_Ins, LD.q_App, LD.okS_t, LD.v_isLst, LD.lstK_s, LD.v_app, LD.q_Rev, LD.lsK_s, LD.q_Get, LD.getKK_s, LD.v_lsL, LD.v_keyI, LD.v_keyS, Option.isSome_some, Option.isSome_none, Option.getD_some, Option.getD_none, LD.v_eqs, LD.v_nes, LD.v_isiBb, LD.q_C, LD.q_Var, LD.q_Bin, LD.q_Un, LD.q_tOf, LD.q_tCmp, LD.q_tAnd, LD.q_tOr, LD.q_tNot, LD.q_And, LD.q_Or, LD.q_Not, LD.q_If, LD.q_Nil, LD.q_Cons, LD.q_Tup, LD.q_Lst, LD.q_LstM, LD.q_Call, LD.q_Meth, LD.q_Attr, LD.q_Blt, LD.q_Comp, LD.q_iOf, LD.srcK_s, LD.v_truB, LD.v_truL, LD.v_truN, LD.v_srcL, LD.v_neg, LD.q_iRange, LD.q_Next, LD.q_Seq, LD.q_Expr, LD.q_Ret, LD.q_RetN, LD.q_SIf, LD.q_Bk, LD.q_Ct, LD.q_Asg, LD.q_Nm, LD.q_Sub, LD.q_Del, LD.q_Fld, LD.q_Dic, LD.q_For, LD.wipeD, Bool.not_true, Bool.not_false, LD.ifT, LD.le0, LD.le1, LD.le2, LD.le3, LD.le4, LD.le5, LD.le6, LD.cmpK_l, LD.nn_n, LD.nn_i, LD.nn_t, LD.nn_l, LD.nn_r, LD.nn_b, LD.nn_s, LD.nonK_n, LD.okK_o, LD.bind_k, LD.bind_b, LD.bind_e, LD.bindS_k, LD.bindS_e, LD.ofO_s, LD.getV_s, LD.truK_s, LD.blK_b, LD.refK_r, LD.insK_i, LD.lookK_s, LD.lookK_n, LD.refS_r, LD.insS_i, LD.lookS_s, LD.seq_n, LD.seq_r, LD.seq_b, LD.seq_c, LD.seq_e, LD.storeK_s, LD.memK_s, LD.endF_n, LD.endF_r, LD.endF_e, LD.pick_t, LD.pick_f, LD.finL_f, LD.finL_t, LD.v_add, LD.v_sub, LD.v_mulR, LD.v_fdiv, LD.v_mod, LD.v_int, LD.v_lt, LD.v_le, LD.v_gt, LD.v_ge, LD.v_eq, LD.v_ne, LD.v_len, LD.v_tix, LD.v_lix, LD.v_rix, LD.rixK_l, LD.rixK_d, LD.v_isN, LD.v_isnN, LD.v_isNone, LD.v_isNoneN, LD.startD, List.length_cons, List.length_nil, List.map_cons, List.map_nil, List.cons_append, List.nil_append, List.append_nil, List.getElem?_cons_zero, List.getElem?_cons_succ, List.set_cons_zero, List.set_cons_succ, List.replicate_succ, List.replicate_zero, Nat.reduceAdd, Nat.reduceSub, Nat.reduceBEq, Int.reduceLT, Int.reduceNeg, Int.reduceLE, Nat.reduceLeDiff, Nat.reduceLT, List.lookup_cons, List.lookup_nil, beq_self_eq_true, Option.map_some, Option.map_none, gN, ax']
      have ell := llens_eq (stab_v M rest) hrl
      have hmx := max_r (M := M ++ [.lst (natsD (elen rest))]) (i := M.length) app_at (l := elen rest) (fun z => hne (List.length_eq_zero_iff.mp (by rw [← elen_len, z]; rfl)))
      rw [hrest] at hmx
      have gR2 : (M ++ [DO.lst (natsD (elen rest))])[Rw]? = some (.lst ((rowOf xs (places xs)).map .int)) := by rw [app_old (lt_of gR)]; exact gR
      have hlr := len_l (isl_r gR2)
      rw [rl] at hlr
      have hneq : (((k : Int) + ((lenAt xs j : Nat) : Int)) == ((places xs).length : Int)) = false := beq_eq_false_iff_ne.mpr (by omega)
      obtain ⟨M', y8, y9, e1, e2⟩ := right_in hk (a2 := a2) (a6 := a6) (a7 := a7) d (j + 1) (M ++ [.lst (natsD (elen rest))]) (some (.int (j : Int))) (some (.lst (rest.map .int))) (by omega) (by omega) (e.trans Ext.app)
      refine ⟨M', y8, y9, fun x3 => ?_, e2⟩
      rw [List.range'_succ, List.map_cons]
      refine (forV_c (s1 := [some (.ref N), some (.ref Rw), a2, x3, some (.int (k : Int)), some (.lst (((rowOf xs (places xs)).take k).map .int)), a6, a7, some (.int (j : Int)), x9]) (s2 := [some (.ref N), some (.ref Rw), a2, x3, some (.int (k : Int)), some (.lst (((rowOf xs (places xs)).take k).map .int)), a6, a7, some (.int (j : Int)), some (.lst (rest.map .int))]) (M2 := M ++ [.lst (natsD (elen rest))]) rfl rfl ?_).trans (e1 x3)
      have hc := hcond M gN x3
      rw [hok] at hc
      have hc2 := hcm x3
      unfold β__law_right_12
      rw [q_Seq, q_SIf, hc]
      simp only [LD.v_lenO, LD.v_eqQi, LD.v_neQi, LD.v_mulGi, LD.q_Ins, LD.q_App, LD.okS_t, LD.v_isLst, LD.lstK_s, LD.v_app, LD.q_Rev, LD.lsK_s, LD.q_Get, LD.getKK_s, LD.v_lsL, LD.v_keyI, LD.v_keyS, Option.isSome_some, Option.isSome_none, Option.getD_some, Option.getD_none, LD.v_eqs, LD.v_nes, LD.v_isiBb, LD.q_C, LD.q_Var, LD.q_Bin, LD.q_Un, LD.q_tOf, LD.q_tCmp, LD.q_tAnd, LD.q_tOr, LD.q_tNot, LD.q_And, LD.q_Or, LD.q_Not, LD.q_If, LD.q_Nil, LD.q_Cons, LD.q_Tup, LD.q_Lst, LD.q_LstM, LD.q_Call, LD.q_Meth, LD.q_Attr, LD.q_Blt, LD.q_Comp, LD.q_iOf, LD.srcK_s, LD.v_truB, LD.v_truL, LD.v_truN, LD.v_srcL, LD.v_neg, LD.q_iRange, LD.q_Next, LD.q_Seq, LD.q_Expr, LD.q_Ret, LD.q_RetN, LD.q_SIf, LD.q_Bk, LD.q_Ct, LD.q_Asg, LD.q_Nm, LD.q_Sub, LD.q_Del, LD.q_Fld, LD.q_Dic, LD.q_For, LD.wipeD, Bool.not_true, Bool.not_false, LD.ifT, LD.le0, LD.le1, LD.le2, LD.le3, LD.le4, LD.le5, LD.le6, LD.cmpK_l, LD.nn_n, LD.nn_i, LD.nn_t, LD.nn_l, LD.nn_r, LD.nn_b, LD.nn_s, LD.nonK_n, LD.okK_o, LD.bind_k, LD.bind_b, LD.bind_e, LD.bindS_k, LD.bindS_e, LD.ofO_s, LD.getV_s, LD.truK_s, LD.blK_b, LD.refK_r, LD.insK_i, LD.lookK_s, LD.lookK_n, LD.refS_r, LD.insS_i, LD.lookS_s, LD.seq_n, LD.seq_r, LD.seq_b, LD.seq_c, LD.seq_e, LD.storeK_s, LD.memK_s, LD.endF_n, LD.endF_r, LD.endF_e, LD.pick_t, LD.pick_f, LD.finL_f, LD.finL_t, LD.v_add, LD.v_sub, LD.v_mulR, LD.v_fdiv, LD.v_mod, LD.v_int, LD.v_lt, LD.v_le, LD.v_gt, LD.v_ge, LD.v_eq, LD.v_ne, LD.v_len, LD.v_tix, LD.v_lix, LD.v_rix, LD.rixK_l, LD.rixK_d, LD.v_isN, LD.v_isnN, LD.v_isNone, LD.v_isNoneN, LD.startD, List.length_cons, List.length_nil, List.map_cons, List.map_nil, List.cons_append, List.nil_append, List.append_nil, List.getElem?_cons_zero, List.getElem?_cons_succ, List.set_cons_zero, List.set_cons_succ, List.replicate_succ, List.replicate_zero, Nat.reduceAdd, Nat.reduceSub, Nat.reduceBEq, Int.reduceLT, Int.reduceNeg, Int.reduceLE, Nat.reduceLeDiff, Nat.reduceLT, List.lookup_cons, List.lookup_nil, beq_self_eq_true, Option.map_some, Option.map_none, q_Slice, q_oSome, q_oNone, soK_i, hsl, cmpK_l hLd, hc2, ell, hmx, hlr, hneq]
end
end K30
namespace K30
open PySem PySem.Spec PyProof.Rows L2 LD
theorem places_bd {xs : List Int} (hlx : xs.length < 1000) {k : Nat} (hk : k < (places xs).length) : (places xs).getD k 0 < 1000 := by
  have hG : (places xs).getD k 0 ∈ places xs := by
    rw [List.getD_eq_getElem?_getD, List.getElem?_eq_getElem hk]
    exact List.getElem_mem _
  have := places_lt hG
  omega
theorem places_bd2 {xs : List Int} (hlx : xs.length < 1000) : (places xs).length ≤ xs.length := by
  have h := pick_inc xs none (best lt xs) 0
  rw [places_len]
  obtain ⟨s, h1, h2, h3⟩ := best_ex lt_tr xs
  rw [← h3]
  exact h1.length_le
section
variable {B : Mem} {N Rw Pl : Nat} {xs : List Int} (nd : xs.Nodup) (hlx : xs.length < 1000) (hN : B[N]? = some (.lst (xs.map .int))) (hR : B[Rw]? = some (.lst ((rowOf xs (places xs)).map .int))) (hP : B[Pl]? = some (.lst (natsD (places xs))))
include nd hlx hN hR hP
theorem right_out {x3 : Option D} : ∀ (d k : Nat) (M : Mem) (x4 x5 x6 x7 x8 x9 : Option D), k + d = (places xs).length → Ext B M → ∃ M' y4 y5 y6 y7 y8 y9, forV (fun _ => true) (gNm 4) β__law_right_8 ((List.range' k d).map fun i : Nat => D.int (i : Int)) [some (.ref N), some (.ref Rw), some (.ref Pl), x3, x4, x5, x6, x7, x8, x9] M = .nx [some (.ref N), some (.ref Rw), some (.ref Pl), x3, y4, y5, y6, y7, y8, y9] M' ∧ Ext B M'
  | 0, k, M, x4, x5, x6, x7, x8, x9, hk, e => ⟨M, x4, x5, x6, x7, x8, x9, forV_n rfl, e⟩
  | d + 1, k, M, x4, x5, x6, x7, x8, x9, hk, e => by
    have hb := big
    have hkl : k < (places xs).length := by omega
    have hGb := places_bd hlx hkl
    have gP := e.at' hP
    have gR := e.at' hR
    have aP := natsD_at (getD_nat hkl)
    have rl := rowOf_len xs (places xs)
    have hpl := places_bd2 hlx
    have hprev : prevP 0 (places xs) k ≤ (places xs).getD k 0 := by
      cases k with
      | zero => exact Nat.zero_le _
      | succ k =>
        have h := pick_inc xs none (best lt xs) 0
        have h : (places xs).Pairwise (· < ·) := h
        have h1 : k < (places xs).length := by omega
        have := List.pairwise_iff_getElem.mp h k (k + 1) h1 hkl (Nat.lt_succ_self _)
        show (places xs).getD k 0 + 1 ≤ _
        rw [List.getD_eq_getElem?_getD, List.getD_eq_getElem?_getD, List.getElem?_eq_getElem hkl, List.getElem?_eq_getElem h1]
        exact this
    obtain ⟨M1, z8, z9, e1, e2⟩ := right_in nd hlx hN hR hP hkl (a2 := some (.ref Pl)) (a6 := some (.int (((places xs).getD k 0 : Nat) : Int))) (a7 := some (.int (((prevP 0 (places xs) k : Nat) : Int) - 1))) ((places xs).getD k 0 - prevP 0 (places xs) k) (prevP 0 (places xs) k) M x8 x9 (by omega) (Nat.le_refl _) e
    obtain ⟨M', y4, y5, y6, y7, y8, y9, e3, e4⟩ := right_out d (k + 1) M1 (some (.int (k : Int))) (some (.lst (((rowOf xs (places xs)).take k).map .int))) (some (.int (((places xs).getD k 0 : Nat) : Int))) (some (.int (((prevP 0 (places xs) k : Nat) : Int) - 1))) z8 z9 (by omega) e2
    refine ⟨M', y4, y5, y6, y7, y8, y9, ?_, e4⟩
    rw [List.range'_succ, List.map_cons]
    refine (forV_c (s1 := [some (.ref N), some (.ref Rw), some (.ref Pl), x3, some (.int (k : Int)), x5, x6, x7, x8, x9]) rfl rfl ?_).trans e3
    have hsl := slice_to (k := k) gR (by rw [List.length_map]; omega)
    rw [← List.map_take] at hsl
    have hadd : addD (.lst [.int (-1)]) (.ref Pl) M = some (.lst (.int (-1) :: natsD (places xs)), M) := add_lr (a := [.int (-1)]) (v_lsR gP) (by show 1 + (natsD (places xs)).length ≤ _; rw [natsD_len]; omega)
    have hs0 : ∀ M : Mem, subD (.int 0) (.int 1) M = some (.int (-1), M) := fun _ => rfl
    have hat : atI (.int (-1) :: natsD (places xs)) (k : Int) = some (.int (((prevP 0 (places xs) k : Nat) : Int) - 1)) := by
      cases k with
      | zero => exact atN (n := 0) rfl
      | succ k =>
        have h1 : k < (places xs).length := by omega
        refine atN (n := k + 1) ?_
        rw [List.getElem?_cons_succ]
        unfold natsD
        rw [List.getElem?_map, List.getElem?_map, getD_nat h1]
        show some (D.int (((places xs).getD k 0 : Nat) : Int)) = some (D.int ((((places xs).getD k 0 + 1 : Nat) : Int) - 1))
        congr 2
        omega
    have hp1 : ((prevP 0 (places xs) k : Nat) : Int) - 1 + 1 = ((prevP 0 (places xs) k : Nat) : Int) := by omega
    have hrn := rng2 (i := prevP 0 (places xs) k) (j := (places xs).getD k 0) (by omega) (by omega)
    have e1 := e1 x3
    unfold β__law_right_8
    simp only [LD.v_lenO, LD.v_eqQi, LD.v_neQi, LD.v_mulGi, LD.q_Ins, LD.q_App, LD.okS_t, LD.v_isLst, LD.lstK_s, LD.v_app, LD.q_Rev, LD.lsK_s, LD.q_Get, LD.getKK_s, LD.v_lsL, LD.v_keyI, LD.v_keyS, Option.isSome_some, Option.isSome_none, Option.getD_some, Option.getD_none, LD.v_eqs, LD.v_nes, LD.v_isiBb, LD.q_C, LD.q_Var, LD.q_Bin, LD.q_Un, LD.q_tOf, LD.q_tCmp, LD.q_tAnd, LD.q_tOr, LD.q_tNot, LD.q_And, LD.q_Or, LD.q_Not, LD.q_If, LD.q_Nil, LD.q_Cons, LD.q_Tup, LD.q_Lst, LD.q_LstM, LD.q_Call, LD.q_Meth, LD.q_Attr, LD.q_Blt, LD.q_Comp, LD.q_iOf, LD.srcK_s, LD.v_truB, LD.v_truL, LD.v_truN, LD.v_srcL, LD.v_neg, LD.q_iRange, LD.q_Next, LD.q_Seq, LD.q_Expr, LD.q_Ret, LD.q_RetN, LD.q_SIf, LD.q_Bk, LD.q_Ct, LD.q_Asg, LD.q_Nm, LD.q_Sub, LD.q_Del, LD.q_Fld, LD.q_Dic, LD.q_For, LD.wipeD, Bool.not_true, Bool.not_false, LD.ifT, LD.le0, LD.le1, LD.le2, LD.le3, LD.le4, LD.le5, LD.le6, LD.cmpK_l, LD.nn_n, LD.nn_i, LD.nn_t, LD.nn_l, LD.nn_r, LD.nn_b, LD.nn_s, LD.nonK_n, LD.okK_o, LD.bind_k, LD.bind_b, LD.bind_e, LD.bindS_k, LD.bindS_e, LD.ofO_s, LD.getV_s, LD.truK_s, LD.blK_b, LD.refK_r, LD.insK_i, LD.lookK_s, LD.lookK_n, LD.refS_r, LD.insS_i, LD.lookS_s, LD.seq_n, LD.seq_r, LD.seq_b, LD.seq_c, LD.seq_e, LD.storeK_s, LD.memK_s, LD.endF_n, LD.endF_r, LD.endF_e, LD.pick_t, LD.pick_f, LD.finL_f, LD.finL_t, LD.v_add, LD.v_sub, LD.v_mulR, LD.v_fdiv, LD.v_mod, LD.v_int, LD.v_lt, LD.v_le, LD.v_gt, LD.v_ge, LD.v_eq, LD.v_ne, LD.v_len, LD.v_tix, LD.v_lix, LD.v_rix, LD.rixK_l, LD.rixK_d, LD.v_isN, LD.v_isnN, LD.v_isNone, LD.v_isNoneN, LD.startD, List.length_cons, List.length_nil, List.map_cons, List.map_nil, List.cons_append, List.nil_append, List.append_nil, List.getElem?_cons_zero, List.getElem?_cons_succ, List.set_cons_zero, List.set_cons_succ, List.replicate_succ, List.replicate_zero, Nat.reduceAdd, Nat.reduceSub, Nat.reduceBEq, Int.reduceLT, Int.reduceNeg, Int.reduceLE, Nat.reduceLeDiff, Nat.reduceLT, List.lookup_cons, List.lookup_nil, beq_self_eq_true, Option.map_some, Option.map_none, q_Slice, q_oSome, q_oNone, soK_i, hsl, gP, aP, hs0, hadd, hat, hp1, hrn, e1]
end
theorem right_eq {M : Mem} {N Rw : Nat} {xs : List Int} (nd : xs.Nodup) (hlx : xs.length < 1000) (hN : M[N]? = some (.lst (xs.map .int))) (hR : M[Rw]? = some (.lst ((rowOf xs (places xs)).map .int))) : ∃ M', φ__law_right [.ref N, .ref Rw] M = .ok (.bl true) M' ∧ Ext M M' := by
  have hb := big
  have hpl := places_bd2 hlx
  have rl := rowOf_len xs (places xs)
  obtain ⟨y3, e1⟩ := pl_loop nd hN hR (a4 := none) (a5 := none) (a6 := none) (a7 := none) (a8 := none) (a9 := none) (places xs) [] none (fun q hq => places_lt hq) (by show 0 + _ < _; omega)
  rw [List.nil_append] at e1
  have e1 : forV (mutChk Rw ((rowOf xs (places xs)).map D.int)) (gNm 3) β__law_right_2 ((rowOf xs (places xs)).map .int) [some (.ref N), some (.ref Rw), some (.ref M.length), none, none, none, none, none, none, none] (M ++ [.lst []]) = .nx [some (.ref N), some (.ref Rw), some (.ref M.length), y3, none, none, none, none, none, none] (M ++ [.lst (natsD (places xs))]) := e1
  have gR0 : (M ++ [DO.lst []])[Rw]? = some (.lst ((rowOf xs (places xs)).map .int)) := by rw [app_old (lt_of hR)]; exact hR
  have gR : (M ++ [DO.lst (natsD (places xs))])[Rw]? = some (.lst ((rowOf xs (places xs)).map .int)) := by rw [app_old (lt_of hR)]; exact hR
  have gN : (M ++ [DO.lst (natsD (places xs))])[N]? = some (.lst (xs.map .int)) := by rw [app_old (lt_of hN)]; exact hN
  have gP : (M ++ [DO.lst (natsD (places xs))])[M.length]? = some (.lst (natsD (places xs))) := app_at
  have r1 := rises_eq (isl_r (xs := (places xs).map fun n : Nat => (n : Int)) gP) (by rw [List.length_map]; omega)
  have hb1 : risB ((places xs).map fun n : Nat => (n : Int)) = true := (ris_iff _).mpr (List.pairwise_map.mpr ((pick_inc xs none (best lt xs) 0).imp fun h => Int.ofNat_lt.mpr h))
  have hb2 : risB (rowOf xs (places xs)) = true := (ris_iff _).mpr (pick_val xs none (best lt xs) 0 List.drop_zero).1
  rw [hb1] at r1
  have r2 := rises_eq (isl_r gR) (by omega)
  rw [hb2] at r2
  have ell := llens_eq (stab_r gN) hlx
  have hl2 : (M ++ [DO.lst (natsD (places xs))]).length = M.length + 1 := by rw [List.length_append] <;> rfl
  rw [hl2] at ell
  have gE : (M ++ [DO.lst (natsD (places xs))] ++ [DO.lst (natsD (elen xs))])[M.length + 1]? = some (.lst (natsD (elen xs))) := by rw [← hl2]; exact app_at
  have gR2 : (M ++ [DO.lst (natsD (places xs))] ++ [DO.lst (natsD (elen xs))])[Rw]? = some (.lst ((rowOf xs (places xs)).map .int)) := by rw [app_old (lt_of gR)]; exact gR
  have hlr := len_l (isl_r gR)
  rw [rl, places_len] at hlr
  have hadd := add_lr (a := [.int 0]) (v_lsR gE) (by show 1 + (natsD (elen xs)).length ≤ _; rw [natsD_len, elen_len]; omega)
  have hmx : ∀ M : Mem, maxC [.lst (.int 0 :: natsD (elen xs))] M = some (.int ((best lt xs : Nat) : Int), M) := fun M => by
    have := max_l (M := M) (l := 0 :: elen xs) (fun z => nomatch z)
    rw [show mxL (0 :: elen xs) = best lt xs from (Nat.max_eq_right (Nat.zero_le _)).trans (elen_max xs)] at this
    exact this
  have hlr2 := len_l (isl_r gR2)
  rw [rl] at hlr2
  have hrn : ∀ M : Mem, rngK [.int ((places xs).length : Int)] M = .ok ⟨(List.range' 0 (places xs).length).map fun j : Nat => D.int (j : Int), fun _ => true⟩ M := fun M => by
    rw [rngN (by omega) (by omega), Int.toNat_natCast, rng']
  obtain ⟨M', y4, y5, y6, y7, y8, y9, e2, e3⟩ := right_out (B := M ++ [.lst (natsD (places xs))] ++ [.lst (natsD (elen xs))]) nd hlx (by rw [app_old (lt_of gN)]; exact gN) gR2 (by rw [app_old (lt_of gP)]; exact gP) (x3 := y3) (places xs).length 0 _ none none none none none none (Nat.zero_add _) Ext.refl
  have hbb : (((best lt xs : Nat) : Int) == ((best lt xs : Nat) : Int)) = true := beq_self_eq_true _
  refine ⟨M', ?_, (Ext.app.trans Ext.app).trans e3⟩
  unfold φ__law_right
  refine run_def rfl ?_
  unfold ψ__law_right
  have hsrc : srcOf (M ++ [DO.lst []]) (.ref Rw) = some ⟨(rowOf xs (places xs)).map .int, mutChk Rw ((rowOf xs (places xs)).map D.int)⟩ := by
    simp only [srcOf, gR0]
    rfl
  simp only [LD.v_lenO, LD.v_eqQi, LD.v_neQi, LD.v_mulGi, LD.q_Ins, LD.q_App, LD.okS_t, LD.v_isLst, LD.lstK_s, LD.v_app, LD.q_Rev, LD.lsK_s, LD.q_Get, LD.getKK_s, LD.v_lsL, LD.v_keyI, LD.v_keyS, Option.isSome_some, Option.isSome_none, Option.getD_some, Option.getD_none, LD.v_eqs, LD.v_nes, LD.v_isiBb, LD.q_C, LD.q_Var, LD.q_Bin, LD.q_Un, LD.q_tOf, LD.q_tCmp, LD.q_tAnd, LD.q_tOr, LD.q_tNot, LD.q_And, LD.q_Or, LD.q_Not, LD.q_If, LD.q_Nil, LD.q_Cons, LD.q_Tup, LD.q_Lst, LD.q_LstM, LD.q_Call, LD.q_Meth, LD.q_Attr, LD.q_Blt, LD.q_Comp, LD.q_iOf, LD.srcK_s, LD.v_truB, LD.v_truL, LD.v_truN, LD.v_srcL, LD.v_neg, LD.q_iRange, LD.q_Next, LD.q_Seq, LD.q_Expr, LD.q_Ret, LD.q_RetN, LD.q_SIf, LD.q_Bk, LD.q_Ct, LD.q_Asg, LD.q_Nm, LD.q_Sub, LD.q_Del, LD.q_Fld, LD.q_Dic, LD.q_For, LD.wipeD, Bool.not_true, Bool.not_false, LD.ifT, LD.le0, LD.le1, LD.le2, LD.le3, LD.le4, LD.le5, LD.le6, LD.cmpK_l, LD.nn_n, LD.nn_i, LD.nn_t, LD.nn_l, LD.nn_r, LD.nn_b, LD.nn_s, LD.nonK_n, LD.okK_o, LD.bind_k, LD.bind_b, LD.bind_e, LD.bindS_k, LD.bindS_e, LD.ofO_s, LD.getV_s, LD.truK_s, LD.blK_b, LD.refK_r, LD.insK_i, LD.lookK_s, LD.lookK_n, LD.refS_r, LD.insS_i, LD.lookS_s, LD.seq_n, LD.seq_r, LD.seq_b, LD.seq_c, LD.seq_e, LD.storeK_s, LD.memK_s, LD.endF_n, LD.endF_r, LD.endF_e, LD.pick_t, LD.pick_f, LD.finL_f, LD.finL_t, LD.v_add, LD.v_sub, LD.v_mulR, LD.v_fdiv, LD.v_mod, LD.v_int, LD.v_lt, LD.v_le, LD.v_gt, LD.v_ge, LD.v_eq, LD.v_ne, LD.v_len, LD.v_tix, LD.v_lix, LD.v_rix, LD.rixK_l, LD.rixK_d, LD.v_isN, LD.v_isnN, LD.v_isNone, LD.v_isNoneN, LD.startD, List.length_cons, List.length_nil, List.map_cons, List.map_nil, List.cons_append, List.nil_append, List.append_nil, List.getElem?_cons_zero, List.getElem?_cons_succ, List.set_cons_zero, List.set_cons_succ, List.replicate_succ, List.replicate_zero, Nat.reduceAdd, Nat.reduceSub, Nat.reduceBEq, Int.reduceLT, Int.reduceNeg, Int.reduceLE, Nat.reduceLeDiff, Nat.reduceLT, List.lookup_cons, List.lookup_nil, beq_self_eq_true, Option.map_some, Option.map_none, hsrc, e1, r1, r2, hlr, ell, hadd, hmx, hbb, hlr2, hrn, e2]
end K30
namespace K30
open PySem PySem.Spec PyProof.Rows L2 LD
/-! ### all rows -/
def bitp (c i : Nat) : Bool := decide (c / 2 ^ i % 2 = 1)
def SS (n c : Nat) : List Nat := (List.range n).filter (bitp c)
def cmpP (a b : List Nat) : Bool := decide (b.length < a.length) || (decide (a.length = b.length) && HT.lexLt (a.map fun n : Nat => (n : Int)) (b.map fun n : Nat => (n : Int)))
def stp (xs : List Int) (acc : List Nat) (c : Nat) : List Nat := if (decide (c < 2 ^ xs.length) && risB (rowOf xs (SS xs.length c)) && cmpP (SS xs.length c) acc) = true then SS xs.length c else acc
theorem lex_irr : ∀ a : List Int, HT.lexLt a a = false
  | [] => rfl
  | x :: a => by rw [HT.lexLt_cons, if_pos rfl, lex_irr a]
theorem lex_asy : ∀ a b : List Int, HT.lexLt a b = true → HT.lexLt b a = false
  | [], [], h => rfl
  | [], y :: b, h => rfl
  | x :: a, [], h => by cases h
  | x :: a, y :: b, h => by
    rw [HT.lexLt_cons] at h ⊢
    by_cases e : x = y
    · rw [if_pos e] at h
      rw [if_pos e.symm]
      exact lex_asy a b h
    · rw [if_neg e] at h
      rw [if_neg (fun z => e z.symm)]
      have := of_decide_eq_true h
      exact decide_eq_false (by omega)
def Dom (G P : List Nat) : Prop := P = G ∨ P.length < G.length ∨ (P.length = G.length ∧ HT.lexLt (G.map fun n : Nat => (n : Int)) (P.map fun n : Nat => (n : Int)) = true)
theorem dom_no {G P : List Nat} (h : Dom G P) : cmpP P G = false := by
  unfold cmpP
  rcases h with h | h | ⟨h1, h2⟩
  · rw [h, lex_irr, decide_eq_false (Nat.lt_irrefl _), Bool.and_false] <;> rfl
  · rw [decide_eq_false (by omega), decide_eq_false (by omega)] <;> rfl
  · rw [lex_asy _ _ h2, decide_eq_false (by omega), Bool.and_false] <;> rfl
theorem dom_yes {G P : List Nat} (h : Dom G P) : P = G ∨ cmpP G P = true := by
  unfold cmpP
  rcases h with h | h | ⟨h1, h2⟩
  · exact .inl h
  · exact .inr (by rw [decide_eq_true h] <;> rfl)
  · exact .inr (by rw [h2, decide_eq_true h1.symm] <;> simp)
theorem ss_mem {n c p : Nat} (h : p ∈ SS n c) : p < n := List.mem_range.mp (List.mem_filter.mp h).1
theorem ss_inc (n c : Nat) : (SS n c).Pairwise (· < ·) := List.pairwise_lt_range.filter _
theorem ss_dom {xs : List Int} {c : Nat} (hr : risB (rowOf xs (SS xs.length c)) = true) : Dom (places xs) (SS xs.length c) := by
  have hv := (ris_iff _).mp hr
  have hsub : (rowOf xs (SS xs.length c)).Sublist xs := by
    have e : rowOf xs (List.range xs.length) = xs := by
      unfold rowOf
      apply List.ext_getElem
      · rw [List.length_map, List.length_range]
      · intro i h1 h2
        rw [List.getElem_map, List.getElem_range, List.getD_eq_getElem?_getD, List.getElem?_eq_getElem h2] <;> rfl
    have := (List.filter_sublist (p := bitp c) (l := List.range xs.length)).map fun p => xs.getD p 0
    have this : (rowOf xs (SS xs.length c)).Sublist (rowOf xs (List.range xs.length)) := this
    rw [e] at this
    exact this
  have hl : (rowOf xs (SS xs.length c)).length ≤ best lt xs := le_best (R := lt) hsub (hv.imp fun h => decide_eq_true h)
  rw [rowOf_len, ← places_len] at hl
  by_cases he : (SS xs.length c).length = (places xs).length
  · rcases pick_first (xs := xs) xs none (best lt xs) 0 (SS xs.length c) List.drop_zero (fun y l hy _ => le_mxL (List.mem_map.mpr ⟨(y, l), hy, rfl⟩)) (ss_inc _ _) (fun p hp => ⟨Nat.zero_le _, by have := ss_mem hp; omega⟩) hv (fun _ _ => rfl) (by rw [he, places_len]) with h | h
    · exact .inl h
    · exact .inr (.inr ⟨he, h⟩)
  · exact .inr (.inl (by omega))
theorem fold_keep {xs : List Int} : ∀ cs : List Nat, cs.foldl (stp xs) (places xs) = places xs
  | [] => rfl
  | c :: cs => by
    rw [List.foldl_cons]
    have : stp xs (places xs) c = places xs := by
      unfold stp
      split
      · rename_i h
        rw [Bool.and_eq_true, Bool.and_eq_true] at h
        have := dom_no (ss_dom h.1.2)
        rw [h.2] at this
        cases this
      · rfl
    rw [this, fold_keep cs]
theorem fold_find {xs : List Int} : ∀ (cs : List Nat) (acc : List Nat), Dom (places xs) acc → (∃ c ∈ cs, c < 2 ^ xs.length ∧ SS xs.length c = places xs) → cs.foldl (stp xs) acc = places xs
  | [], _, _, h => by obtain ⟨_, h, _⟩ := h; cases h
  | c :: cs, acc, hd, h => by
    rw [List.foldl_cons]
    obtain ⟨c', hc, h1, h2⟩ := h
    rcases List.mem_cons.mp hc with rfl | hc
    · have : stp xs acc c' = places xs := by
        rcases dom_yes hd with e | e
        · rw [e]; exact fold_keep [c']
        · have hr : risB (rowOf xs (places xs)) = true := (ris_iff _).mpr (pick_val xs none (best lt xs) 0 List.drop_zero).1
          unfold stp
          rw [h2, hr, e, decide_eq_true h1] <;> rfl
      rw [this, fold_keep]
    · refine fold_find cs _ ?_ ⟨c', hc, h1, h2⟩
      unfold stp
      split
      · rename_i h
        rw [Bool.and_eq_true, Bool.and_eq_true] at h
        exact ss_dom h.1.2
      · exact hd
theorem inc_ext : ∀ a b : List Nat, a.Pairwise (· < ·) → b.Pairwise (· < ·) → (∀ x, x ∈ a ↔ x ∈ b) → a = b
  | [], [], _, _, _ => rfl
  | [], y :: b, _, _, h => by cases (h y).mpr List.mem_cons_self
  | x :: a, [], _, _, h => by cases (h x).mp List.mem_cons_self
  | x :: a, y :: b, ha, hb, h => by
    obtain ⟨a1, a2⟩ := List.pairwise_cons.mp ha
    obtain ⟨b1, b2⟩ := List.pairwise_cons.mp hb
    have e : x = y := by
      have h1 := (h x).mp List.mem_cons_self
      have h2 := (h y).mpr List.mem_cons_self
      rcases List.mem_cons.mp h1 with h1 | h1
      · exact h1
      · rcases List.mem_cons.mp h2 with h2 | h2
        · exact h2.symm
        · have := a1 y h2
          have := b1 x h1
          omega
    subst e
    rw [inc_ext a b a2 b2 fun z => ?_]
    constructor
    · intro hz
      rcases List.mem_cons.mp ((h z).mp (List.mem_cons_of_mem _ hz)) with e | e
      · have := a1 z hz; omega
      · exact e
    · intro hz
      rcases List.mem_cons.mp ((h z).mpr (List.mem_cons_of_mem _ hz)) with e | e
      · have := b1 z hz; omega
      · exact e
def bN (G : List Nat) (i : Nat) : Nat := if i ∈ G then 1 else 0
theorem bN_le (G : List Nat) (i : Nat) : bN G i ≤ 1 := by unfold bN; split <;> omega
theorem set_ex {n : Nat} {G : List Nat} (hn : n < 8) (hi : G.Pairwise (· < ·)) (hG : ∀ p ∈ G, p < n) : ∃ c, c < 128 ∧ c < 2 ^ n ∧ SS n c = G := by
  have h0 := bN_le G 0
  have h1 := bN_le G 1
  have h2 := bN_le G 2
  have h3 := bN_le G 3
  have h4 := bN_le G 4
  have h5 := bN_le G 5
  have h6 := bN_le G 6
  have hz : ∀ i, n ≤ i → bN G i = 0 := fun i h => by
    unfold bN
    rw [if_neg fun z => by have := hG i z; omega]
  refine ⟨bN G 0 + 2 * bN G 1 + 4 * bN G 2 + 8 * bN G 3 + 16 * bN G 4 + 32 * bN G 5 + 64 * bN G 6, by omega, ?_, ?_⟩
  · have z0 := hz 0
    have z1 := hz 1
    have z2 := hz 2
    have z3 := hz 3
    have z4 := hz 4
    have z5 := hz 5
    have z6 := hz 6
    match n, hn with
    | 0, _ => show _ < 1; omega
    | 1, _ => show _ < 2; omega
    | 2, _ => show _ < 4; omega
    | 3, _ => show _ < 8; omega
    | 4, _ => show _ < 16; omega
    | 5, _ => show _ < 32; omega
    | 6, _ => show _ < 64; omega
    | 7, _ => show _ < 128; omega
    | n + 8, h => omega
  · generalize hc : bN G 0 + 2 * bN G 1 + 4 * bN G 2 + 8 * bN G 3 + 16 * bN G 4 + 32 * bN G 5 + 64 * bN G 6 = c
    have hb : ∀ i, i < 7 → c / 2 ^ i % 2 = bN G i := fun i h => by
      match i, h with
      | 0, _ => show c / 1 % 2 = _; omega
      | 1, _ => show c / 2 % 2 = _; omega
      | 2, _ => show c / 4 % 2 = _; omega
      | 3, _ => show c / 8 % 2 = _; omega
      | 4, _ => show c / 16 % 2 = _; omega
      | 5, _ => show c / 32 % 2 = _; omega
      | 6, _ => show c / 64 % 2 = _; omega
      | i + 7, h => omega
    refine inc_ext _ _ (ss_inc _ _) hi fun x => ?_
    unfold SS bitp
    rw [List.mem_filter, List.mem_range, decide_eq_true_eq]
    constructor
    · rintro ⟨h, e⟩
      rw [hb x (by omega)] at e
      unfold bN at e
      split at e
      · assumption
      · omega
    · intro h
      have hx := hG x h
      refine ⟨hx, ?_⟩
      rw [hb x (by omega)]
      unfold bN
      rw [if_pos h]
theorem fold_all {xs : List Int} (h : xs.length < 8) : (List.range' 0 128).foldl (stp xs) [] = places xs := by
  obtain ⟨c, h1, h2, h3⟩ := set_ex h (pick_inc xs none (best lt xs) 0) (fun p hp => places_lt hp)
  refine fold_find _ [] ?_ ⟨c, List.mem_range'_1.mpr ⟨Nat.zero_le _, by omega⟩, h2, h3⟩
  by_cases e : (places xs).length = 0
  · exact .inl (List.length_eq_zero_iff.mp e).symm
  · exact .inr (.inl (Nat.pos_of_ne_zero e))
theorem pow7 : ∀ q : Nat, q < 7 → atI [D.int 1, .int 2, .int 4, .int 8, .int 16, .int 32, .int 64] (q : Int) = some (.int ((2 ^ q : Nat) : Int))
  | 0, _ => rfl
  | 1, _ => rfl
  | 2, _ => rfl
  | 3, _ => rfl
  | 4, _ => rfl
  | 5, _ => rfl
  | 6, _ => rfl
  | q + 7, h => by omega
theorem pow8 : ∀ q : Nat, q < 8 → atI [D.int 1, .int 2, .int 4, .int 8, .int 16, .int 32, .int 64, .int 128] (q : Int) = some (.int ((2 ^ q : Nat) : Int))
  | 0, _ => rfl
  | 1, _ => rfl
  | 2, _ => rfl
  | 3, _ => rfl
  | 4, _ => rfl
  | 5, _ => rfl
  | 6, _ => rfl
  | 7, _ => rfl
  | q + 8, h => by omega
theorem pow_lt : ∀ q : Nat, q < 7 → 2 ^ q < 100
  | 0, _ => by decide
  | 1, _ => by decide
  | 2, _ => by decide
  | 3, _ => by decide
  | 4, _ => by decide
  | 5, _ => by decide
  | 6, _ => by decide
  | q + 7, h => by omega
theorem lt_nats {M : Mem} {a b : List Nat} : boD ltG (.lst (natsD a)) (.lst (natsD b)) M = some (.bl (HT.lexLt (a.map fun n : Nat => (n : Int)) (b.map fun n : Nat => (n : Int))), M) := by
  have e : ltG M (.lst (natsD a)) (.lst (natsD b)) = some (HT.lexLt (a.map fun n : Nat => (n : Int)) (b.map fun n : Nat => (n : Int))) := by
    show ((intsOf (natsD a)).bind fun ns => (intsOf (natsD b)).map fun ms => HT.lexLt ns ms) = _
    unfold natsD
    rw [ints_map, ints_map] <;> rfl
  unfold boD
  rw [e] <;> rfl
theorem all_step {M : Mem} {N : Nat} {xs : List Int} (nd : xs.Nodup) (hN : M[N]? = some (.lst (xs.map .int))) (hl : xs.length < 8) {c : Nat} (hc : c < 128) {acc : List Nat} {x3 x4 x5 x6 x7 : Option D} : ∃ y3 y5, β__law_all_2 [some (.ref N), some (.lst (natsD acc)), some (.int (c : Int)), x3, x4, x5, x6, x7] M = .nx [some (.ref N), some (.lst (natsD (stp xs acc c))), some (.int (c : Int)), y3, x4, y5, x6, x7] M := by
  have hb := big
  have l7 : 7 ≤ LINE := by omega
  have l8 : 8 ≤ LINE := by omega
  have gl := len_l (isl_r hN)
  have hrn : ∀ M : Mem, rngK [.int (xs.length : Int)] M = .ok ⟨(List.range' 0 xs.length).map fun j : Nat => D.int (j : Int), fun _ => true⟩ M := fun M => by
    rw [rngN (by omega) (by omega), Int.toNat_natCast, rng']
  have hc1 := comp_idx (chk := fun _ => true) (γ := gNm 4) (τ := tCmp (boD eqD) (eBin modD (eBin fdivD (eBlt intC (aCons (eVar 2) aNil)) (eBin ixD (eLst false (aCons (eC (.int 1)) (aCons (eC (.int 2)) (aCons (eC (.int 4)) (aCons (eC (.int 8)) (aCons (eC (.int 16)) (aCons (eC (.int 32)) (aCons (eC (.int 64)) aNil)))))))) (eVar 4))) (eC (.int 2))) (eC (.int 1))) (φ := eBin ixD (eVar 0) (eVar 4)) (s := [some (.ref N), some (.lst (natsD acc)), some (.int (c : Int)), x3, none, x5, x6, x7]) (M := M) (p := bitp c) (g := fun q : Nat => D.int (xs.getD q 0)) rfl (List.range xs.length) 0 fun j q hq => by
    have hj : j < xs.length := by have := (List.getElem?_eq_some_iff.mp hq).1; rw [List.length_range] at this; exact this
    rw [List.getElem?_range hj] at hq
    cases hq
    rw [Nat.zero_add]
    have ax := ix_l (isl_r hN) (getD_at hj)
    rw [v_rix, hN, rixK_l] at ax
    have a7 := pow7 j (by omega)
    have p0 : (0 : Int) < ((2 ^ j : Nat) : Int) := Int.ofNat_lt.mpr (Nat.two_pow_pos j)
    have p1 : ((2 ^ j : Nat) : Int) < 1073741824 := by have := pow_lt j (by omega); omega
    have hfd : ∀ M : Mem, fdivD (.int (c : Int)) (.int ((2 ^ j : Nat) : Int)) M = some (.int (((c / 2 ^ j : Nat)) : Int), M) := fun M => by
      rw [v_fdiv p0 p1] <;> rfl
    have hmd : ∀ M : Mem, modD (.int ((c / 2 ^ j : Nat) : Int)) (.int 2) M = some (.int (((c / 2 ^ j % 2 : Nat)) : Int), M) := fun M => by
      rw [LD.v_mod (by decide)] <;> rfl
    have hbp : (((c / 2 ^ j % 2 : Nat) : Int) == 1) = bitp c j := by
      unfold bitp
      by_cases h : c / 2 ^ j % 2 = 1
      · rw [h] <;> rfl
      · rw [decide_eq_false h]
        exact beq_eq_false_iff_ne.mpr (by omega)
    refine ⟨[some (.ref N), some (.lst (natsD acc)), some (.int (c : Int)), x3, some (.int (j : Int)), x5, x6, x7], rfl, ?_, fun _ => ?_⟩
    · simp only [LD.v_lenO, LD.v_eqQi, LD.v_neQi, LD.v_mulGi, LD.q_Ins, LD.q_App, LD.okS_t, LD.v_isLst, LD.lstK_s, LD.v_app, LD.q_Rev, LD.lsK_s, LD.q_Get, LD.getKK_s, LD.v_lsL, LD.v_keyI, LD.v_keyS, Option.isSome_some, Option.isSome_none, Option.getD_some, Option.getD_none, LD.v_eqs, LD.v_nes, LD.v_isiBb, LD.q_C, LD.q_Var, LD.q_Bin, LD.q_Un, LD.q_tOf, LD.q_tCmp, LD.q_tAnd, LD.q_tOr, LD.q_tNot, LD.q_And, LD.q_Or, LD.q_Not, LD.q_If, LD.q_Nil, LD.q_Cons, LD.q_Tup, LD.q_Lst, LD.q_LstM, LD.q_Call, LD.q_Meth, LD.q_Attr, LD.q_Blt, LD.q_Comp, LD.q_iOf, LD.srcK_s, LD.v_truB, LD.v_truL, LD.v_truN, LD.v_srcL, LD.v_neg, LD.q_iRange, LD.q_Next, LD.q_Seq, LD.q_Expr, LD.q_Ret, LD.q_RetN, LD.q_SIf, LD.q_Bk, LD.q_Ct, LD.q_Asg, LD.q_Nm, LD.q_Sub, LD.q_Del, LD.q_Fld, LD.q_Dic, LD.q_For, LD.wipeD, Bool.not_true, Bool.not_false, LD.ifT, LD.le0, LD.le1, LD.le2, LD.le3, LD.le4, LD.le5, LD.le6, LD.cmpK_l, LD.nn_n, LD.nn_i, LD.nn_t, LD.nn_l, LD.nn_r, LD.nn_b, LD.nn_s, LD.nonK_n, LD.okK_o, LD.bind_k, LD.bind_b, LD.bind_e, LD.bindS_k, LD.bindS_e, LD.ofO_s, LD.getV_s, LD.truK_s, LD.blK_b, LD.refK_r, LD.insK_i, LD.lookK_s, LD.lookK_n, LD.refS_r, LD.insS_i, LD.lookS_s, LD.seq_n, LD.seq_r, LD.seq_b, LD.seq_c, LD.seq_e, LD.storeK_s, LD.memK_s, LD.endF_n, LD.endF_r, LD.endF_e, LD.pick_t, LD.pick_f, LD.finL_f, LD.finL_t, LD.v_add, LD.v_sub, LD.v_mulR, LD.v_fdiv, LD.v_mod, LD.v_int, LD.v_lt, LD.v_le, LD.v_gt, LD.v_ge, LD.v_eq, LD.v_ne, LD.v_len, LD.v_tix, LD.v_lix, LD.v_rix, LD.rixK_l, LD.rixK_d, LD.v_isN, LD.v_isnN, LD.v_isNone, LD.v_isNoneN, LD.startD, List.length_cons, List.length_nil, List.map_cons, List.map_nil, List.cons_append, List.nil_append, List.append_nil, List.getElem?_cons_zero, List.getElem?_cons_succ, List.set_cons_zero, List.set_cons_succ, List.replicate_succ, List.replicate_zero, Nat.reduceAdd, Nat.reduceSub, Nat.reduceBEq, Int.reduceLT, Int.reduceNeg, Int.reduceLE, Nat.reduceLeDiff, Nat.reduceLT, List.lookup_cons, List.lookup_nil, beq_self_eq_true, Option.map_some, Option.map_none, if_pos l7, a7, hfd, hmd, hbp]
    · simp only [LD.v_lenO, LD.v_eqQi, LD.v_neQi, LD.v_mulGi, LD.q_Ins, LD.q_App, LD.okS_t, LD.v_isLst, LD.lstK_s, LD.v_app, LD.q_Rev, LD.lsK_s, LD.q_Get, LD.getKK_s, LD.v_lsL, LD.v_keyI, LD.v_keyS, Option.isSome_some, Option.isSome_none, Option.getD_some, Option.getD_none, LD.v_eqs, LD.v_nes, LD.v_isiBb, LD.q_C, LD.q_Var, LD.q_Bin, LD.q_Un, LD.q_tOf, LD.q_tCmp, LD.q_tAnd, LD.q_tOr, LD.q_tNot, LD.q_And, LD.q_Or, LD.q_Not, LD.q_If, LD.q_Nil, LD.q_Cons, LD.q_Tup, LD.q_Lst, LD.q_LstM, LD.q_Call, LD.q_Meth, LD.q_Attr, LD.q_Blt, LD.q_Comp, LD.q_iOf, LD.srcK_s, LD.v_truB, LD.v_truL, LD.v_truN, LD.v_srcL, LD.v_neg, LD.q_iRange, LD.q_Next, LD.q_Seq, LD.q_Expr, LD.q_Ret, LD.q_RetN, LD.q_SIf, LD.q_Bk, LD.q_Ct, LD.q_Asg, LD.q_Nm, LD.q_Sub, LD.q_Del, LD.q_Fld, LD.q_Dic, LD.q_For, LD.wipeD, Bool.not_true, Bool.not_false, LD.ifT, LD.le0, LD.le1, LD.le2, LD.le3, LD.le4, LD.le5, LD.le6, LD.cmpK_l, LD.nn_n, LD.nn_i, LD.nn_t, LD.nn_l, LD.nn_r, LD.nn_b, LD.nn_s, LD.nonK_n, LD.okK_o, LD.bind_k, LD.bind_b, LD.bind_e, LD.bindS_k, LD.bindS_e, LD.ofO_s, LD.getV_s, LD.truK_s, LD.blK_b, LD.refK_r, LD.insK_i, LD.lookK_s, LD.lookK_n, LD.refS_r, LD.insS_i, LD.lookS_s, LD.seq_n, LD.seq_r, LD.seq_b, LD.seq_c, LD.seq_e, LD.storeK_s, LD.memK_s, LD.endF_n, LD.endF_r, LD.endF_e, LD.pick_t, LD.pick_f, LD.finL_f, LD.finL_t, LD.v_add, LD.v_sub, LD.v_mulR, LD.v_fdiv, LD.v_mod, LD.v_int, LD.v_lt, LD.v_le, LD.v_gt, LD.v_ge, LD.v_eq, LD.v_ne, LD.v_len, LD.v_tix, LD.v_lix, LD.v_rix, LD.rixK_l, LD.rixK_d, LD.v_isN, LD.v_isnN, LD.v_isNone, LD.v_isNoneN, LD.startD, List.length_cons, List.length_nil, List.map_cons, List.map_nil, List.cons_append, List.nil_append, List.append_nil, List.getElem?_cons_zero, List.getElem?_cons_succ, List.set_cons_zero, List.set_cons_succ, List.replicate_succ, List.replicate_zero, Nat.reduceAdd, Nat.reduceSub, Nat.reduceBEq, Int.reduceLT, Int.reduceNeg, Int.reduceLE, Nat.reduceLeDiff, Nat.reduceLT, List.lookup_cons, List.lookup_nil, beq_self_eq_true, Option.map_some, Option.map_none, hN, ax]
  rw [List.length_range] at hc1
  have hSS : ((List.range xs.length).filter (bitp c)).map (fun q : Nat => D.int (xs.getD q 0)) = (rowOf xs (SS xs.length c)).map .int := by
    unfold rowOf SS
    rw [List.map_map] <;> rfl
  rw [hSS] at hc1
  have hsl : (SS xs.length c).length ≤ xs.length := by
    have := List.length_filter_le (bitp c) (List.range xs.length)
    rw [List.length_range] at this
    exact this
  have hL1 : ((List.range' 0 xs.length).map fun j : Nat => D.int (j : Int)).length ≤ LINE := by rw [List.length_map, List.length_range']; omega
  have hL2 : ((rowOf xs (SS xs.length c)).map D.int).length ≤ LINE := by rw [List.length_map, rowOf_len]; omega
  have p8 := pow8 xs.length hl
  have hr := rises_eq (isl_v M (rowOf xs (SS xs.length c))) (by rw [rowOf_len]; omega)
  have hlt : decide ((c : Int) < ((2 ^ xs.length : Nat) : Int)) = decide (c < 2 ^ xs.length) := by
    by_cases h : c < 2 ^ xs.length
    · rw [decide_eq_true h]; exact decide_eq_true (Int.ofNat_lt.mpr h)
    · rw [decide_eq_false h]; exact decide_eq_false (fun z => h (Int.ofNat_lt.mp z))
  unfold stp
  cases h1 : decide (c < 2 ^ xs.length) with
  | false =>
    rw [h1] at hlt
    refine ⟨some (.lst ((rowOf xs (SS xs.length c)).map .int)), x5, ?_⟩
    unfold β__law_all_2
    simp only [LD.v_lenO, LD.v_eqQi, LD.v_neQi, LD.v_mulGi, LD.q_Ins, LD.q_App, LD.okS_t, LD.v_isLst, LD.lstK_s, LD.v_app, LD.q_Rev, LD.lsK_s, LD.q_Get, LD.getKK_s, LD.v_lsL, LD.v_keyI, LD.v_keyS, Option.isSome_some, Option.isSome_none, Option.getD_some, Option.getD_none, LD.v_eqs, LD.v_nes, LD.v_isiBb, LD.q_C, LD.q_Var, LD.q_Bin, LD.q_Un, LD.q_tOf, LD.q_tCmp, LD.q_tAnd, LD.q_tOr, LD.q_tNot, LD.q_And, LD.q_Or, LD.q_Not, LD.q_If, LD.q_Nil, LD.q_Cons, LD.q_Tup, LD.q_Lst, LD.q_LstM, LD.q_Call, LD.q_Meth, LD.q_Attr, LD.q_Blt, LD.q_Comp, LD.q_iOf, LD.srcK_s, LD.v_truB, LD.v_truL, LD.v_truN, LD.v_srcL, LD.v_neg, LD.q_iRange, LD.q_Next, LD.q_Seq, LD.q_Expr, LD.q_Ret, LD.q_RetN, LD.q_SIf, LD.q_Bk, LD.q_Ct, LD.q_Asg, LD.q_Nm, LD.q_Sub, LD.q_Del, LD.q_Fld, LD.q_Dic, LD.q_For, LD.wipeD, Bool.not_true, Bool.not_false, LD.ifT, LD.le0, LD.le1, LD.le2, LD.le3, LD.le4, LD.le5, LD.le6, LD.cmpK_l, LD.nn_n, LD.nn_i, LD.nn_t, LD.nn_l, LD.nn_r, LD.nn_b, LD.nn_s, LD.nonK_n, LD.okK_o, LD.bind_k, LD.bind_b, LD.bind_e, LD.bindS_k, LD.bindS_e, LD.ofO_s, LD.getV_s, LD.truK_s, LD.blK_b, LD.refK_r, LD.insK_i, LD.lookK_s, LD.lookK_n, LD.refS_r, LD.insS_i, LD.lookS_s, LD.seq_n, LD.seq_r, LD.seq_b, LD.seq_c, LD.seq_e, LD.storeK_s, LD.memK_s, LD.endF_n, LD.endF_r, LD.endF_e, LD.pick_t, LD.pick_f, LD.finL_f, LD.finL_t, LD.v_add, LD.v_sub, LD.v_mulR, LD.v_fdiv, LD.v_mod, LD.v_int, LD.v_lt, LD.v_le, LD.v_gt, LD.v_ge, LD.v_eq, LD.v_ne, LD.v_len, LD.v_tix, LD.v_lix, LD.v_rix, LD.rixK_l, LD.rixK_d, LD.v_isN, LD.v_isnN, LD.v_isNone, LD.v_isNoneN, LD.startD, List.length_cons, List.length_nil, List.map_cons, List.map_nil, List.cons_append, List.nil_append, List.append_nil, List.getElem?_cons_zero, List.getElem?_cons_succ, List.set_cons_zero, List.set_cons_succ, List.replicate_succ, List.replicate_zero, Nat.reduceAdd, Nat.reduceSub, Nat.reduceBEq, Int.reduceLT, Int.reduceNeg, Int.reduceLE, Nat.reduceLeDiff, Nat.reduceLT, List.lookup_cons, List.lookup_nil, beq_self_eq_true, Option.map_some, Option.map_none, hN, gl, hrn, cmpK_l hL1, hc1, if_pos l8, p8, hlt]
    rfl
  | true =>
    rw [h1] at hlt
    cases h2 : risB (rowOf xs (SS xs.length c)) with
    | false =>
      rw [h2] at hr
      refine ⟨some (.lst ((rowOf xs (SS xs.length c)).map .int)), x5, ?_⟩
      unfold β__law_all_2
      simp only [LD.v_lenO, LD.v_eqQi, LD.v_neQi, LD.v_mulGi, LD.q_Ins, LD.q_App, LD.okS_t, LD.v_isLst, LD.lstK_s, LD.v_app, LD.q_Rev, LD.lsK_s, LD.q_Get, LD.getKK_s, LD.v_lsL, LD.v_keyI, LD.v_keyS, Option.isSome_some, Option.isSome_none, Option.getD_some, Option.getD_none, LD.v_eqs, LD.v_nes, LD.v_isiBb, LD.q_C, LD.q_Var, LD.q_Bin, LD.q_Un, LD.q_tOf, LD.q_tCmp, LD.q_tAnd, LD.q_tOr, LD.q_tNot, LD.q_And, LD.q_Or, LD.q_Not, LD.q_If, LD.q_Nil, LD.q_Cons, LD.q_Tup, LD.q_Lst, LD.q_LstM, LD.q_Call, LD.q_Meth, LD.q_Attr, LD.q_Blt, LD.q_Comp, LD.q_iOf, LD.srcK_s, LD.v_truB, LD.v_truL, LD.v_truN, LD.v_srcL, LD.v_neg, LD.q_iRange, LD.q_Next, LD.q_Seq, LD.q_Expr, LD.q_Ret, LD.q_RetN, LD.q_SIf, LD.q_Bk, LD.q_Ct, LD.q_Asg, LD.q_Nm, LD.q_Sub, LD.q_Del, LD.q_Fld, LD.q_Dic, LD.q_For, LD.wipeD, Bool.not_true, Bool.not_false, LD.ifT, LD.le0, LD.le1, LD.le2, LD.le3, LD.le4, LD.le5, LD.le6, LD.cmpK_l, LD.nn_n, LD.nn_i, LD.nn_t, LD.nn_l, LD.nn_r, LD.nn_b, LD.nn_s, LD.nonK_n, LD.okK_o, LD.bind_k, LD.bind_b, LD.bind_e, LD.bindS_k, LD.bindS_e, LD.ofO_s, LD.getV_s, LD.truK_s, LD.blK_b, LD.refK_r, LD.insK_i, LD.lookK_s, LD.lookK_n, LD.refS_r, LD.insS_i, LD.lookS_s, LD.seq_n, LD.seq_r, LD.seq_b, LD.seq_c, LD.seq_e, LD.storeK_s, LD.memK_s, LD.endF_n, LD.endF_r, LD.endF_e, LD.pick_t, LD.pick_f, LD.finL_f, LD.finL_t, LD.v_add, LD.v_sub, LD.v_mulR, LD.v_fdiv, LD.v_mod, LD.v_int, LD.v_lt, LD.v_le, LD.v_gt, LD.v_ge, LD.v_eq, LD.v_ne, LD.v_len, LD.v_tix, LD.v_lix, LD.v_rix, LD.rixK_l, LD.rixK_d, LD.v_isN, LD.v_isnN, LD.v_isNone, LD.v_isNoneN, LD.startD, List.length_cons, List.length_nil, List.map_cons, List.map_nil, List.cons_append, List.nil_append, List.append_nil, List.getElem?_cons_zero, List.getElem?_cons_succ, List.set_cons_zero, List.set_cons_succ, List.replicate_succ, List.replicate_zero, Nat.reduceAdd, Nat.reduceSub, Nat.reduceBEq, Int.reduceLT, Int.reduceNeg, Int.reduceLE, Nat.reduceLeDiff, Nat.reduceLT, List.lookup_cons, List.lookup_nil, beq_self_eq_true, Option.map_some, Option.map_none, hN, gl, hrn, cmpK_l hL1, hc1, if_pos l8, p8, hlt, hr]
      rfl
    | true =>
      rw [h2] at hr
      have hcm : compV (fun _ => true) (gNm 6) tTrue (eBm isLst idxG (eVar 0) (aCons (eVar 6) aNil)) [some (.ref N), some (.lst (natsD acc)), some (.int (c : Int)), some (.lst ((rowOf xs (SS xs.length c)).map .int)), x4, x5, none, x7] ((rowOf xs (SS xs.length c)).map .int) M = .ok (natsD (SS xs.length c)) M := by
        have e := compV_map (M := M) (s := [some (.ref N), some (.lst (natsD acc)), some (.int (c : Int)), some (.lst ((rowOf xs (SS xs.length c)).map .int)), x4, x5, none, x7]) (γ := gNm 6) (τ := tTrue) (φ := eBm isLst idxG (eVar 0) (aCons (eVar 6) aNil)) (chk := fun _ => true) (e := fun q : Nat => D.int (xs.getD q 0)) (g := fun q : Nat => D.int (q : Int)) (p := fun _ => true) rfl (as := SS xs.length c) fun q hq => ⟨[some (.ref N), some (.lst (natsD acc)), some (.int (c : Int)), some (.lst ((rowOf xs (SS xs.length c)).map .int)), x4, x5, some (.int (xs.getD q 0)), x7], rfl, rfl, fun _ => by
          have hix := idx_ok (isl_r hN) nd (getD_at (ss_mem hq))
          simp only [LD.v_lenO, LD.v_eqQi, LD.v_neQi, LD.v_mulGi, LD.q_Ins, LD.q_App, LD.okS_t, LD.v_isLst, LD.lstK_s, LD.v_app, LD.q_Rev, LD.lsK_s, LD.q_Get, LD.getKK_s, LD.v_lsL, LD.v_keyI, LD.v_keyS, Option.isSome_some, Option.isSome_none, Option.getD_some, Option.getD_none, LD.v_eqs, LD.v_nes, LD.v_isiBb, LD.q_C, LD.q_Var, LD.q_Bin, LD.q_Un, LD.q_tOf, LD.q_tCmp, LD.q_tAnd, LD.q_tOr, LD.q_tNot, LD.q_And, LD.q_Or, LD.q_Not, LD.q_If, LD.q_Nil, LD.q_Cons, LD.q_Tup, LD.q_Lst, LD.q_LstM, LD.q_Call, LD.q_Meth, LD.q_Attr, LD.q_Blt, LD.q_Comp, LD.q_iOf, LD.srcK_s, LD.v_truB, LD.v_truL, LD.v_truN, LD.v_srcL, LD.v_neg, LD.q_iRange, LD.q_Next, LD.q_Seq, LD.q_Expr, LD.q_Ret, LD.q_RetN, LD.q_SIf, LD.q_Bk, LD.q_Ct, LD.q_Asg, LD.q_Nm, LD.q_Sub, LD.q_Del, LD.q_Fld, LD.q_Dic, LD.q_For, LD.wipeD, Bool.not_true, Bool.not_false, LD.ifT, LD.le0, LD.le1, LD.le2, LD.le3, LD.le4, LD.le5, LD.le6, LD.cmpK_l, LD.nn_n, LD.nn_i, LD.nn_t, LD.nn_l, LD.nn_r, LD.nn_b, LD.nn_s, LD.nonK_n, LD.okK_o, LD.bind_k, LD.bind_b, LD.bind_e, LD.bindS_k, LD.bindS_e, LD.ofO_s, LD.getV_s, LD.truK_s, LD.blK_b, LD.refK_r, LD.insK_i, LD.lookK_s, LD.lookK_n, LD.refS_r, LD.insS_i, LD.lookS_s, LD.seq_n, LD.seq_r, LD.seq_b, LD.seq_c, LD.seq_e, LD.storeK_s, LD.memK_s, LD.endF_n, LD.endF_r, LD.endF_e, LD.pick_t, LD.pick_f, LD.finL_f, LD.finL_t, LD.v_add, LD.v_sub, LD.v_mulR, LD.v_fdiv, LD.v_mod, LD.v_int, LD.v_lt, LD.v_le, LD.v_gt, LD.v_ge, LD.v_eq, LD.v_ne, LD.v_len, LD.v_tix, LD.v_lix, LD.v_rix, LD.rixK_l, LD.rixK_d, LD.v_isN, LD.v_isnN, LD.v_isNone, LD.v_isNoneN, LD.startD, List.length_cons, List.length_nil, List.map_cons, List.map_nil, List.cons_append, List.nil_append, List.append_nil, List.getElem?_cons_zero, List.getElem?_cons_succ, List.set_cons_zero, List.set_cons_succ, List.replicate_succ, List.replicate_zero, Nat.reduceAdd, Nat.reduceSub, Nat.reduceBEq, Int.reduceLT, Int.reduceNeg, Int.reduceLE, Nat.reduceLeDiff, Nat.reduceLT, List.lookup_cons, List.lookup_nil, beq_self_eq_true, Option.map_some, Option.map_none, q_Idx, hN, hix]⟩
        rw [filt] at e
        have e1 : (SS xs.length c).map (fun q : Nat => D.int (xs.getD q 0)) = (rowOf xs (SS xs.length c)).map .int := by
          unfold rowOf
          rw [List.map_map] <;> rfl
        have e2 : (SS xs.length c).map (fun q : Nat => D.int (q : Int)) = natsD (SS xs.length c) := by
          unfold natsD
          rw [List.map_map] <;> rfl
        rw [e1, e2] at e
        exact e
      have hlen : ∀ a : List Nat, (((natsD a).length : Nat) : Int) = (a.length : Int) := fun a => by rw [natsD_len]
      cases h3 : cmpP (SS xs.length c) acc with
      | true =>
        refine ⟨some (.lst ((rowOf xs (SS xs.length c)).map .int)), some (.lst (natsD (SS xs.length c))), ?_⟩
        unfold β__law_all_2
        unfold cmpP at h3
        cases h4 : decide (acc.length < (SS xs.length c).length) with
        | true =>
          have h4' : decide ((acc.length : Int) < ((SS xs.length c).length : Int)) = true := decide_eq_true (Int.ofNat_lt.mpr (of_decide_eq_true h4))
          simp only [LD.v_lenO, LD.v_eqQi, LD.v_neQi, LD.v_mulGi, LD.q_Ins, LD.q_App, LD.okS_t, LD.v_isLst, LD.lstK_s, LD.v_app, LD.q_Rev, LD.lsK_s, LD.q_Get, LD.getKK_s, LD.v_lsL, LD.v_keyI, LD.v_keyS, Option.isSome_some, Option.isSome_none, Option.getD_some, Option.getD_none, LD.v_eqs, LD.v_nes, LD.v_isiBb, LD.q_C, LD.q_Var, LD.q_Bin, LD.q_Un, LD.q_tOf, LD.q_tCmp, LD.q_tAnd, LD.q_tOr, LD.q_tNot, LD.q_And, LD.q_Or, LD.q_Not, LD.q_If, LD.q_Nil, LD.q_Cons, LD.q_Tup, LD.q_Lst, LD.q_LstM, LD.q_Call, LD.q_Meth, LD.q_Attr, LD.q_Blt, LD.q_Comp, LD.q_iOf, LD.srcK_s, LD.v_truB, LD.v_truL, LD.v_truN, LD.v_srcL, LD.v_neg, LD.q_iRange, LD.q_Next, LD.q_Seq, LD.q_Expr, LD.q_Ret, LD.q_RetN, LD.q_SIf, LD.q_Bk, LD.q_Ct, LD.q_Asg, LD.q_Nm, LD.q_Sub, LD.q_Del, LD.q_Fld, LD.q_Dic, LD.q_For, LD.wipeD, Bool.not_true, Bool.not_false, LD.ifT, LD.le0, LD.le1, LD.le2, LD.le3, LD.le4, LD.le5, LD.le6, LD.cmpK_l, LD.nn_n, LD.nn_i, LD.nn_t, LD.nn_l, LD.nn_r, LD.nn_b, LD.nn_s, LD.nonK_n, LD.okK_o, LD.bind_k, LD.bind_b, LD.bind_e, LD.bindS_k, LD.bindS_e, LD.ofO_s, LD.getV_s, LD.truK_s, LD.blK_b, LD.refK_r, LD.insK_i, LD.lookK_s, LD.lookK_n, LD.refS_r, LD.insS_i, LD.lookS_s, LD.seq_n, LD.seq_r, LD.seq_b, LD.seq_c, LD.seq_e, LD.storeK_s, LD.memK_s, LD.endF_n, LD.endF_r, LD.endF_e, LD.pick_t, LD.pick_f, LD.finL_f, LD.finL_t, LD.v_add, LD.v_sub, LD.v_mulR, LD.v_fdiv, LD.v_mod, LD.v_int, LD.v_lt, LD.v_le, LD.v_gt, LD.v_ge, LD.v_eq, LD.v_ne, LD.v_len, LD.v_tix, LD.v_lix, LD.v_rix, LD.rixK_l, LD.rixK_d, LD.v_isN, LD.v_isnN, LD.v_isNone, LD.v_isNoneN, LD.startD, List.length_cons, List.length_nil, List.map_cons, List.map_nil, List.cons_append, List.nil_append, List.append_nil, List.getElem?_cons_zero, List.getElem?_cons_succ, List.set_cons_zero, List.set_cons_succ, List.replicate_succ, List.replicate_zero, Nat.reduceAdd, Nat.reduceSub, Nat.reduceBEq, Int.reduceLT, Int.reduceNeg, Int.reduceLE, Nat.reduceLeDiff, Nat.reduceLT, List.lookup_cons, List.lookup_nil, beq_self_eq_true, Option.map_some, Option.map_none, hN, gl, hrn, cmpK_l hL1, hc1, if_pos l8, p8, hlt, hr, cmpK_l hL2, hcm, hlen, h4']
          rfl
        | false =>
          rw [h4, Bool.false_or, Bool.and_eq_true] at h3
          have h4' : decide ((acc.length : Int) < ((SS xs.length c).length : Int)) = false := decide_eq_false (fun z => of_decide_eq_false h4 (Int.ofNat_lt.mp z))
          have h5 : (((SS xs.length c).length : Int) == (acc.length : Int)) = true := beq_iff_eq.mpr (by rw [of_decide_eq_true h3.1])
          simp only [LD.v_lenO, LD.v_eqQi, LD.v_neQi, LD.v_mulGi, LD.q_Ins, LD.q_App, LD.okS_t, LD.v_isLst, LD.lstK_s, LD.v_app, LD.q_Rev, LD.lsK_s, LD.q_Get, LD.getKK_s, LD.v_lsL, LD.v_keyI, LD.v_keyS, Option.isSome_some, Option.isSome_none, Option.getD_some, Option.getD_none, LD.v_eqs, LD.v_nes, LD.v_isiBb, LD.q_C, LD.q_Var, LD.q_Bin, LD.q_Un, LD.q_tOf, LD.q_tCmp, LD.q_tAnd, LD.q_tOr, LD.q_tNot, LD.q_And, LD.q_Or, LD.q_Not, LD.q_If, LD.q_Nil, LD.q_Cons, LD.q_Tup, LD.q_Lst, LD.q_LstM, LD.q_Call, LD.q_Meth, LD.q_Attr, LD.q_Blt, LD.q_Comp, LD.q_iOf, LD.srcK_s, LD.v_truB, LD.v_truL, LD.v_truN, LD.v_srcL, LD.v_neg, LD.q_iRange, LD.q_Next, LD.q_Seq, LD.q_Expr, LD.q_Ret, LD.q_RetN, LD.q_SIf, LD.q_Bk, LD.q_Ct, LD.q_Asg, LD.q_Nm, LD.q_Sub, LD.q_Del, LD.q_Fld, LD.q_Dic, LD.q_For, LD.wipeD, Bool.not_true, Bool.not_false, LD.ifT, LD.le0, LD.le1, LD.le2, LD.le3, LD.le4, LD.le5, LD.le6, LD.cmpK_l, LD.nn_n, LD.nn_i, LD.nn_t, LD.nn_l, LD.nn_r, LD.nn_b, LD.nn_s, LD.nonK_n, LD.okK_o, LD.bind_k, LD.bind_b, LD.bind_e, LD.bindS_k, LD.bindS_e, LD.ofO_s, LD.getV_s, LD.truK_s, LD.blK_b, LD.refK_r, LD.insK_i, LD.lookK_s, LD.lookK_n, LD.refS_r, LD.insS_i, LD.lookS_s, LD.seq_n, LD.seq_r, LD.seq_b, LD.seq_c, LD.seq_e, LD.storeK_s, LD.memK_s, LD.endF_n, LD.endF_r, LD.endF_e, LD.pick_t, LD.pick_f, LD.finL_f, LD.finL_t, LD.v_add, LD.v_sub, LD.v_mulR, LD.v_fdiv, LD.v_mod, LD.v_int, LD.v_lt, LD.v_le, LD.v_gt, LD.v_ge, LD.v_eq, LD.v_ne, LD.v_len, LD.v_tix, LD.v_lix, LD.v_rix, LD.rixK_l, LD.rixK_d, LD.v_isN, LD.v_isnN, LD.v_isNone, LD.v_isNoneN, LD.startD, List.length_cons, List.length_nil, List.map_cons, List.map_nil, List.cons_append, List.nil_append, List.append_nil, List.getElem?_cons_zero, List.getElem?_cons_succ, List.set_cons_zero, List.set_cons_succ, List.replicate_succ, List.replicate_zero, Nat.reduceAdd, Nat.reduceSub, Nat.reduceBEq, Int.reduceLT, Int.reduceNeg, Int.reduceLE, Nat.reduceLeDiff, Nat.reduceLT, List.lookup_cons, List.lookup_nil, beq_self_eq_true, Option.map_some, Option.map_none, hN, gl, hrn, cmpK_l hL1, hc1, if_pos l8, p8, hlt, hr, cmpK_l hL2, hcm, hlen, h4', h5, lt_nats, h3.2]
          rfl
      | false =>
        refine ⟨some (.lst ((rowOf xs (SS xs.length c)).map .int)), some (.lst (natsD (SS xs.length c))), ?_⟩
        unfold β__law_all_2
        unfold cmpP at h3
        rw [Bool.or_eq_false_iff] at h3
        have h4' : decide ((acc.length : Int) < ((SS xs.length c).length : Int)) = false := decide_eq_false (fun z => of_decide_eq_false h3.1 (Int.ofNat_lt.mp z))
        by_cases h6 : (SS xs.length c).length = acc.length
        · have h5 : (((SS xs.length c).length : Int) == (acc.length : Int)) = true := beq_iff_eq.mpr (by rw [h6])
          have h7 := h3.2
          rw [decide_eq_true h6, Bool.true_and] at h7
          simp only [LD.v_lenO, LD.v_eqQi, LD.v_neQi, LD.v_mulGi, LD.q_Ins, LD.q_App, LD.okS_t, LD.v_isLst, LD.lstK_s, LD.v_app, LD.q_Rev, LD.lsK_s, LD.q_Get, LD.getKK_s, LD.v_lsL, LD.v_keyI, LD.v_keyS, Option.isSome_some, Option.isSome_none, Option.getD_some, Option.getD_none, LD.v_eqs, LD.v_nes, LD.v_isiBb, LD.q_C, LD.q_Var, LD.q_Bin, LD.q_Un, LD.q_tOf, LD.q_tCmp, LD.q_tAnd, LD.q_tOr, LD.q_tNot, LD.q_And, LD.q_Or, LD.q_Not, LD.q_If, LD.q_Nil, LD.q_Cons, LD.q_Tup, LD.q_Lst, LD.q_LstM, LD.q_Call, LD.q_Meth, LD.q_Attr, LD.q_Blt, LD.q_Comp, LD.q_iOf, LD.srcK_s, LD.v_truB, LD.v_truL, LD.v_truN, LD.v_srcL, LD.v_neg, LD.q_iRange, LD.q_Next, LD.q_Seq, LD.q_Expr, LD.q_Ret, LD.q_RetN, LD.q_SIf, LD.q_Bk, LD.q_Ct, LD.q_Asg, LD.q_Nm, LD.q_Sub, LD.q_Del, LD.q_Fld, LD.q_Dic, LD.q_For, LD.wipeD, Bool.not_true, Bool.not_false, LD.ifT, LD.le0, LD.le1, LD.le2, LD.le3, LD.le4, LD.le5, LD.le6, LD.cmpK_l, LD.nn_n, LD.nn_i, LD.nn_t, LD.nn_l, LD.nn_r, LD.nn_b, LD.nn_s, LD.nonK_n, LD.okK_o, LD.bind_k, LD.bind_b, LD.bind_e, LD.bindS_k, LD.bindS_e, LD.ofO_s, LD.getV_s, LD.truK_s, LD.blK_b, LD.refK_r, LD.insK_i, LD.lookK_s, LD.lookK_n, LD.refS_r, LD.insS_i, LD.lookS_s, LD.seq_n, LD.seq_r, LD.seq_b, LD.seq_c, LD.seq_e, LD.storeK_s, LD.memK_s, LD.endF_n, LD.endF_r, LD.endF_e, LD.pick_t, LD.pick_f, LD.finL_f, LD.finL_t, LD.v_add, LD.v_sub, LD.v_mulR, LD.v_fdiv, LD.v_mod, LD.v_int, LD.v_lt, LD.v_le, LD.v_gt, LD.v_ge, LD.v_eq, LD.v_ne, LD.v_len, LD.v_tix, LD.v_lix, LD.v_rix, LD.rixK_l, LD.rixK_d, LD.v_isN, LD.v_isnN, LD.v_isNone, LD.v_isNoneN, LD.startD, List.length_cons, List.length_nil, List.map_cons, List.map_nil, List.cons_append, List.nil_append, List.append_nil, List.getElem?_cons_zero, List.getElem?_cons_succ, List.set_cons_zero, List.set_cons_succ, List.replicate_succ, List.replicate_zero, Nat.reduceAdd, Nat.reduceSub, Nat.reduceBEq, Int.reduceLT, Int.reduceNeg, Int.reduceLE, Nat.reduceLeDiff, Nat.reduceLT, List.lookup_cons, List.lookup_nil, beq_self_eq_true, Option.map_some, Option.map_none, hN, gl, hrn, cmpK_l hL1, hc1, if_pos l8, p8, hlt, hr, cmpK_l hL2, hcm, hlen, h4', h5, lt_nats, h7]
          rfl
        · have h5 : (((SS xs.length c).length : Int) == (acc.length : Int)) = false := beq_eq_false_iff_ne.mpr (by omega)
          simp only [LD.v_lenO, LD.v_eqQi, LD.v_neQi, LD.v_mulGi, LD.q_Ins, LD.q_App, LD.okS_t, LD.v_isLst, LD.lstK_s, LD.v_app, LD.q_Rev, LD.lsK_s, LD.q_Get, LD.getKK_s, LD.v_lsL, LD.v_keyI, LD.v_keyS, Option.isSome_some, Option.isSome_none, Option.getD_some, Option.getD_none, LD.v_eqs, LD.v_nes, LD.v_isiBb, LD.q_C, LD.q_Var, LD.q_Bin, LD.q_Un, LD.q_tOf, LD.q_tCmp, LD.q_tAnd, LD.q_tOr, LD.q_tNot, LD.q_And, LD.q_Or, LD.q_Not, LD.q_If, LD.q_Nil, LD.q_Cons, LD.q_Tup, LD.q_Lst, LD.q_LstM, LD.q_Call, LD.q_Meth, LD.q_Attr, LD.q_Blt, LD.q_Comp, LD.q_iOf, LD.srcK_s, LD.v_truB, LD.v_truL, LD.v_truN, LD.v_srcL, LD.v_neg, LD.q_iRange, LD.q_Next, LD.q_Seq, LD.q_Expr, LD.q_Ret, LD.q_RetN, LD.q_SIf, LD.q_Bk, LD.q_Ct, LD.q_Asg, LD.q_Nm, LD.q_Sub, LD.q_Del, LD.q_Fld, LD.q_Dic, LD.q_For, LD.wipeD, Bool.not_true, Bool.not_false, LD.ifT, LD.le0, LD.le1, LD.le2, LD.le3, LD.le4, LD.le5, LD.le6, LD.cmpK_l, LD.nn_n, LD.nn_i, LD.nn_t, LD.nn_l, LD.nn_r, LD.nn_b, LD.nn_s, LD.nonK_n, LD.okK_o, LD.bind_k, LD.bind_b, LD.bind_e, LD.bindS_k, LD.bindS_e, LD.ofO_s, LD.getV_s, LD.truK_s, LD.blK_b, LD.refK_r, LD.insK_i, LD.lookK_s, LD.lookK_n, LD.refS_r, LD.insS_i, LD.lookS_s, LD.seq_n, LD.seq_r, LD.seq_b, LD.seq_c, LD.seq_e, LD.storeK_s, LD.memK_s, LD.endF_n, LD.endF_r, LD.endF_e, LD.pick_t, LD.pick_f, LD.finL_f, LD.finL_t, LD.v_add, LD.v_sub, LD.v_mulR, LD.v_fdiv, LD.v_mod, LD.v_int, LD.v_lt, LD.v_le, LD.v_gt, LD.v_ge, LD.v_eq, LD.v_ne, LD.v_len, LD.v_tix, LD.v_lix, LD.v_rix, LD.rixK_l, LD.rixK_d, LD.v_isN, LD.v_isnN, LD.v_isNone, LD.v_isNoneN, LD.startD, List.length_cons, List.length_nil, List.map_cons, List.map_nil, List.cons_append, List.nil_append, List.append_nil, List.getElem?_cons_zero, List.getElem?_cons_succ, List.set_cons_zero, List.set_cons_succ, List.replicate_succ, List.replicate_zero, Nat.reduceAdd, Nat.reduceSub, Nat.reduceBEq, Int.reduceLT, Int.reduceNeg, Int.reduceLE, Nat.reduceLeDiff, Nat.reduceLT, List.lookup_cons, List.lookup_nil, beq_self_eq_true, Option.map_some, Option.map_none, hN, gl, hrn, cmpK_l hL1, hc1, if_pos l8, p8, hlt, hr, cmpK_l hL2, hcm, hlen, h4', h5]
          rfl
theorem all_loop {M : Mem} {N : Nat} {xs : List Int} (nd : xs.Nodup) (hN : M[N]? = some (.lst (xs.map .int))) (hl : xs.length < 8) {x4 x6 x7 : Option D} : ∀ (cs : List Nat) (acc : List Nat) (x2 x3 x5 : Option D), (∀ c ∈ cs, c < 128) → ∃ y2 y3 y5, forV (fun _ => true) (gNm 2) β__law_all_2 (cs.map fun j : Nat => D.int (j : Int)) [some (.ref N), some (.lst (natsD acc)), x2, x3, x4, x5, x6, x7] M = .nx [some (.ref N), some (.lst (natsD (cs.foldl (stp xs) acc))), y2, y3, x4, y5, x6, x7] M
  | [], acc, x2, x3, x5, _ => ⟨x2, x3, x5, forV_n rfl⟩
  | c :: cs, acc, x2, x3, x5, h => by
    obtain ⟨z3, z5, e1⟩ := all_step nd hN hl (h c List.mem_cons_self) (acc := acc) (x3 := x3) (x4 := x4) (x5 := x5) (x6 := x6) (x7 := x7)
    obtain ⟨y2, y3, y5, e2⟩ := all_loop nd hN hl (x4 := x4) (x6 := x6) (x7 := x7) cs (stp xs acc c) (some (.int (c : Int))) z3 z5 fun d hd => h d (List.mem_cons_of_mem _ hd)
    exact ⟨y2, y3, y5, (forV_c rfl rfl e1).trans e2⟩
theorem all_eq {M : Mem} {N : Nat} {xs : List Int} (nd : xs.Nodup) (hN : M[N]? = some (.lst (xs.map .int))) (hl : xs.length < 8) : φ__law_all [.ref N] M = .ok (.lst ((rowOf xs (places xs)).map .int)) M := by
  have hb := big
  obtain ⟨y2, y3, y5, e⟩ := all_loop nd hN hl (x4 := none) (x6 := none) (x7 := none) (List.range' 0 128) [] none none none fun c hc => by have := (List.mem_range'_1.mp hc).2; omega
  rw [fold_all hl] at e
  have e : forV (fun _ => true) (gNm 2) β__law_all_2 ((List.range' 0 128).map fun j : Nat => D.int (j : Int)) [some (.ref N), some (.lst []), none, none, none, none, none, none] M = .nx [some (.ref N), some (.lst (natsD (places xs))), y2, y3, none, y5, none, none] M := e
  have hpw : ∀ M : Mem, powD (.int 2) (.int 7) M = some (.int 128, M) := fun _ => rfl
  have hrn : ∀ M : Mem, rngK [.int 128] M = .ok ⟨(List.range' 0 128).map fun j : Nat => D.int (j : Int), fun _ => true⟩ M := fun M => by
    rw [rngN (by omega) (by omega)]
    show LD.R.ok (Src.mk (rangeL 0 128 1) fun _ => true) _ = _
    rw [rng']
  have hpl := places_bd2 (xs := xs) (by omega)
  have hL : (natsD (places xs)).length ≤ LINE := by rw [natsD_len]; omega
  have hcm : compV (fun _ => true) (gNm 7) tTrue (eBin ixD (eVar 0) (eVar 7)) [some (.ref N), some (.lst (natsD (places xs))), y2, y3, none, y5, none, none] (natsD (places xs)) M = .ok ((rowOf xs (places xs)).map .int) M := by
    have e := compV_map (M := M) (s := [some (.ref N), some (.lst (natsD (places xs))), y2, y3, none, y5, none, none]) (γ := gNm 7) (τ := tTrue) (φ := eBin ixD (eVar 0) (eVar 7)) (chk := fun _ => true) (e := fun q : Nat => D.int (q : Int)) (g := fun q : Nat => D.int (xs.getD q 0)) (p := fun _ => true) rfl (as := places xs) fun q hq => ⟨[some (.ref N), some (.lst (natsD (places xs))), y2, y3, none, y5, none, some (.int (q : Int))], rfl, rfl, fun _ => by
      have ax := ix_l (isl_r hN) (getD_at (places_lt hq))
      rw [v_rix, hN, rixK_l] at ax
      simp only [LD.v_lenO, LD.v_eqQi, LD.v_neQi, LD.v_mulGi, LD.q_Ins, LD.q_App, LD.okS_t, LD.v_isLst, LD.lstK_s, LD.v_app, LD.q_Rev, LD.lsK_s, LD.q_Get, LD.getKK_s, LD.v_lsL, LD.v_keyI, LD.v_keyS, Option.isSome_some, Option.isSome_none, Option.getD_some, Option.getD_none, LD.v_eqs, LD.v_nes, LD.v_isiBb, LD.q_C, LD.q_Var, LD.q_Bin, LD.q_Un, LD.q_tOf, LD.q_tCmp, LD.q_tAnd, LD.q_tOr, LD.q_tNot, LD.q_And, LD.q_Or, LD.q_Not, LD.q_If, LD.q_Nil, LD.q_Cons, LD.q_Tup, LD.q_Lst, LD.q_LstM, LD.q_Call, LD.q_Meth, LD.q_Attr, LD.q_Blt, LD.q_Comp, LD.q_iOf, LD.srcK_s, LD.v_truB, LD.v_truL, LD.v_truN, LD.v_srcL, LD.v_neg, LD.q_iRange, LD.q_Next, LD.q_Seq, LD.q_Expr, LD.q_Ret, LD.q_RetN, LD.q_SIf, LD.q_Bk, LD.q_Ct, LD.q_Asg, LD.q_Nm, LD.q_Sub, LD.q_Del, LD.q_Fld, LD.q_Dic, LD.q_For, LD.wipeD, Bool.not_true, Bool.not_false, LD.ifT, LD.le0, LD.le1, LD.le2, LD.le3, LD.le4, LD.le5, LD.le6, LD.cmpK_l, LD.nn_n, LD.nn_i, LD.nn_t, LD.nn_l, LD.nn_r, LD.nn_b, LD.nn_s, LD.nonK_n, LD.okK_o, LD.bind_k, LD.bind_b, LD.bind_e, LD.bindS_k, LD.bindS_e, LD.ofO_s, LD.getV_s, LD.truK_s, LD.blK_b, LD.refK_r, LD.insK_i, LD.lookK_s, LD.lookK_n, LD.refS_r, LD.insS_i, LD.lookS_s, LD.seq_n, LD.seq_r, LD.seq_b, LD.seq_c, LD.seq_e, LD.storeK_s, LD.memK_s, LD.endF_n, LD.endF_r, LD.endF_e, LD.pick_t, LD.pick_f, LD.finL_f, LD.finL_t, LD.v_add, LD.v_sub, LD.v_mulR, LD.v_fdiv, LD.v_mod, LD.v_int, LD.v_lt, LD.v_le, LD.v_gt, LD.v_ge, LD.v_eq, LD.v_ne, LD.v_len, LD.v_tix, LD.v_lix, LD.v_rix, LD.rixK_l, LD.rixK_d, LD.v_isN, LD.v_isnN, LD.v_isNone, LD.v_isNoneN, LD.startD, List.length_cons, List.length_nil, List.map_cons, List.map_nil, List.cons_append, List.nil_append, List.append_nil, List.getElem?_cons_zero, List.getElem?_cons_succ, List.set_cons_zero, List.set_cons_succ, List.replicate_succ, List.replicate_zero, Nat.reduceAdd, Nat.reduceSub, Nat.reduceBEq, Int.reduceLT, Int.reduceNeg, Int.reduceLE, Nat.reduceLeDiff, Nat.reduceLT, List.lookup_cons, List.lookup_nil, beq_self_eq_true, Option.map_some, Option.map_none, hN, ax]⟩
    rw [filt] at e
    have e1 : (places xs).map (fun q : Nat => D.int (xs.getD q 0)) = (rowOf xs (places xs)).map .int := by
      unfold rowOf
      rw [List.map_map] <;> rfl
    have e2 : (places xs).map (fun q : Nat => D.int (q : Int)) = natsD (places xs) := by
      unfold natsD
      rw [List.map_map] <;> rfl
    rw [e1, e2] at e
    exact e
  unfold φ__law_all
  refine run_def rfl ?_
  unfold ψ__law_all
  simp only [LD.v_lenO, LD.v_eqQi, LD.v_neQi, LD.v_mulGi, LD.q_Ins, LD.q_App, LD.okS_t, LD.v_isLst, LD.lstK_s, LD.v_app, LD.q_Rev, LD.lsK_s, LD.q_Get, LD.getKK_s, LD.v_lsL, LD.v_keyI, LD.v_keyS, Option.isSome_some, Option.isSome_none, Option.getD_some, Option.getD_none, LD.v_eqs, LD.v_nes, LD.v_isiBb, LD.q_C, LD.q_Var, LD.q_Bin, LD.q_Un, LD.q_tOf, LD.q_tCmp, LD.q_tAnd, LD.q_tOr, LD.q_tNot, LD.q_And, LD.q_Or, LD.q_Not, LD.q_If, LD.q_Nil, LD.q_Cons, LD.q_Tup, LD.q_Lst, LD.q_LstM, LD.q_Call, LD.q_Meth, LD.q_Attr, LD.q_Blt, LD.q_Comp, LD.q_iOf, LD.srcK_s, LD.v_truB, LD.v_truL, LD.v_truN, LD.v_srcL, LD.v_neg, LD.q_iRange, LD.q_Next, LD.q_Seq, LD.q_Expr, LD.q_Ret, LD.q_RetN, LD.q_SIf, LD.q_Bk, LD.q_Ct, LD.q_Asg, LD.q_Nm, LD.q_Sub, LD.q_Del, LD.q_Fld, LD.q_Dic, LD.q_For, LD.wipeD, Bool.not_true, Bool.not_false, LD.ifT, LD.le0, LD.le1, LD.le2, LD.le3, LD.le4, LD.le5, LD.le6, LD.cmpK_l, LD.nn_n, LD.nn_i, LD.nn_t, LD.nn_l, LD.nn_r, LD.nn_b, LD.nn_s, LD.nonK_n, LD.okK_o, LD.bind_k, LD.bind_b, LD.bind_e, LD.bindS_k, LD.bindS_e, LD.ofO_s, LD.getV_s, LD.truK_s, LD.blK_b, LD.refK_r, LD.insK_i, LD.lookK_s, LD.lookK_n, LD.refS_r, LD.insS_i, LD.lookS_s, LD.seq_n, LD.seq_r, LD.seq_b, LD.seq_c, LD.seq_e, LD.storeK_s, LD.memK_s, LD.endF_n, LD.endF_r, LD.endF_e, LD.pick_t, LD.pick_f, LD.finL_f, LD.finL_t, LD.v_add, LD.v_sub, LD.v_mulR, LD.v_fdiv, LD.v_mod, LD.v_int, LD.v_lt, LD.v_le, LD.v_gt, LD.v_ge, LD.v_eq, LD.v_ne, LD.v_len, LD.v_tix, LD.v_lix, LD.v_rix, LD.rixK_l, LD.rixK_d, LD.v_isN, LD.v_isnN, LD.v_isNone, LD.v_isNoneN, LD.startD, List.length_cons, List.length_nil, List.map_cons, List.map_nil, List.cons_append, List.nil_append, List.append_nil, List.getElem?_cons_zero, List.getElem?_cons_succ, List.set_cons_zero, List.set_cons_succ, List.replicate_succ, List.replicate_zero, Nat.reduceAdd, Nat.reduceSub, Nat.reduceBEq, Int.reduceLT, Int.reduceNeg, Int.reduceLE, Nat.reduceLeDiff, Nat.reduceLT, List.lookup_cons, List.lookup_nil, beq_self_eq_true, Option.map_some, Option.map_none, hpw, hrn, e, cmpK_l hL, hcm]
end K30
namespace K30
open PySem PySem.Spec PyProof.Rows L2 LD
/-! ### the law -/
theorem at0' {z : Int} : atI [D.int z] 0 = some (.int z) := rfl
theorem digit_eq {M : Mem} {t : Nat} {z m : Int} (h : M[t]? = some (.lst [.int z])) (hm : 0 < m) (hm2 : m < 1073741824) : φ__law_digit [.ref t, .int m] M = .ok (.int (z % m)) (M.set t (.lst [.int (z / m)])) := by
  have hs : ∀ w : D, setD (.ref t) (.int 0) w M = some (M.set t (.lst [w])) := fun w => by
    simp only [setD, h]
    rfl
  unfold φ__law_digit
  refine run_def rfl ?_
  unfold ψ__law_digit
  simp only [LD.v_lenO, LD.v_eqQi, LD.v_neQi, LD.v_mulGi, LD.q_Ins, LD.q_App, LD.okS_t, LD.v_isLst, LD.lstK_s, LD.v_app, LD.q_Rev, LD.lsK_s, LD.q_Get, LD.getKK_s, LD.v_lsL, LD.v_keyI, LD.v_keyS, Option.isSome_some, Option.isSome_none, Option.getD_some, Option.getD_none, LD.v_eqs, LD.v_nes, LD.v_isiBb, LD.q_C, LD.q_Var, LD.q_Bin, LD.q_Un, LD.q_tOf, LD.q_tCmp, LD.q_tAnd, LD.q_tOr, LD.q_tNot, LD.q_And, LD.q_Or, LD.q_Not, LD.q_If, LD.q_Nil, LD.q_Cons, LD.q_Tup, LD.q_Lst, LD.q_LstM, LD.q_Call, LD.q_Meth, LD.q_Attr, LD.q_Blt, LD.q_Comp, LD.q_iOf, LD.srcK_s, LD.v_truB, LD.v_truL, LD.v_truN, LD.v_srcL, LD.v_neg, LD.q_iRange, LD.q_Next, LD.q_Seq, LD.q_Expr, LD.q_Ret, LD.q_RetN, LD.q_SIf, LD.q_Bk, LD.q_Ct, LD.q_Asg, LD.q_Nm, LD.q_Sub, LD.q_Del, LD.q_Fld, LD.q_Dic, LD.q_For, LD.wipeD, Bool.not_true, Bool.not_false, LD.ifT, LD.le0, LD.le1, LD.le2, LD.le3, LD.le4, LD.le5, LD.le6, LD.cmpK_l, LD.nn_n, LD.nn_i, LD.nn_t, LD.nn_l, LD.nn_r, LD.nn_b, LD.nn_s, LD.nonK_n, LD.okK_o, LD.bind_k, LD.bind_b, LD.bind_e, LD.bindS_k, LD.bindS_e, LD.ofO_s, LD.getV_s, LD.truK_s, LD.blK_b, LD.refK_r, LD.insK_i, LD.lookK_s, LD.lookK_n, LD.refS_r, LD.insS_i, LD.lookS_s, LD.seq_n, LD.seq_r, LD.seq_b, LD.seq_c, LD.seq_e, LD.storeK_s, LD.memK_s, LD.endF_n, LD.endF_r, LD.endF_e, LD.pick_t, LD.pick_f, LD.finL_f, LD.finL_t, LD.v_add, LD.v_sub, LD.v_mulR, LD.v_fdiv, LD.v_mod, LD.v_int, LD.v_lt, LD.v_le, LD.v_gt, LD.v_ge, LD.v_eq, LD.v_ne, LD.v_len, LD.v_tix, LD.v_lix, LD.v_rix, LD.rixK_l, LD.rixK_d, LD.v_isN, LD.v_isnN, LD.v_isNone, LD.v_isNoneN, LD.startD, List.length_cons, List.length_nil, List.map_cons, List.map_nil, List.cons_append, List.nil_append, List.append_nil, List.getElem?_cons_zero, List.getElem?_cons_succ, List.set_cons_zero, List.set_cons_succ, List.replicate_succ, List.replicate_zero, Nat.reduceAdd, Nat.reduceSub, Nat.reduceBEq, Int.reduceLT, Int.reduceNeg, Int.reduceLE, Nat.reduceLeDiff, Nat.reduceLT, List.lookup_cons, List.lookup_nil, beq_self_eq_true, Option.map_some, Option.map_none, h, at0', hs, hm, hm2]
theorem cell_eq (ns : List Int) (k : Nat) (M : Mem) : ∃ c, φ__law_cell [intsD ns, .int k] M = .ok (.int c) M := by
  have hl : lenC [.lst (ns.map D.int)] M = some (.int (ns.map D.int).length, M) := rfl
  by_cases hk : (k : Int) < (ns.map D.int).length
  · have hk' : k < ns.length := by rw [List.length_map] at hk; omega
    have hx : atI (ns.map D.int) (k : Int) = some (.int ns[k]) := atN (by rw [List.getElem?_map, List.getElem?_eq_getElem hk'] <;> rfl)
    refine ⟨ns[k], ?_⟩
    unfold φ__law_cell
    refine run_def rfl ?_
    unfold ψ__law_cell intsD
    simp only [LD.v_lenO, LD.v_eqQi, LD.v_neQi, LD.v_mulGi, LD.q_Ins, LD.q_App, LD.okS_t, LD.v_isLst, LD.lstK_s, LD.v_app, LD.q_Rev, LD.lsK_s, LD.q_Get, LD.getKK_s, LD.v_lsL, LD.v_keyI, LD.v_keyS, Option.isSome_some, Option.isSome_none, Option.getD_some, Option.getD_none, LD.v_eqs, LD.v_nes, LD.v_isiBb, LD.q_C, LD.q_Var, LD.q_Bin, LD.q_Un, LD.q_tOf, LD.q_tCmp, LD.q_tAnd, LD.q_tOr, LD.q_tNot, LD.q_And, LD.q_Or, LD.q_Not, LD.q_If, LD.q_Nil, LD.q_Cons, LD.q_Tup, LD.q_Lst, LD.q_LstM, LD.q_Call, LD.q_Meth, LD.q_Attr, LD.q_Blt, LD.q_Comp, LD.q_iOf, LD.srcK_s, LD.v_truB, LD.v_truL, LD.v_truN, LD.v_srcL, LD.v_neg, LD.q_iRange, LD.q_Next, LD.q_Seq, LD.q_Expr, LD.q_Ret, LD.q_RetN, LD.q_SIf, LD.q_Bk, LD.q_Ct, LD.q_Asg, LD.q_Nm, LD.q_Sub, LD.q_Del, LD.q_Fld, LD.q_Dic, LD.q_For, LD.wipeD, Bool.not_true, Bool.not_false, LD.ifT, LD.le0, LD.le1, LD.le2, LD.le3, LD.le4, LD.le5, LD.le6, LD.cmpK_l, LD.nn_n, LD.nn_i, LD.nn_t, LD.nn_l, LD.nn_r, LD.nn_b, LD.nn_s, LD.nonK_n, LD.okK_o, LD.bind_k, LD.bind_b, LD.bind_e, LD.bindS_k, LD.bindS_e, LD.ofO_s, LD.getV_s, LD.truK_s, LD.blK_b, LD.refK_r, LD.insK_i, LD.lookK_s, LD.lookK_n, LD.refS_r, LD.insS_i, LD.lookS_s, LD.seq_n, LD.seq_r, LD.seq_b, LD.seq_c, LD.seq_e, LD.storeK_s, LD.memK_s, LD.endF_n, LD.endF_r, LD.endF_e, LD.pick_t, LD.pick_f, LD.finL_f, LD.finL_t, LD.v_add, LD.v_sub, LD.v_mulR, LD.v_fdiv, LD.v_mod, LD.v_int, LD.v_lt, LD.v_le, LD.v_gt, LD.v_ge, LD.v_eq, LD.v_ne, LD.v_len, LD.v_tix, LD.v_lix, LD.v_rix, LD.rixK_l, LD.rixK_d, LD.v_isN, LD.v_isnN, LD.v_isNone, LD.v_isNoneN, LD.startD, List.length_cons, List.length_nil, List.map_cons, List.map_nil, List.cons_append, List.nil_append, List.append_nil, List.getElem?_cons_zero, List.getElem?_cons_succ, List.set_cons_zero, List.set_cons_succ, List.replicate_succ, List.replicate_zero, Nat.reduceAdd, Nat.reduceSub, Nat.reduceBEq, Int.reduceLT, Int.reduceNeg, Int.reduceLE, Nat.reduceLeDiff, Nat.reduceLT, List.lookup_cons, List.lookup_nil, beq_self_eq_true, Option.map_some, Option.map_none, hl, decide_eq_true hk, hx]
  · refine ⟨0, ?_⟩
    unfold φ__law_cell
    refine run_def rfl ?_
    unfold ψ__law_cell intsD
    simp only [LD.v_lenO, LD.v_eqQi, LD.v_neQi, LD.v_mulGi, LD.q_Ins, LD.q_App, LD.okS_t, LD.v_isLst, LD.lstK_s, LD.v_app, LD.q_Rev, LD.lsK_s, LD.q_Get, LD.getKK_s, LD.v_lsL, LD.v_keyI, LD.v_keyS, Option.isSome_some, Option.isSome_none, Option.getD_some, Option.getD_none, LD.v_eqs, LD.v_nes, LD.v_isiBb, LD.q_C, LD.q_Var, LD.q_Bin, LD.q_Un, LD.q_tOf, LD.q_tCmp, LD.q_tAnd, LD.q_tOr, LD.q_tNot, LD.q_And, LD.q_Or, LD.q_Not, LD.q_If, LD.q_Nil, LD.q_Cons, LD.q_Tup, LD.q_Lst, LD.q_LstM, LD.q_Call, LD.q_Meth, LD.q_Attr, LD.q_Blt, LD.q_Comp, LD.q_iOf, LD.srcK_s, LD.v_truB, LD.v_truL, LD.v_truN, LD.v_srcL, LD.v_neg, LD.q_iRange, LD.q_Next, LD.q_Seq, LD.q_Expr, LD.q_Ret, LD.q_RetN, LD.q_SIf, LD.q_Bk, LD.q_Ct, LD.q_Asg, LD.q_Nm, LD.q_Sub, LD.q_Del, LD.q_Fld, LD.q_Dic, LD.q_For, LD.wipeD, Bool.not_true, Bool.not_false, LD.ifT, LD.le0, LD.le1, LD.le2, LD.le3, LD.le4, LD.le5, LD.le6, LD.cmpK_l, LD.nn_n, LD.nn_i, LD.nn_t, LD.nn_l, LD.nn_r, LD.nn_b, LD.nn_s, LD.nonK_n, LD.okK_o, LD.bind_k, LD.bind_b, LD.bind_e, LD.bindS_k, LD.bindS_e, LD.ofO_s, LD.getV_s, LD.truK_s, LD.blK_b, LD.refK_r, LD.insK_i, LD.lookK_s, LD.lookK_n, LD.refS_r, LD.insS_i, LD.lookS_s, LD.seq_n, LD.seq_r, LD.seq_b, LD.seq_c, LD.seq_e, LD.storeK_s, LD.memK_s, LD.endF_n, LD.endF_r, LD.endF_e, LD.pick_t, LD.pick_f, LD.finL_f, LD.finL_t, LD.v_add, LD.v_sub, LD.v_mulR, LD.v_fdiv, LD.v_mod, LD.v_int, LD.v_lt, LD.v_le, LD.v_gt, LD.v_ge, LD.v_eq, LD.v_ne, LD.v_len, LD.v_tix, LD.v_lix, LD.v_rix, LD.rixK_l, LD.rixK_d, LD.v_isN, LD.v_isnN, LD.v_isNone, LD.v_isNoneN, LD.startD, List.length_cons, List.length_nil, List.map_cons, List.map_nil, List.cons_append, List.nil_append, List.append_nil, List.getElem?_cons_zero, List.getElem?_cons_succ, List.set_cons_zero, List.set_cons_succ, List.replicate_succ, List.replicate_zero, Nat.reduceAdd, Nat.reduceSub, Nat.reduceBEq, Int.reduceLT, Int.reduceNeg, Int.reduceLE, Nat.reduceLeDiff, Nat.reduceLT, List.lookup_cons, List.lookup_nil, beq_self_eq_true, Option.map_some, Option.map_none, hl, decide_eq_false hk]
theorem start_eq (c : Int) (k : Nat) (M : Mem) : ∃ z, φ__law_start [.int c, .int k] M = .ok (.ref M.length) (M ++ [.lst [.int z]]) := by
  have hneg : ∀ M : Mem, negD (.int 1000000000000000000) M = some (.int (-1000000000000000000), M) := fun _ => rfl
  have l1 : 1 ≤ LINE := by have := big; omega
  by_cases h1 : -1000000000000000000 < c
  · by_cases h2 : c < 1000000000000000000
    · generalize hw : (c * 2654435761 + ((k : Int) + 1) * 6700417) % 618970019642690137449562111 = w
      have w0 : 0 ≤ w := by rw [← hw]; exact Int.emod_nonneg _ (by decide)
      have w1 : w < 618970019642690137449562111 := by rw [← hw]; exact Int.emod_lt_of_pos _ (by decide)
      have wn : w.natAbs < 2 ^ 128 := by
        have : (2 : Nat) ^ 128 = 340282366920938463463374607431768211456 := by rfl
        rw [this]
        omega
      have m1 : ∀ M : Mem, mulH (.int w) (.int w) M = some (.int (w * w), M) := fun M => v_mulH wn wn
      have m2 : ∀ M : Mem, mulH (.int 7) (.int w) M = some (.int (7 * w), M) := fun M => v_mulH (by decide) wn
      have md : ∀ (i : Int) (M : Mem), modD (.int i) (.int 618970019642690137449562111) M = some (.int (i % 618970019642690137449562111), M) := fun i M => LD.v_mod (by decide)
      refine ⟨(w * w + 7 * w + (k : Int)) % 618970019642690137449562111, ?_⟩
      unfold φ__law_start
      refine run_def rfl ?_
      unfold ψ__law_start
      simp only [LD.v_lenO, LD.v_eqQi, LD.v_neQi, LD.v_mulGi, LD.q_Ins, LD.q_App, LD.okS_t, LD.v_isLst, LD.lstK_s, LD.v_app, LD.q_Rev, LD.lsK_s, LD.q_Get, LD.getKK_s, LD.v_lsL, LD.v_keyI, LD.v_keyS, Option.isSome_some, Option.isSome_none, Option.getD_some, Option.getD_none, LD.v_eqs, LD.v_nes, LD.v_isiBb, LD.q_C, LD.q_Var, LD.q_Bin, LD.q_Un, LD.q_tOf, LD.q_tCmp, LD.q_tAnd, LD.q_tOr, LD.q_tNot, LD.q_And, LD.q_Or, LD.q_Not, LD.q_If, LD.q_Nil, LD.q_Cons, LD.q_Tup, LD.q_Lst, LD.q_LstM, LD.q_Call, LD.q_Meth, LD.q_Attr, LD.q_Blt, LD.q_Comp, LD.q_iOf, LD.srcK_s, LD.v_truB, LD.v_truL, LD.v_truN, LD.v_srcL, LD.v_neg, LD.q_iRange, LD.q_Next, LD.q_Seq, LD.q_Expr, LD.q_Ret, LD.q_RetN, LD.q_SIf, LD.q_Bk, LD.q_Ct, LD.q_Asg, LD.q_Nm, LD.q_Sub, LD.q_Del, LD.q_Fld, LD.q_Dic, LD.q_For, LD.wipeD, Bool.not_true, Bool.not_false, LD.ifT, LD.le0, LD.le1, LD.le2, LD.le3, LD.le4, LD.le5, LD.le6, LD.cmpK_l, LD.nn_n, LD.nn_i, LD.nn_t, LD.nn_l, LD.nn_r, LD.nn_b, LD.nn_s, LD.nonK_n, LD.okK_o, LD.bind_k, LD.bind_b, LD.bind_e, LD.bindS_k, LD.bindS_e, LD.ofO_s, LD.getV_s, LD.truK_s, LD.blK_b, LD.refK_r, LD.insK_i, LD.lookK_s, LD.lookK_n, LD.refS_r, LD.insS_i, LD.lookS_s, LD.seq_n, LD.seq_r, LD.seq_b, LD.seq_c, LD.seq_e, LD.storeK_s, LD.memK_s, LD.endF_n, LD.endF_r, LD.endF_e, LD.pick_t, LD.pick_f, LD.finL_f, LD.finL_t, LD.v_add, LD.v_sub, LD.v_mulR, LD.v_fdiv, LD.v_mod, LD.v_int, LD.v_lt, LD.v_le, LD.v_gt, LD.v_ge, LD.v_eq, LD.v_ne, LD.v_len, LD.v_tix, LD.v_lix, LD.v_rix, LD.rixK_l, LD.rixK_d, LD.v_isN, LD.v_isnN, LD.v_isNone, LD.v_isNoneN, LD.startD, List.length_cons, List.length_nil, List.map_cons, List.map_nil, List.cons_append, List.nil_append, List.append_nil, List.getElem?_cons_zero, List.getElem?_cons_succ, List.set_cons_zero, List.set_cons_succ, List.replicate_succ, List.replicate_zero, Nat.reduceAdd, Nat.reduceSub, Nat.reduceBEq, Int.reduceLT, Int.reduceNeg, Int.reduceLE, Nat.reduceLeDiff, Nat.reduceLT, List.lookup_cons, List.lookup_nil, beq_self_eq_true, Option.map_some, Option.map_none, q_tCh, hneg, blC_t, blC_f, decide_eq_true h1, decide_eq_true h2, md, hw, m1, m2, if_pos l1]
    · refine ⟨if c < 0 then -c else c, ?_⟩
      have ha : ∀ M : Mem, absC [.int c] M = some (.int (if c < 0 then -c else c), M) := fun _ => rfl
      unfold φ__law_start
      refine run_def rfl ?_
      unfold ψ__law_start
      simp only [LD.v_lenO, LD.v_eqQi, LD.v_neQi, LD.v_mulGi, LD.q_Ins, LD.q_App, LD.okS_t, LD.v_isLst, LD.lstK_s, LD.v_app, LD.q_Rev, LD.lsK_s, LD.q_Get, LD.getKK_s, LD.v_lsL, LD.v_keyI, LD.v_keyS, Option.isSome_some, Option.isSome_none, Option.getD_some, Option.getD_none, LD.v_eqs, LD.v_nes, LD.v_isiBb, LD.q_C, LD.q_Var, LD.q_Bin, LD.q_Un, LD.q_tOf, LD.q_tCmp, LD.q_tAnd, LD.q_tOr, LD.q_tNot, LD.q_And, LD.q_Or, LD.q_Not, LD.q_If, LD.q_Nil, LD.q_Cons, LD.q_Tup, LD.q_Lst, LD.q_LstM, LD.q_Call, LD.q_Meth, LD.q_Attr, LD.q_Blt, LD.q_Comp, LD.q_iOf, LD.srcK_s, LD.v_truB, LD.v_truL, LD.v_truN, LD.v_srcL, LD.v_neg, LD.q_iRange, LD.q_Next, LD.q_Seq, LD.q_Expr, LD.q_Ret, LD.q_RetN, LD.q_SIf, LD.q_Bk, LD.q_Ct, LD.q_Asg, LD.q_Nm, LD.q_Sub, LD.q_Del, LD.q_Fld, LD.q_Dic, LD.q_For, LD.wipeD, Bool.not_true, Bool.not_false, LD.ifT, LD.le0, LD.le1, LD.le2, LD.le3, LD.le4, LD.le5, LD.le6, LD.cmpK_l, LD.nn_n, LD.nn_i, LD.nn_t, LD.nn_l, LD.nn_r, LD.nn_b, LD.nn_s, LD.nonK_n, LD.okK_o, LD.bind_k, LD.bind_b, LD.bind_e, LD.bindS_k, LD.bindS_e, LD.ofO_s, LD.getV_s, LD.truK_s, LD.blK_b, LD.refK_r, LD.insK_i, LD.lookK_s, LD.lookK_n, LD.refS_r, LD.insS_i, LD.lookS_s, LD.seq_n, LD.seq_r, LD.seq_b, LD.seq_c, LD.seq_e, LD.storeK_s, LD.memK_s, LD.endF_n, LD.endF_r, LD.endF_e, LD.pick_t, LD.pick_f, LD.finL_f, LD.finL_t, LD.v_add, LD.v_sub, LD.v_mulR, LD.v_fdiv, LD.v_mod, LD.v_int, LD.v_lt, LD.v_le, LD.v_gt, LD.v_ge, LD.v_eq, LD.v_ne, LD.v_len, LD.v_tix, LD.v_lix, LD.v_rix, LD.rixK_l, LD.rixK_d, LD.v_isN, LD.v_isnN, LD.v_isNone, LD.v_isNoneN, LD.startD, List.length_cons, List.length_nil, List.map_cons, List.map_nil, List.cons_append, List.nil_append, List.append_nil, List.getElem?_cons_zero, List.getElem?_cons_succ, List.set_cons_zero, List.set_cons_succ, List.replicate_succ, List.replicate_zero, Nat.reduceAdd, Nat.reduceSub, Nat.reduceBEq, Int.reduceLT, Int.reduceNeg, Int.reduceLE, Nat.reduceLeDiff, Nat.reduceLT, List.lookup_cons, List.lookup_nil, beq_self_eq_true, Option.map_some, Option.map_none, q_tCh, hneg, blC_t, blC_f, decide_eq_true h1, decide_eq_false h2, ha, if_pos l1]
  · refine ⟨if c < 0 then -c else c, ?_⟩
    have ha : ∀ M : Mem, absC [.int c] M = some (.int (if c < 0 then -c else c), M) := fun _ => rfl
    unfold φ__law_start
    refine run_def rfl ?_
    unfold ψ__law_start
    simp only [LD.v_lenO, LD.v_eqQi, LD.v_neQi, LD.v_mulGi, LD.q_Ins, LD.q_App, LD.okS_t, LD.v_isLst, LD.lstK_s, LD.v_app, LD.q_Rev, LD.lsK_s, LD.q_Get, LD.getKK_s, LD.v_lsL, LD.v_keyI, LD.v_keyS, Option.isSome_some, Option.isSome_none, Option.getD_some, Option.getD_none, LD.v_eqs, LD.v_nes, LD.v_isiBb, LD.q_C, LD.q_Var, LD.q_Bin, LD.q_Un, LD.q_tOf, LD.q_tCmp, LD.q_tAnd, LD.q_tOr, LD.q_tNot, LD.q_And, LD.q_Or, LD.q_Not, LD.q_If, LD.q_Nil, LD.q_Cons, LD.q_Tup, LD.q_Lst, LD.q_LstM, LD.q_Call, LD.q_Meth, LD.q_Attr, LD.q_Blt, LD.q_Comp, LD.q_iOf, LD.srcK_s, LD.v_truB, LD.v_truL, LD.v_truN, LD.v_srcL, LD.v_neg, LD.q_iRange, LD.q_Next, LD.q_Seq, LD.q_Expr, LD.q_Ret, LD.q_RetN, LD.q_SIf, LD.q_Bk, LD.q_Ct, LD.q_Asg, LD.q_Nm, LD.q_Sub, LD.q_Del, LD.q_Fld, LD.q_Dic, LD.q_For, LD.wipeD, Bool.not_true, Bool.not_false, LD.ifT, LD.le0, LD.le1, LD.le2, LD.le3, LD.le4, LD.le5, LD.le6, LD.cmpK_l, LD.nn_n, LD.nn_i, LD.nn_t, LD.nn_l, LD.nn_r, LD.nn_b, LD.nn_s, LD.nonK_n, LD.okK_o, LD.bind_k, LD.bind_b, LD.bind_e, LD.bindS_k, LD.bindS_e, LD.ofO_s, LD.getV_s, LD.truK_s, LD.blK_b, LD.refK_r, LD.insK_i, LD.lookK_s, LD.lookK_n, LD.refS_r, LD.insS_i, LD.lookS_s, LD.seq_n, LD.seq_r, LD.seq_b, LD.seq_c, LD.seq_e, LD.storeK_s, LD.memK_s, LD.endF_n, LD.endF_r, LD.endF_e, LD.pick_t, LD.pick_f, LD.finL_f, LD.finL_t, LD.v_add, LD.v_sub, LD.v_mulR, LD.v_fdiv, LD.v_mod, LD.v_int, LD.v_lt, LD.v_le, LD.v_gt, LD.v_ge, LD.v_eq, LD.v_ne, LD.v_len, LD.v_tix, LD.v_lix, LD.v_rix, LD.rixK_l, LD.rixK_d, LD.v_isN, LD.v_isnN, LD.v_isNone, LD.v_isNoneN, LD.startD, List.length_cons, List.length_nil, List.map_cons, List.map_nil, List.cons_append, List.nil_append, List.append_nil, List.getElem?_cons_zero, List.getElem?_cons_succ, List.set_cons_zero, List.set_cons_succ, List.replicate_succ, List.replicate_zero, Nat.reduceAdd, Nat.reduceSub, Nat.reduceBEq, Int.reduceLT, Int.reduceNeg, Int.reduceLE, Nat.reduceLeDiff, Nat.reduceLT, List.lookup_cons, List.lookup_nil, beq_self_eq_true, Option.map_some, Option.map_none, q_tCh, hneg, blC_t, blC_f, decide_eq_false h1, ha, if_pos l1]
theorem dig1 {B : Mem} {z m : Int} (hm : 0 < m) (hm2 : m < 1073741824) : φ__law_digit [.ref B.length, .int m] (B ++ [.lst [.int z]]) = .ok (.int (z % m)) (B ++ [.lst [.int (z / m)]]) := by
  have := digit_eq (M := B ++ [.lst [.int z]]) (t := B.length) (m := m) app_at hm hm2
  rw [set_end] at this
  exact this
theorem dig2 {B : Mem} {z m : Int} {o : DO} (hm : 0 < m) (hm2 : m < 1073741824) : φ__law_digit [.ref B.length, .int m] (B ++ [.lst [.int z]] ++ [o]) = .ok (.int (z % m)) (B ++ [.lst [.int (z / m)]] ++ [o]) := by
  have hl : B.length < (B ++ [DO.lst [.int z]]).length := by rw [List.length_append]; exact Nat.lt_succ_self _
  have := digit_eq (M := B ++ [.lst [.int z]] ++ [o]) (t := B.length) (z := z) (m := m) (by rw [app_old hl]; exact app_at) hm hm2
  rw [List.set_append_left _ _ hl, set_end] at this
  exact this
theorem ln1 {B : Mem} {o : DO} : (B ++ [o]).length = B.length + 1 := by rw [List.length_append] <;> rfl
theorem app_at2 {B : Mem} {o o' : DO} : (B ++ [o] ++ [o'])[B.length + 1]? = some o' := by rw [← ln1 (o := o)]; exact app_at
theorem set_end2 {B : Mem} {o o' p : DO} : (B ++ [o] ++ [o']).set (B.length + 1) p = B ++ [o] ++ [p] := by rw [← ln1 (o := o), set_end]
def tail7 : SSem := (sSeq (sIf (tCmp (boD (notB inD)) (eVar 6) (eVar 4)) (sSeq (sExpr (eBm isLst appG (eVar 4) (aCons (eVar 6) aNil))) sNext) sNext) sNext)
theorem beta7 : β_law_7 = (sSeq (sAsg (gNm 6) (eBin subD (eCall φ__law_digit (aCons (eVar 2) (aCons (eC (.int 99)) aNil)) aNil) (eC (.int 40)))) (sSeq (sIf (tCmp (boD eqD) (eCall φ__law_digit (aCons (eVar 2) (aCons (eC (.int 5)) aNil)) aNil) (eC (.int 0))) (sSeq (sAsg (gNm 6) (eBin addD (eVar 6) (eBin powD (eC (.int 10)) (eC (.int 20))))) sNext) sNext) tail7)) := rfl
def tail1 : SSem := (sSeq (sAsg (gNm 4) (eLst true aNil)) (sSeq (sFor (iRange (aCons (eVar 3) aNil)) (gNm 5) β_law_7) (sSeq (sAsg (gNm 7) (eComp false (iOf (eVar 4)) (gNm 6) tTrue (eVar 6) [6])) (sSeq (sAsg (gNm 8) (eCall φ_best_row (aCons (eVar 4) aNil) aNil)) (sSeq (sIf (tOr (tNot (tOf (eBlt isiC (aCons (eVar 8) (aCons (eC (.ty "list")) aNil))))) (tOr (tNot (tOf (eCall φ__law_right (aCons (eVar 4) (aCons (eVar 8) aNil)) aNil))) (tCmp (boD (notB eqQ)) (eVar 4) (eVar 7)))) (sSeq (sRet (eC (.bl false))) sNext) sNext) (sSeq (sIf (tAnd (tCmp (boD ltB) (eBlt lenC (aCons (eVar 4) aNil)) (eC (.int 8))) (tCmp (boD (notB eqQ)) (eVar 8) (eCall φ__law_all (aCons (eVar 4) aNil) aNil))) (sSeq (sRet (eC (.bl false))) sNext) sNext) sNext))))))
theorem beta1 : β_law_1 = (sSeq (sAsg (gNm 2) (eCall φ__law_start (aCons (eCall φ__law_cell (aCons (eVar 0) (aCons (eVar 1) aNil)) aNil) (aCons (eVar 1) aNil)) aNil)) (sSeq (sAsg (gNm 3) (eCall φ__law_digit (aCons (eVar 2) (aCons (eC (.int 8)) aNil)) aNil)) (sSeq (sIf (tCmp (boD eqD) (eCall φ__law_digit (aCons (eVar 2) (aCons (eC (.int 4)) aNil)) aNil) (eC (.int 0))) (sSeq (sAsg (gNm 3) (eBin addD (eC (.int 10)) (eCall φ__law_digit (aCons (eVar 2) (aCons (eC (.int 30)) aNil)) aNil))) sNext) sNext) tail1))) := rfl
theorem num_step {B : Mem} {z : Int} {xs : List Int} (nd : xs.Nodup) (hl : xs.length < 900) {x0 x1 x3 x5 x6 x7 x8 : Option D} : ∃ (z' : Int) (xs' : List Int) (y6 : Option D), β_law_7 [x0, x1, some (.ref B.length), x3, some (.ref (B.length + 1)), x5, x6, x7, x8] (B ++ [.lst [.int z]] ++ [.lst (xs.map .int)]) = .nx [x0, x1, some (.ref B.length), x3, some (.ref (B.length + 1)), x5, y6, x7, x8] (B ++ [.lst [.int z']] ++ [.lst (xs'.map .int)]) ∧ xs'.Nodup ∧ xs'.length ≤ xs.length + 1 := by
  have hb := big
  have d1 := dig2 (B := B) (z := z) (o := .lst (xs.map .int)) (m := 99) (by decide) (by decide)
  have d2 := dig2 (B := B) (z := z / 99) (o := .lst (xs.map .int)) (m := 5) (by decide) (by decide)
  have hpw : ∀ M : Mem, powD (.int 10) (.int 20) M = some (.int 100000000000000000000, M) := fun _ => rfl
  have gN : (B ++ [DO.lst [.int (z / 99 / 5)]] ++ [.lst (xs.map .int)])[B.length + 1]? = some (.lst (xs.map .int)) := app_at2
  have hL : (xs.map D.int).length < LINE := by rw [List.length_map]; omega
  have key : ∀ w : Int, ∃ xs' : List Int, (if decide (w ∈ xs) = true then xs else xs ++ [w]) = xs' ∧ xs'.Nodup ∧ xs'.length ≤ xs.length + 1 := fun w => by
    by_cases h : w ∈ xs
    · exact ⟨xs, by rw [if_pos (decide_eq_true h)], nd, by omega⟩
    · refine ⟨xs ++ [w], by rw [if_neg (by rw [decide_eq_false h]; exact Bool.false_ne_true)], ?_, by rw [List.length_append]; exact Nat.le_refl _⟩
      refine List.nodup_append.mpr ⟨nd, List.nodup_cons.mpr ⟨(fun z => nomatch z), List.nodup_nil⟩, fun a ha b hb e => ?_⟩
      rw [List.mem_singleton] at hb
      subst hb
      subst e
      exact h ha
  have fin : ∀ w : Int, ∃ xs' : List Int, (xs'.Nodup ∧ xs'.length ≤ xs.length + 1) ∧ tail7 [x0, x1, some (.ref B.length), x3, some (.ref (B.length + 1)), x5, some (.int w), x7, x8] (B ++ [.lst [.int (z / 99 / 5)]] ++ [.lst (xs.map .int)]) = .nx [x0, x1, some (.ref B.length), x3, some (.ref (B.length + 1)), x5, some (.int w), x7, x8] (B ++ [.lst [.int (z / 99 / 5)]] ++ [.lst (xs'.map .int)]) := fun w => by
    obtain ⟨xs', e, n1, n2⟩ := key w
    refine ⟨xs', ⟨n1, n2⟩, ?_⟩
    have hn := notin_r (x := w) gN
    by_cases h : w ∈ xs
    · rw [if_pos (decide_eq_true h)] at e
      subst e
      rw [decide_eq_true h] at hn
      unfold tail7
      simp only [LD.v_lenO, LD.v_eqQi, LD.v_neQi, LD.v_mulGi, LD.q_Ins, LD.q_App, LD.okS_t, LD.v_isLst, LD.lstK_s, LD.v_app, LD.q_Rev, LD.lsK_s, LD.q_Get, LD.getKK_s, LD.v_lsL, LD.v_keyI, LD.v_keyS, Option.isSome_some, Option.isSome_none, Option.getD_some, Option.getD_none, LD.v_eqs, LD.v_nes, LD.v_isiBb, LD.q_C, LD.q_Var, LD.q_Bin, LD.q_Un, LD.q_tOf, LD.q_tCmp, LD.q_tAnd, LD.q_tOr, LD.q_tNot, LD.q_And, LD.q_Or, LD.q_Not, LD.q_If, LD.q_Nil, LD.q_Cons, LD.q_Tup, LD.q_Lst, LD.q_LstM, LD.q_Call, LD.q_Meth, LD.q_Attr, LD.q_Blt, LD.q_Comp, LD.q_iOf, LD.srcK_s, LD.v_truB, LD.v_truL, LD.v_truN, LD.v_srcL, LD.v_neg, LD.q_iRange, LD.q_Next, LD.q_Seq, LD.q_Expr, LD.q_Ret, LD.q_RetN, LD.q_SIf, LD.q_Bk, LD.q_Ct, LD.q_Asg, LD.q_Nm, LD.q_Sub, LD.q_Del, LD.q_Fld, LD.q_Dic, LD.q_For, LD.wipeD, Bool.not_true, Bool.not_false, LD.ifT, LD.le0, LD.le1, LD.le2, LD.le3, LD.le4, LD.le5, LD.le6, LD.cmpK_l, LD.nn_n, LD.nn_i, LD.nn_t, LD.nn_l, LD.nn_r, LD.nn_b, LD.nn_s, LD.nonK_n, LD.okK_o, LD.bind_k, LD.bind_b, LD.bind_e, LD.bindS_k, LD.bindS_e, LD.ofO_s, LD.getV_s, LD.truK_s, LD.blK_b, LD.refK_r, LD.insK_i, LD.lookK_s, LD.lookK_n, LD.refS_r, LD.insS_i, LD.lookS_s, LD.seq_n, LD.seq_r, LD.seq_b, LD.seq_c, LD.seq_e, LD.storeK_s, LD.memK_s, LD.endF_n, LD.endF_r, LD.endF_e, LD.pick_t, LD.pick_f, LD.finL_f, LD.finL_t, LD.v_add, LD.v_sub, LD.v_mulR, LD.v_fdiv, LD.v_mod, LD.v_int, LD.v_lt, LD.v_le, LD.v_gt, LD.v_ge, LD.v_eq, LD.v_ne, LD.v_len, LD.v_tix, LD.v_lix, LD.v_rix, LD.rixK_l, LD.rixK_d, LD.v_isN, LD.v_isnN, LD.v_isNone, LD.v_isNoneN, LD.startD, List.length_cons, List.length_nil, List.map_cons, List.map_nil, List.cons_append, List.nil_append, List.append_nil, List.getElem?_cons_zero, List.getElem?_cons_succ, List.set_cons_zero, List.set_cons_succ, List.replicate_succ, List.replicate_zero, Nat.reduceAdd, Nat.reduceSub, Nat.reduceBEq, Int.reduceLT, Int.reduceNeg, Int.reduceLE, Nat.reduceLeDiff, Nat.reduceLT, List.lookup_cons, List.lookup_nil, beq_self_eq_true, Option.map_some, Option.map_none, hn]
    · rw [if_neg (by rw [decide_eq_false h]; exact Bool.false_ne_true)] at e
      subst e
      rw [decide_eq_false h] at hn
      rw [List.map_append]
      unfold tail7
      simp only [LD.v_lenO, LD.v_eqQi, LD.v_neQi, LD.v_mulGi, LD.q_Ins, LD.q_App, LD.okS_t, LD.v_isLst, LD.lstK_s, LD.v_app, LD.q_Rev, LD.lsK_s, LD.q_Get, LD.getKK_s, LD.v_lsL, LD.v_keyI, LD.v_keyS, Option.isSome_some, Option.isSome_none, Option.getD_some, Option.getD_none, LD.v_eqs, LD.v_nes, LD.v_isiBb, LD.q_C, LD.q_Var, LD.q_Bin, LD.q_Un, LD.q_tOf, LD.q_tCmp, LD.q_tAnd, LD.q_tOr, LD.q_tNot, LD.q_And, LD.q_Or, LD.q_Not, LD.q_If, LD.q_Nil, LD.q_Cons, LD.q_Tup, LD.q_Lst, LD.q_LstM, LD.q_Call, LD.q_Meth, LD.q_Attr, LD.q_Blt, LD.q_Comp, LD.q_iOf, LD.srcK_s, LD.v_truB, LD.v_truL, LD.v_truN, LD.v_srcL, LD.v_neg, LD.q_iRange, LD.q_Next, LD.q_Seq, LD.q_Expr, LD.q_Ret, LD.q_RetN, LD.q_SIf, LD.q_Bk, LD.q_Ct, LD.q_Asg, LD.q_Nm, LD.q_Sub, LD.q_Del, LD.q_Fld, LD.q_Dic, LD.q_For, LD.wipeD, Bool.not_true, Bool.not_false, LD.ifT, LD.le0, LD.le1, LD.le2, LD.le3, LD.le4, LD.le5, LD.le6, LD.cmpK_l, LD.nn_n, LD.nn_i, LD.nn_t, LD.nn_l, LD.nn_r, LD.nn_b, LD.nn_s, LD.nonK_n, LD.okK_o, LD.bind_k, LD.bind_b, LD.bind_e, LD.bindS_k, LD.bindS_e, LD.ofO_s, LD.getV_s, LD.truK_s, LD.blK_b, LD.refK_r, LD.insK_i, LD.lookK_s, LD.lookK_n, LD.refS_r, LD.insS_i, LD.lookS_s, LD.seq_n, LD.seq_r, LD.seq_b, LD.seq_c, LD.seq_e, LD.storeK_s, LD.memK_s, LD.endF_n, LD.endF_r, LD.endF_e, LD.pick_t, LD.pick_f, LD.finL_f, LD.finL_t, LD.v_add, LD.v_sub, LD.v_mulR, LD.v_fdiv, LD.v_mod, LD.v_int, LD.v_lt, LD.v_le, LD.v_gt, LD.v_ge, LD.v_eq, LD.v_ne, LD.v_len, LD.v_tix, LD.v_lix, LD.v_rix, LD.rixK_l, LD.rixK_d, LD.v_isN, LD.v_isnN, LD.v_isNone, LD.v_isNoneN, LD.startD, List.length_cons, List.length_nil, List.map_cons, List.map_nil, List.cons_append, List.nil_append, List.append_nil, List.getElem?_cons_zero, List.getElem?_cons_succ, List.set_cons_zero, List.set_cons_succ, List.replicate_succ, List.replicate_zero, Nat.reduceAdd, Nat.reduceSub, Nat.reduceBEq, Int.reduceLT, Int.reduceNeg, Int.reduceLE, Nat.reduceLeDiff, Nat.reduceLT, List.lookup_cons, List.lookup_nil, beq_self_eq_true, Option.map_some, Option.map_none, hn, gN, appK_s hL, set_end2]
  by_cases h5 : z / 99 % 5 = 0
  · obtain ⟨xs', h1, h2⟩ := fin (z % 99 - 40 + 100000000000000000000)
    refine ⟨z / 99 / 5, xs', some (.int (z % 99 - 40 + 100000000000000000000)), ?_, h1⟩
    have hz : ((z / 99 % 5 : Int) == 0) = true := beq_iff_eq.mpr h5
    rw [beta7]
    simp only [LD.v_lenO, LD.v_eqQi, LD.v_neQi, LD.v_mulGi, LD.q_Ins, LD.q_App, LD.okS_t, LD.v_isLst, LD.lstK_s, LD.v_app, LD.q_Rev, LD.lsK_s, LD.q_Get, LD.getKK_s, LD.v_lsL, LD.v_keyI, LD.v_keyS, Option.isSome_some, Option.isSome_none, Option.getD_some, Option.getD_none, LD.v_eqs, LD.v_nes, LD.v_isiBb, LD.q_C, LD.q_Var, LD.q_Bin, LD.q_Un, LD.q_tOf, LD.q_tCmp, LD.q_tAnd, LD.q_tOr, LD.q_tNot, LD.q_And, LD.q_Or, LD.q_Not, LD.q_If, LD.q_Nil, LD.q_Cons, LD.q_Tup, LD.q_Lst, LD.q_LstM, LD.q_Call, LD.q_Meth, LD.q_Attr, LD.q_Blt, LD.q_Comp, LD.q_iOf, LD.srcK_s, LD.v_truB, LD.v_truL, LD.v_truN, LD.v_srcL, LD.v_neg, LD.q_iRange, LD.q_Next, LD.q_Seq, LD.q_Expr, LD.q_Ret, LD.q_RetN, LD.q_SIf, LD.q_Bk, LD.q_Ct, LD.q_Asg, LD.q_Nm, LD.q_Sub, LD.q_Del, LD.q_Fld, LD.q_Dic, LD.q_For, LD.wipeD, Bool.not_true, Bool.not_false, LD.ifT, LD.le0, LD.le1, LD.le2, LD.le3, LD.le4, LD.le5, LD.le6, LD.cmpK_l, LD.nn_n, LD.nn_i, LD.nn_t, LD.nn_l, LD.nn_r, LD.nn_b, LD.nn_s, LD.nonK_n, LD.okK_o, LD.bind_k, LD.bind_b, LD.bind_e, LD.bindS_k, LD.bindS_e, LD.ofO_s, LD.getV_s, LD.truK_s, LD.blK_b, LD.refK_r, LD.insK_i, LD.lookK_s, LD.lookK_n, LD.refS_r, LD.insS_i, LD.lookS_s, LD.seq_n, LD.seq_r, LD.seq_b, LD.seq_c, LD.seq_e, LD.storeK_s, LD.memK_s, LD.endF_n, LD.endF_r, LD.endF_e, LD.pick_t, LD.pick_f, LD.finL_f, LD.finL_t, LD.v_add, LD.v_sub, LD.v_mulR, LD.v_fdiv, LD.v_mod, LD.v_int, LD.v_lt, LD.v_le, LD.v_gt, LD.v_ge, LD.v_eq, LD.v_ne, LD.v_len, LD.v_tix, LD.v_lix, LD.v_rix, LD.rixK_l, LD.rixK_d, LD.v_isN, LD.v_isnN, LD.v_isNone, LD.v_isNoneN, LD.startD, List.length_cons, List.length_nil, List.map_cons, List.map_nil, List.cons_append, List.nil_append, List.append_nil, List.getElem?_cons_zero, List.getElem?_cons_succ, List.set_cons_zero, List.set_cons_succ, List.replicate_succ, List.replicate_zero, Nat.reduceAdd, Nat.reduceSub, Nat.reduceBEq, Int.reduceLT, Int.reduceNeg, Int.reduceLE, Nat.reduceLeDiff, Nat.reduceLT, List.lookup_cons, List.lookup_nil, beq_self_eq_true, Option.map_some, Option.map_none, d1, d2, hz, hpw, h2]
  · obtain ⟨xs', h1, h2⟩ := fin (z % 99 - 40)
    refine ⟨z / 99 / 5, xs', some (.int (z % 99 - 40)), ?_, h1⟩
    have hz : ((z / 99 % 5 : Int) == 0) = false := beq_eq_false_iff_ne.mpr h5
    rw [beta7]
    simp only [LD.v_lenO, LD.v_eqQi, LD.v_neQi, LD.v_mulGi, LD.q_Ins, LD.q_App, LD.okS_t, LD.v_isLst, LD.lstK_s, LD.v_app, LD.q_Rev, LD.lsK_s, LD.q_Get, LD.getKK_s, LD.v_lsL, LD.v_keyI, LD.v_keyS, Option.isSome_some, Option.isSome_none, Option.getD_some, Option.getD_none, LD.v_eqs, LD.v_nes, LD.v_isiBb, LD.q_C, LD.q_Var, LD.q_Bin, LD.q_Un, LD.q_tOf, LD.q_tCmp, LD.q_tAnd, LD.q_tOr, LD.q_tNot, LD.q_And, LD.q_Or, LD.q_Not, LD.q_If, LD.q_Nil, LD.q_Cons, LD.q_Tup, LD.q_Lst, LD.q_LstM, LD.q_Call, LD.q_Meth, LD.q_Attr, LD.q_Blt, LD.q_Comp, LD.q_iOf, LD.srcK_s, LD.v_truB, LD.v_truL, LD.v_truN, LD.v_srcL, LD.v_neg, LD.q_iRange, LD.q_Next, LD.q_Seq, LD.q_Expr, LD.q_Ret, LD.q_RetN, LD.q_SIf, LD.q_Bk, LD.q_Ct, LD.q_Asg, LD.q_Nm, LD.q_Sub, LD.q_Del, LD.q_Fld, LD.q_Dic, LD.q_For, LD.wipeD, Bool.not_true, Bool.not_false, LD.ifT, LD.le0, LD.le1, LD.le2, LD.le3, LD.le4, LD.le5, LD.le6, LD.cmpK_l, LD.nn_n, LD.nn_i, LD.nn_t, LD.nn_l, LD.nn_r, LD.nn_b, LD.nn_s, LD.nonK_n, LD.okK_o, LD.bind_k, LD.bind_b, LD.bind_e, LD.bindS_k, LD.bindS_e, LD.ofO_s, LD.getV_s, LD.truK_s, LD.blK_b, LD.refK_r, LD.insK_i, LD.lookK_s, LD.lookK_n, LD.refS_r, LD.insS_i, LD.lookS_s, LD.seq_n, LD.seq_r, LD.seq_b, LD.seq_c, LD.seq_e, LD.storeK_s, LD.memK_s, LD.endF_n, LD.endF_r, LD.endF_e, LD.pick_t, LD.pick_f, LD.finL_f, LD.finL_t, LD.v_add, LD.v_sub, LD.v_mulR, LD.v_fdiv, LD.v_mod, LD.v_int, LD.v_lt, LD.v_le, LD.v_gt, LD.v_ge, LD.v_eq, LD.v_ne, LD.v_len, LD.v_tix, LD.v_lix, LD.v_rix, LD.rixK_l, LD.rixK_d, LD.v_isN, LD.v_isnN, LD.v_isNone, LD.v_isNoneN, LD.startD, List.length_cons, List.length_nil, List.map_cons, List.map_nil, List.cons_append, List.nil_append, List.append_nil, List.getElem?_cons_zero, List.getElem?_cons_succ, List.set_cons_zero, List.set_cons_succ, List.replicate_succ, List.replicate_zero, Nat.reduceAdd, Nat.reduceSub, Nat.reduceBEq, Int.reduceLT, Int.reduceNeg, Int.reduceLE, Nat.reduceLeDiff, Nat.reduceLT, List.lookup_cons, List.lookup_nil, beq_self_eq_true, Option.map_some, Option.map_none, d1, d2, hz, h2]
theorem num_loop {B : Mem} {x0 x1 x3 x7 x8 : Option D} : ∀ (d k : Nat) (z : Int) (xs : List Int) (x5 x6 : Option D), xs.Nodup → xs.length + d < 900 → ∃ (z' : Int) (xs' : List Int) (y5 y6 : Option D), forV (fun _ => true) (gNm 5) β_law_7 ((List.range' k d).map fun j : Nat => D.int (j : Int)) [x0, x1, some (.ref B.length), x3, some (.ref (B.length + 1)), x5, x6, x7, x8] (B ++ [.lst [.int z]] ++ [.lst (xs.map .int)]) = .nx [x0, x1, some (.ref B.length), x3, some (.ref (B.length + 1)), y5, y6, x7, x8] (B ++ [.lst [.int z']] ++ [.lst (xs'.map .int)]) ∧ xs'.Nodup ∧ xs'.length < 900
  | 0, k, z, xs, x5, x6, nd, hl => ⟨z, xs, x5, x6, forV_n rfl, nd, by omega⟩
  | d + 1, k, z, xs, x5, x6, nd, hl => by
    obtain ⟨z1, xs1, z6, e1, n1, l1⟩ := num_step (B := B) (z := z) nd (by omega) (x0 := x0) (x1 := x1) (x3 := x3) (x5 := some (.int (k : Int))) (x6 := x6) (x7 := x7) (x8 := x8)
    obtain ⟨z', xs', y5, y6, e2, n2, l2⟩ := num_loop (B := B) (x0 := x0) (x1 := x1) (x3 := x3) (x7 := x7) (x8 := x8) d (k + 1) z1 xs1 (some (.int (k : Int))) z6 n1 (by omega)
    refine ⟨z', xs', y5, y6, ?_, n2, l2⟩
    rw [List.range'_succ, List.map_cons]
    exact (forV_c rfl rfl e1).trans e2
theorem isi_l {M : Mem} {i : Nat} {ys : List D} (h : M[i]? = some (.lst ys)) : isiC [.ref i, .ty "list"] M = some (.bl true, M) := by
  simp only [isiC, tyD, h]
  rfl
theorem allO_int {n : Nat} {M : Mem} : ∀ xs : List Int, allO (eqG (n + 1) M) (xs.map .int) (xs.map .int) = some true
  | [] => rfl
  | x :: xs => by
    rw [List.map_cons]
    unfold allO
    rw [allO_int xs]
    show (some (x == x)).bind _ = _
    rw [beq_self_eq_true] <;> rfl
theorem ne_self {M : Mem} {i : Nat} {xs : List Int} (h : M[i]? = some (.lst (xs.map .int))) : boD (notB eqQ) (.ref i) (.lst (xs.map .int)) M = some (.bl false, M) := by
  have e : eqQ M (.ref i) (.lst (xs.map .int)) = some true := by
    have e1 : lsOf M (.ref i) = some (xs.map .int) := v_lsR h
    have e2 : ((tupO (.ref i)).isSome || (lsOf M (.ref i)).isSome) = true := by rw [e1] <;> rfl
    unfold eqQ
    rw [if_pos e2]
    unfold eqG
    simp only [isF, tupO, lsOf, h]
    rw [if_neg (show ¬ (false && false) = true by decide), if_pos trivial]
    exact allO_int xs
  unfold boD notB
  rw [e] <;> rfl
def n3 (z : Int) : Int := if (z / 8 % 4 == 0) = true then 10 + z / 8 / 4 % 30 else z % 8
theorem turn {ns : List Int} {k : Nat} {M : Mem} {x2 x3 x4 x5 x6 x7 x8 : Option D} : ∃ y2 y3 y4 y5 y6 y7 y8 M', β_law_1 [some (intsD ns), some (.int (k : Int)), x2, x3, x4, x5, x6, x7, x8] M = .nx [some (intsD ns), some (.int (k : Int)), y2, y3, y4, y5, y6, y7, y8] M' := by
  have hb := big
  obtain ⟨c, hc⟩ := cell_eq ns k M
  obtain ⟨z, hz⟩ := start_eq c k M
  have a1 := dig1 (B := M) (z := z) (m := 8) (by decide) (by decide)
  have a2 := dig1 (B := M) (z := z / 8) (m := 4) (by decide) (by decide)
  have a3 := dig1 (B := M) (z := z / 8 / 4) (m := 30) (by decide) (by decide)
  obtain ⟨n, hn, hnl⟩ : ∃ n : Nat, n3 z = (n : Int) ∧ n < 100 := by
    have h1 := Int.emod_nonneg z (show (8 : Int) ≠ 0 by decide)
    have h2 := Int.emod_lt_of_pos z (show (0 : Int) < 8 by decide)
    have h3 := Int.emod_nonneg (z / 8 / 4) (show (30 : Int) ≠ 0 by decide)
    have h4 := Int.emod_lt_of_pos (z / 8 / 4) (show (0 : Int) < 30 by decide)
    unfold n3
    split
    · exact ⟨(10 + z / 8 / 4 % 30).toNat, by omega, by omega⟩
    · exact ⟨(z % 8).toNat, by omega, by omega⟩
  have main : ∀ (z0 : Int), ∃ y5 y6 y7 y8 M', tail1 [some (intsD ns), some (.int (k : Int)), some (.ref M.length), some (.int (n : Int)), x4, x5, x6, x7, x8] (M ++ [.lst [.int z0]]) = .nx [some (intsD ns), some (.int (k : Int)), some (.ref M.length), some (.int (n : Int)), some (.ref (M.length + 1)), y5, y6, y7, y8] M' := fun z0 => by
    obtain ⟨z', xs, y5, y6, e1, nd, hl⟩ := num_loop (B := M) (x0 := some (intsD ns)) (x1 := some (.int (k : Int))) (x3 := some (.int (n : Int))) (x7 := x7) (x8 := x8) n 0 z0 [] x5 x6 List.nodup_nil (by show 0 + n < 900; omega)
    have e1 : forV (fun _ => true) (gNm 5) β_law_7 ((List.range' 0 n).map fun j : Nat => D.int (j : Int)) [some (intsD ns), some (.int (k : Int)), some (.ref M.length), some (.int (n : Int)), some (.ref (M.length + 1)), x5, x6, x7, x8] (M ++ [.lst [.int z0]] ++ [.lst []]) = .nx [some (intsD ns), some (.int (k : Int)), some (.ref M.length), some (.int (n : Int)), some (.ref (M.length + 1)), y5, y6, x7, x8] (M ++ [.lst [.int z']] ++ [.lst (xs.map .int)]) := e1
    have hrn : ∀ M : Mem, rngK [.int (n : Int)] M = .ok ⟨(List.range' 0 n).map fun j : Nat => D.int (j : Int), fun _ => true⟩ M := fun M => by
      rw [rngN (by omega) (by omega), Int.toNat_natCast, rng']
    have ln : (M ++ [DO.lst [.int z0]]).length = M.length + 1 := ln1
    have gN : (M ++ [DO.lst [.int z']] ++ [.lst (xs.map .int)])[M.length + 1]? = some (.lst (xs.map .int)) := app_at2
    have hsrc : srcOf (M ++ [DO.lst [.int z']] ++ [.lst (xs.map .int)]) (.ref (M.length + 1)) = some ⟨xs.map .int, mutChk (M.length + 1) (xs.map D.int)⟩ := by
      simp only [srcOf, gN]
      rfl
    have hL : (xs.map D.int).length ≤ LINE := by rw [List.length_map]; omega
    have hcm : compV (mutChk (M.length + 1) (xs.map D.int)) (gNm 6) tTrue (eVar 6) [some (intsD ns), some (.int (k : Int)), some (.ref M.length), some (.int (n : Int)), some (.ref (M.length + 1)), y5, none, x7, x8] (xs.map .int) (M ++ [DO.lst [.int z']] ++ [.lst (xs.map .int)]) = .ok (xs.map .int) (M ++ [DO.lst [.int z']] ++ [.lst (xs.map .int)]) := by
      have e := compV_map (M := M ++ [DO.lst [.int z']] ++ [.lst (xs.map .int)]) (s := [some (intsD ns), some (.int (k : Int)), some (.ref M.length), some (.int (n : Int)), some (.ref (M.length + 1)), y5, none, x7, x8]) (γ := gNm 6) (τ := tTrue) (φ := eVar 6) (chk := mutChk (M.length + 1) (xs.map D.int)) (e := fun x : Int => D.int x) (g := fun x : Int => D.int x) (p := fun _ => true) (eqb_mut gN) (as := xs) fun x _ => ⟨_, rfl, rfl, fun _ => rfl⟩
      rw [filt] at e
      exact e
    have hbr := bestrow_eq gN (by omega)
    generalize hM2 : M ++ [DO.lst [.int z']] ++ [.lst (xs.map .int)] = M2 at e1 gN hsrc hcm hbr
    have gN2 : (M2 ++ [DO.lst (natsD ((lens lt xs).map (·.2)))] ++ [.lst ((rowOf xs (places xs)).map .int)])[M.length + 1]? = some (.lst (xs.map .int)) := (Ext.app.trans Ext.app).at' gN
    have gR2 : (M2 ++ [DO.lst (natsD ((lens lt xs).map (·.2)))] ++ [.lst ((rowOf xs (places xs)).map .int)])[M2.length + 1]? = some (.lst ((rowOf xs (places xs)).map .int)) := app_at2
    have his := isi_l gR2
    obtain ⟨M', hr, hx⟩ := right_eq nd (by omega) gN2 gR2
    have gN3 := hx.at' gN2
    have gR3 := hx.at' gR2
    have hne := ne_self gN3
    have gl := len_l (isl_r gN3)
    by_cases h8 : xs.length < 8
    · have ha := all_eq nd gN3 h8
      have hne2 := ne_self gR3
      have h8' : decide ((xs.length : Int) < 8) = true := decide_eq_true (by omega)
      refine ⟨y5, y6, some (.lst (xs.map .int)), some (.ref (M2.length + 1)), M', ?_⟩
      unfold tail1
      simp only [LD.v_lenO, LD.v_eqQi, LD.v_neQi, LD.v_mulGi, LD.q_Ins, LD.q_App, LD.okS_t, LD.v_isLst, LD.lstK_s, LD.v_app, LD.q_Rev, LD.lsK_s, LD.q_Get, LD.getKK_s, LD.v_lsL, LD.v_keyI, LD.v_keyS, Option.isSome_some, Option.isSome_none, Option.getD_some, Option.getD_none, LD.v_eqs, LD.v_nes, LD.v_isiBb, LD.q_C, LD.q_Var, LD.q_Bin, LD.q_Un, LD.q_tOf, LD.q_tCmp, LD.q_tAnd, LD.q_tOr, LD.q_tNot, LD.q_And, LD.q_Or, LD.q_Not, LD.q_If, LD.q_Nil, LD.q_Cons, LD.q_Tup, LD.q_Lst, LD.q_LstM, LD.q_Call, LD.q_Meth, LD.q_Attr, LD.q_Blt, LD.q_Comp, LD.q_iOf, LD.srcK_s, LD.v_truB, LD.v_truL, LD.v_truN, LD.v_srcL, LD.v_neg, LD.q_iRange, LD.q_Next, LD.q_Seq, LD.q_Expr, LD.q_Ret, LD.q_RetN, LD.q_SIf, LD.q_Bk, LD.q_Ct, LD.q_Asg, LD.q_Nm, LD.q_Sub, LD.q_Del, LD.q_Fld, LD.q_Dic, LD.q_For, LD.wipeD, Bool.not_true, Bool.not_false, LD.ifT, LD.le0, LD.le1, LD.le2, LD.le3, LD.le4, LD.le5, LD.le6, LD.cmpK_l, LD.nn_n, LD.nn_i, LD.nn_t, LD.nn_l, LD.nn_r, LD.nn_b, LD.nn_s, LD.nonK_n, LD.okK_o, LD.bind_k, LD.bind_b, LD.bind_e, LD.bindS_k, LD.bindS_e, LD.ofO_s, LD.getV_s, LD.truK_s, LD.blK_b, LD.refK_r, LD.insK_i, LD.lookK_s, LD.lookK_n, LD.refS_r, LD.insS_i, LD.lookS_s, LD.seq_n, LD.seq_r, LD.seq_b, LD.seq_c, LD.seq_e, LD.storeK_s, LD.memK_s, LD.endF_n, LD.endF_r, LD.endF_e, LD.pick_t, LD.pick_f, LD.finL_f, LD.finL_t, LD.v_add, LD.v_sub, LD.v_mulR, LD.v_fdiv, LD.v_mod, LD.v_int, LD.v_lt, LD.v_le, LD.v_gt, LD.v_ge, LD.v_eq, LD.v_ne, LD.v_len, LD.v_tix, LD.v_lix, LD.v_rix, LD.rixK_l, LD.rixK_d, LD.v_isN, LD.v_isnN, LD.v_isNone, LD.v_isNoneN, LD.startD, List.length_cons, List.length_nil, List.map_cons, List.map_nil, List.cons_append, List.nil_append, List.append_nil, List.getElem?_cons_zero, List.getElem?_cons_succ, List.set_cons_zero, List.set_cons_succ, List.replicate_succ, List.replicate_zero, Nat.reduceAdd, Nat.reduceSub, Nat.reduceBEq, Int.reduceLT, Int.reduceNeg, Int.reduceLE, Nat.reduceLeDiff, Nat.reduceLT, List.lookup_cons, List.lookup_nil, beq_self_eq_true, Option.map_some, Option.map_none, ln, hrn, e1, hsrc, cmpK_l hL, hcm, hbr, his, hr, hne, gl, h8', ha, hne2]
    · have h8' : decide ((xs.length : Int) < 8) = false := decide_eq_false (by omega)
      refine ⟨y5, y6, some (.lst (xs.map .int)), some (.ref (M2.length + 1)), M', ?_⟩
      unfold tail1
      simp only [LD.v_lenO, LD.v_eqQi, LD.v_neQi, LD.v_mulGi, LD.q_Ins, LD.q_App, LD.okS_t, LD.v_isLst, LD.lstK_s, LD.v_app, LD.q_Rev, LD.lsK_s, LD.q_Get, LD.getKK_s, LD.v_lsL, LD.v_keyI, LD.v_keyS, Option.isSome_some, Option.isSome_none, Option.getD_some, Option.getD_none, LD.v_eqs, LD.v_nes, LD.v_isiBb, LD.q_C, LD.q_Var, LD.q_Bin, LD.q_Un, LD.q_tOf, LD.q_tCmp, LD.q_tAnd, LD.q_tOr, LD.q_tNot, LD.q_And, LD.q_Or, LD.q_Not, LD.q_If, LD.q_Nil, LD.q_Cons, LD.q_Tup, LD.q_Lst, LD.q_LstM, LD.q_Call, LD.q_Meth, LD.q_Attr, LD.q_Blt, LD.q_Comp, LD.q_iOf, LD.srcK_s, LD.v_truB, LD.v_truL, LD.v_truN, LD.v_srcL, LD.v_neg, LD.q_iRange, LD.q_Next, LD.q_Seq, LD.q_Expr, LD.q_Ret, LD.q_RetN, LD.q_SIf, LD.q_Bk, LD.q_Ct, LD.q_Asg, LD.q_Nm, LD.q_Sub, LD.q_Del, LD.q_Fld, LD.q_Dic, LD.q_For, LD.wipeD, Bool.not_true, Bool.not_false, LD.ifT, LD.le0, LD.le1, LD.le2, LD.le3, LD.le4, LD.le5, LD.le6, LD.cmpK_l, LD.nn_n, LD.nn_i, LD.nn_t, LD.nn_l, LD.nn_r, LD.nn_b, LD.nn_s, LD.nonK_n, LD.okK_o, LD.bind_k, LD.bind_b, LD.bind_e, LD.bindS_k, LD.bindS_e, LD.ofO_s, LD.getV_s, LD.truK_s, LD.blK_b, LD.refK_r, LD.insK_i, LD.lookK_s, LD.lookK_n, LD.refS_r, LD.insS_i, LD.lookS_s, LD.seq_n, LD.seq_r, LD.seq_b, LD.seq_c, LD.seq_e, LD.storeK_s, LD.memK_s, LD.endF_n, LD.endF_r, LD.endF_e, LD.pick_t, LD.pick_f, LD.finL_f, LD.finL_t, LD.v_add, LD.v_sub, LD.v_mulR, LD.v_fdiv, LD.v_mod, LD.v_int, LD.v_lt, LD.v_le, LD.v_gt, LD.v_ge, LD.v_eq, LD.v_ne, LD.v_len, LD.v_tix, LD.v_lix, LD.v_rix, LD.rixK_l, LD.rixK_d, LD.v_isN, LD.v_isnN, LD.v_isNone, LD.v_isNoneN, LD.startD, List.length_cons, List.length_nil, List.map_cons, List.map_nil, List.cons_append, List.nil_append, List.append_nil, List.getElem?_cons_zero, List.getElem?_cons_succ, List.set_cons_zero, List.set_cons_succ, List.replicate_succ, List.replicate_zero, Nat.reduceAdd, Nat.reduceSub, Nat.reduceBEq, Int.reduceLT, Int.reduceNeg, Int.reduceLE, Nat.reduceLeDiff, Nat.reduceLT, List.lookup_cons, List.lookup_nil, beq_self_eq_true, Option.map_some, Option.map_none, ln, hrn, e1, hsrc, cmpK_l hL, hcm, hbr, his, hr, hne, gl, h8']
  unfold n3 at hn
  cases h4 : (z / 8 % 4 == 0) with
  | true =>
    rw [if_pos h4] at hn
    obtain ⟨y5, y6, y7, y8, M', e⟩ := main (z / 8 / 4 / 30)
    refine ⟨some (.ref M.length), some (.int (n : Int)), some (.ref (M.length + 1)), y5, y6, y7, y8, M', ?_⟩
    rw [beta1]
    simp only [LD.v_lenO, LD.v_eqQi, LD.v_neQi, LD.v_mulGi, LD.q_Ins, LD.q_App, LD.okS_t, LD.v_isLst, LD.lstK_s, LD.v_app, LD.q_Rev, LD.lsK_s, LD.q_Get, LD.getKK_s, LD.v_lsL, LD.v_keyI, LD.v_keyS, Option.isSome_some, Option.isSome_none, Option.getD_some, Option.getD_none, LD.v_eqs, LD.v_nes, LD.v_isiBb, LD.q_C, LD.q_Var, LD.q_Bin, LD.q_Un, LD.q_tOf, LD.q_tCmp, LD.q_tAnd, LD.q_tOr, LD.q_tNot, LD.q_And, LD.q_Or, LD.q_Not, LD.q_If, LD.q_Nil, LD.q_Cons, LD.q_Tup, LD.q_Lst, LD.q_LstM, LD.q_Call, LD.q_Meth, LD.q_Attr, LD.q_Blt, LD.q_Comp, LD.q_iOf, LD.srcK_s, LD.v_truB, LD.v_truL, LD.v_truN, LD.v_srcL, LD.v_neg, LD.q_iRange, LD.q_Next, LD.q_Seq, LD.q_Expr, LD.q_Ret, LD.q_RetN, LD.q_SIf, LD.q_Bk, LD.q_Ct, LD.q_Asg, LD.q_Nm, LD.q_Sub, LD.q_Del, LD.q_Fld, LD.q_Dic, LD.q_For, LD.wipeD, Bool.not_true, Bool.not_false, LD.ifT, LD.le0, LD.le1, LD.le2, LD.le3, LD.le4, LD.le5, LD.le6, LD.cmpK_l, LD.nn_n, LD.nn_i, LD.nn_t, LD.nn_l, LD.nn_r, LD.nn_b, LD.nn_s, LD.nonK_n, LD.okK_o, LD.bind_k, LD.bind_b, LD.bind_e, LD.bindS_k, LD.bindS_e, LD.ofO_s, LD.getV_s, LD.truK_s, LD.blK_b, LD.refK_r, LD.insK_i, LD.lookK_s, LD.lookK_n, LD.refS_r, LD.insS_i, LD.lookS_s, LD.seq_n, LD.seq_r, LD.seq_b, LD.seq_c, LD.seq_e, LD.storeK_s, LD.memK_s, LD.endF_n, LD.endF_r, LD.endF_e, LD.pick_t, LD.pick_f, LD.finL_f, LD.finL_t, LD.v_add, LD.v_sub, LD.v_mulR, LD.v_fdiv, LD.v_mod, LD.v_int, LD.v_lt, LD.v_le, LD.v_gt, LD.v_ge, LD.v_eq, LD.v_ne, LD.v_len, LD.v_tix, LD.v_lix, LD.v_rix, LD.rixK_l, LD.rixK_d, LD.v_isN, LD.v_isnN, LD.v_isNone, LD.v_isNoneN, LD.startD, List.length_cons, List.length_nil, List.map_cons, List.map_nil, List.cons_append, List.nil_append, List.append_nil, List.getElem?_cons_zero, List.getElem?_cons_succ, List.set_cons_zero, List.set_cons_succ, List.replicate_succ, List.replicate_zero, Nat.reduceAdd, Nat.reduceSub, Nat.reduceBEq, Int.reduceLT, Int.reduceNeg, Int.reduceLE, Nat.reduceLeDiff, Nat.reduceLT, List.lookup_cons, List.lookup_nil, beq_self_eq_true, Option.map_some, Option.map_none, hc, hz, a1, a2, h4, a3, hn, e]
  | false =>
    rw [if_neg (by rw [h4]; exact Bool.false_ne_true)] at hn
    obtain ⟨y5, y6, y7, y8, M', e⟩ := main (z / 8 / 4)
    refine ⟨some (.ref M.length), some (.int (n : Int)), some (.ref (M.length + 1)), y5, y6, y7, y8, M', ?_⟩
    rw [beta1]
    simp only [LD.v_lenO, LD.v_eqQi, LD.v_neQi, LD.v_mulGi, LD.q_Ins, LD.q_App, LD.okS_t, LD.v_isLst, LD.lstK_s, LD.v_app, LD.q_Rev, LD.lsK_s, LD.q_Get, LD.getKK_s, LD.v_lsL, LD.v_keyI, LD.v_keyS, Option.isSome_some, Option.isSome_none, Option.getD_some, Option.getD_none, LD.v_eqs, LD.v_nes, LD.v_isiBb, LD.q_C, LD.q_Var, LD.q_Bin, LD.q_Un, LD.q_tOf, LD.q_tCmp, LD.q_tAnd, LD.q_tOr, LD.q_tNot, LD.q_And, LD.q_Or, LD.q_Not, LD.q_If, LD.q_Nil, LD.q_Cons, LD.q_Tup, LD.q_Lst, LD.q_LstM, LD.q_Call, LD.q_Meth, LD.q_Attr, LD.q_Blt, LD.q_Comp, LD.q_iOf, LD.srcK_s, LD.v_truB, LD.v_truL, LD.v_truN, LD.v_srcL, LD.v_neg, LD.q_iRange, LD.q_Next, LD.q_Seq, LD.q_Expr, LD.q_Ret, LD.q_RetN, LD.q_SIf, LD.q_Bk, LD.q_Ct, LD.q_Asg, LD.q_Nm, LD.q_Sub, LD.q_Del, LD.q_Fld, LD.q_Dic, LD.q_For, LD.wipeD, Bool.not_true, Bool.not_false, LD.ifT, LD.le0, LD.le1, LD.le2, LD.le3, LD.le4, LD.le5, LD.le6, LD.cmpK_l, LD.nn_n, LD.nn_i, LD.nn_t, LD.nn_l, LD.nn_r, LD.nn_b, LD.nn_s, LD.nonK_n, LD.okK_o, LD.bind_k, LD.bind_b, LD.bind_e, LD.bindS_k, LD.bindS_e, LD.ofO_s, LD.getV_s, LD.truK_s, LD.blK_b, LD.refK_r, LD.insK_i, LD.lookK_s, LD.lookK_n, LD.refS_r, LD.insS_i, LD.lookS_s, LD.seq_n, LD.seq_r, LD.seq_b, LD.seq_c, LD.seq_e, LD.storeK_s, LD.memK_s, LD.endF_n, LD.endF_r, LD.endF_e, LD.pick_t, LD.pick_f, LD.finL_f, LD.finL_t, LD.v_add, LD.v_sub, LD.v_mulR, LD.v_fdiv, LD.v_mod, LD.v_int, LD.v_lt, LD.v_le, LD.v_gt, LD.v_ge, LD.v_eq, LD.v_ne, LD.v_len, LD.v_tix, LD.v_lix, LD.v_rix, LD.rixK_l, LD.rixK_d, LD.v_isN, LD.v_isnN, LD.v_isNone, LD.v_isNoneN, LD.startD, List.length_cons, List.length_nil, List.map_cons, List.map_nil, List.cons_append, List.nil_append, List.append_nil, List.getElem?_cons_zero, List.getElem?_cons_succ, List.set_cons_zero, List.set_cons_succ, List.replicate_succ, List.replicate_zero, Nat.reduceAdd, Nat.reduceSub, Nat.reduceBEq, Int.reduceLT, Int.reduceNeg, Int.reduceLE, Nat.reduceLeDiff, Nat.reduceLT, List.lookup_cons, List.lookup_nil, beq_self_eq_true, Option.map_some, Option.map_none, hc, hz, a1, a2, h4, hn, e]
theorem turn_loop {ns : List Int} : ∀ (d k : Nat) (M : Mem) (x1 x2 x3 x4 x5 x6 x7 x8 : Option D), ∃ y1 y2 y3 y4 y5 y6 y7 y8 M', forV (fun _ => true) (gNm 1) β_law_1 ((List.range' k d).map fun j : Nat => D.int (j : Int)) [some (intsD ns), x1, x2, x3, x4, x5, x6, x7, x8] M = .nx [some (intsD ns), y1, y2, y3, y4, y5, y6, y7, y8] M'
  | 0, k, M, x1, x2, x3, x4, x5, x6, x7, x8 => ⟨x1, x2, x3, x4, x5, x6, x7, x8, M, forV_n rfl⟩
  | d + 1, k, M, x1, x2, x3, x4, x5, x6, x7, x8 => by
    obtain ⟨z2, z3, z4, z5, z6, z7, z8, M1, e1⟩ := turn (ns := ns) (k := k) (M := M) (x2 := x2) (x3 := x3) (x4 := x4) (x5 := x5) (x6 := x6) (x7 := x7) (x8 := x8)
    obtain ⟨y1, y2, y3, y4, y5, y6, y7, y8, M', e2⟩ := turn_loop (ns := ns) d (k + 1) M1 (some (.int (k : Int))) z2 z3 z4 z5 z6 z7 z8
    refine ⟨y1, y2, y3, y4, y5, y6, y7, y8, M', ?_⟩
    rw [List.range'_succ, List.map_cons]
    exact (forV_c rfl rfl e1).trans e2
theorem law_ok : LawD 63 φ_law := fun ns hl => by
  have hN : ∃ n : Nat, n ≤ 63 ∧ (if (if (ns.length : Int) > 1 then (ns.length : Int) else 1) < 16 then (if (ns.length : Int) > 1 then (ns.length : Int) else 1) else 16) = (n : Int) := by
    refine ⟨(if (if (ns.length : Int) > 1 then (ns.length : Int) else 1) < 16 then (if (ns.length : Int) > 1 then (ns.length : Int) else 1) else 16 : Int).toNat, ?_, ?_⟩
    · split <;> split <;> omega
    · rw [Int.toNat_of_nonneg (by split <;> split <;> omega)]
  obtain ⟨n, hn, hmin⟩ := hN
  obtain ⟨y1, y2, y3, y4, y5, y6, y7, y8, M', e⟩ := turn_loop (ns := ns) n 0 [] none none none none none none none none
  have mx : ∀ M : Mem, maxC [.int 1, .int (ns.length : Int)] M = some (.int (if (ns.length : Int) > 1 then (ns.length : Int) else 1), M) := fun _ => rfl
  have mn : ∀ (j : Int) (M : Mem), minC [.int 16, .int j] M = some (.int (if j < 16 then j else 16), M) := fun _ _ => rfl
  have hlen : ∀ M : Mem, lenC [.lst (ns.map D.int)] M = some (.int ns.length, M) := fun M => by
    show some (D.int ((ns.map D.int).length : Nat), M) = _
    rw [List.length_map]
  have hrn : ∀ M : Mem, rngK [.int (n : Int)] M = .ok ⟨(List.range' 0 n).map fun j : Nat => D.int (j : Int), fun _ => true⟩ M := fun M => by
    rw [rngN (by omega) (by omega), Int.toNat_natCast, rng']
  refine ⟨M', ?_⟩
  unfold φ_law
  refine run_def rfl ?_
  unfold ψ_law
  unfold intsD at e ⊢
  simp only [LD.v_lenO, LD.v_eqQi, LD.v_neQi, LD.v_mulGi, LD.q_Ins, LD.q_App, LD.okS_t, LD.v_isLst, LD.lstK_s, LD.v_app, LD.q_Rev, LD.lsK_s, LD.q_Get, LD.getKK_s, LD.v_lsL, LD.v_keyI, LD.v_keyS, Option.isSome_some, Option.isSome_none, Option.getD_some, Option.getD_none, LD.v_eqs, LD.v_nes, LD.v_isiBb, LD.q_C, LD.q_Var, LD.q_Bin, LD.q_Un, LD.q_tOf, LD.q_tCmp, LD.q_tAnd, LD.q_tOr, LD.q_tNot, LD.q_And, LD.q_Or, LD.q_Not, LD.q_If, LD.q_Nil, LD.q_Cons, LD.q_Tup, LD.q_Lst, LD.q_LstM, LD.q_Call, LD.q_Meth, LD.q_Attr, LD.q_Blt, LD.q_Comp, LD.q_iOf, LD.srcK_s, LD.v_truB, LD.v_truL, LD.v_truN, LD.v_srcL, LD.v_neg, LD.q_iRange, LD.q_Next, LD.q_Seq, LD.q_Expr, LD.q_Ret, LD.q_RetN, LD.q_SIf, LD.q_Bk, LD.q_Ct, LD.q_Asg, LD.q_Nm, LD.q_Sub, LD.q_Del, LD.q_Fld, LD.q_Dic, LD.q_For, LD.wipeD, Bool.not_true, Bool.not_false, LD.ifT, LD.le0, LD.le1, LD.le2, LD.le3, LD.le4, LD.le5, LD.le6, LD.cmpK_l, LD.nn_n, LD.nn_i, LD.nn_t, LD.nn_l, LD.nn_r, LD.nn_b, LD.nn_s, LD.nonK_n, LD.okK_o, LD.bind_k, LD.bind_b, LD.bind_e, LD.bindS_k, LD.bindS_e, LD.ofO_s, LD.getV_s, LD.truK_s, LD.blK_b, LD.refK_r, LD.insK_i, LD.lookK_s, LD.lookK_n, LD.refS_r, LD.insS_i, LD.lookS_s, LD.seq_n, LD.seq_r, LD.seq_b, LD.seq_c, LD.seq_e, LD.storeK_s, LD.memK_s, LD.endF_n, LD.endF_r, LD.endF_e, LD.pick_t, LD.pick_f, LD.finL_f, LD.finL_t, LD.v_add, LD.v_sub, LD.v_mulR, LD.v_fdiv, LD.v_mod, LD.v_int, LD.v_lt, LD.v_le, LD.v_gt, LD.v_ge, LD.v_eq, LD.v_ne, LD.v_len, LD.v_tix, LD.v_lix, LD.v_rix, LD.rixK_l, LD.rixK_d, LD.v_isN, LD.v_isnN, LD.v_isNone, LD.v_isNoneN, LD.startD, List.length_cons, List.length_nil, List.map_cons, List.map_nil, List.cons_append, List.nil_append, List.append_nil, List.getElem?_cons_zero, List.getElem?_cons_succ, List.set_cons_zero, List.set_cons_succ, List.replicate_succ, List.replicate_zero, Nat.reduceAdd, Nat.reduceSub, Nat.reduceBEq, Int.reduceLT, Int.reduceNeg, Int.reduceLE, Nat.reduceLeDiff, Nat.reduceLT, List.lookup_cons, List.lookup_nil, beq_self_eq_true, Option.map_some, Option.map_none, List.length_map, hlen, mx, mn, hmin, hrn, e]
end K30
namespace K30
open PySem PySem.Spec PyProof.Rows L2 LD
theorem all_mk {l : PySem.W.OpenLaw} {w : World} {K : PySem.W.Frag} {h : Heap} {mg : Str → Option Value} {fa : Addr} {y0 : Addr} {y1 : Addr} {y2 : Addr} {y3 : Addr} {y4 : Addr} {y5 : Addr} {y6 : Addr} {y7 : Addr} {y8 : Addr} {y9 : Addr} {y10 : Value} {y11 : Option Addr} {y12 : Value} {y13 : Value} {y14 : Value} {y15 : Option Addr} {y16 : Value} {y17 : Value} {y18 : Array (Option Value)} {y19 : Value} {y20 : Option Addr} {y21 : Value} {y22 : Value} {y23 : Value} {y24 : Option Addr} {y25 : Value} {y26 : Value} {y27 : Array (Option Value)} {y28 : Value} {y29 : Option Addr} {y30 : Value} {y31 : Value} {y32 : Value} {y33 : Option Addr} {y34 : Value} {y35 : Value} {y36 : Array (Option Value)} {y37 : Value} {y38 : Option Addr} {y39 : Value} {y40 : Value} {y41 : Value} {y42 : Option Addr} {y43 : Value} {y44 : Value} {y45 : Array (Option Value)} {y46 : Value} {y47 : Option Addr} {y48 : Value} {y49 : Value} {y50 : Value} {y51 : Option Addr} {y52 : Value} {y53 : Value} {y54 : Array (Option Value)} {y55 : Value} {y56 : Option Addr} {y57 : Value} {y58 : Value} {y59 : Value} {y60 : Option Addr} {y61 : Value} {y62 : Value} {y63 : Array (Option Value)} {y64 : Value} {y65 : Option Addr} {y66 : Value} {y67 : Value} {y68 : Value} {y69 : Option Addr} {y70 : Value} {y71 : Value} {y72 : Array (Option Value)} {y73 : Value} {y74 : Option Addr} {y75 : Value} {y76 : Value} {y77 : Value} {y78 : Option Addr} {y79 : Value} {y80 : Value} {y81 : Array (Option Value)} {y82 : Value} {y83 : Option Addr} {y84 : Value} {y85 : Value} {y86 : Value} {y87 : Option Addr} {y88 : Value} {y89 : Value} {y90 : Array (Option Value)} {y91 : Value} {y92 : Option Addr} {y93 : Value} {y94 : Value} {y95 : Value} {y96 : Option Addr} {y97 : Value} {y98 : Value} {y99 : Array (Option Value)} (X : K.In h) (G : h.Ns mainGlobals mg) (hfa : mg "law" = some (.ref fa))
    (z0 : PySem.W.nsIn K mainGlobals "range" = some none)
    (z1 : PySem.W.nsIn K mainGlobals "len" = some none)
    (z2 : PySem.W.nsIn K mainGlobals "max" = some none)
    (z3 : PySem.W.nsIn K mainGlobals "min" = some none)
    (z4 : PySem.W.nsIn K mainGlobals "_law_rises" = some (some (.ref y0)))
    (z5 : PySem.W.keepIn K (.ref y0) = true)
    (z6 : PySem.W.nsIn K mainGlobals "int" = some none)
    (z7 : PySem.W.nsIn K mainGlobals "_law_all" = some (some (.ref y1)))
    (z8 : PySem.W.keepIn K (.ref y1) = true)
    (z9 : PySem.W.nsIn K mainGlobals "list" = some none)
    (z10 : PySem.W.nsIn K mainGlobals "isinstance" = some none)
    (z11 : PySem.W.nsIn K mainGlobals "_law_lengths" = some (some (.ref y2)))
    (z12 : PySem.W.keepIn K (.ref y2) = true)
    (z13 : PySem.W.nsIn K mainGlobals "_law_right" = some (some (.ref y3)))
    (z14 : PySem.W.keepIn K (.ref y3) = true)
    (z15 : PySem.W.nsIn K mainGlobals "enumerate" = some none)
    (z16 : PySem.W.nsIn K mainGlobals "reversed" = some none)
    (z17 : PySem.W.nsIn K mainGlobals "lengths_from" = some (some (.ref y4)))
    (z18 : PySem.W.keepIn K (.ref y4) = true)
    (z19 : PySem.W.nsIn K mainGlobals "best_row" = some (some (.ref y5)))
    (z20 : PySem.W.keepIn K (.ref y5) = true)
    (z21 : PySem.W.nsIn K mainGlobals "_law_digit" = some (some (.ref y6)))
    (z22 : PySem.W.keepIn K (.ref y6) = true)
    (z23 : PySem.W.nsIn K mainGlobals "abs" = some none)
    (z24 : PySem.W.nsIn K mainGlobals "_law_cell" = some (some (.ref y8)))
    (z25 : PySem.W.keepIn K (.ref y8) = true)
    (z26 : PySem.W.nsIn K mainGlobals "_law_start" = some (some (.ref y7)))
    (z27 : PySem.W.keepIn K (.ref y7) = true)
    (z28 : PySem.W.nsIn K mainGlobals "law" = some (some (.ref y9)))
    (z29 : K.lookup y0 = some ⟨y10, y11, .func (PySem.W.fnOf "_law_rises" "_law_rises" (defArgs st__law_rises) (defBody st__law_rises) (defScope st__law_rises) .none y12 y13 y14 y15 y16 y17), y18⟩)
    (z30 : PySem.W.codeIn K y16 "_law_rises" = true)
    (z31 : PySem.W.keepIn K (.ref y0) = true)
    (z32 : K.lookup y1 = some ⟨y19, y20, .func (PySem.W.fnOf "_law_all" "_law_all" (defArgs st__law_all) (defBody st__law_all) (defScope st__law_all) .none y21 y22 y23 y24 y25 y26), y27⟩)
    (z33 : PySem.W.codeIn K y25 "_law_all" = true)
    (z34 : PySem.W.keepIn K (.ref y1) = true)
    (z35 : K.lookup y2 = some ⟨y28, y29, .func (PySem.W.fnOf "_law_lengths" "_law_lengths" (defArgs st__law_lengths) (defBody st__law_lengths) (defScope st__law_lengths) .none y30 y31 y32 y33 y34 y35), y36⟩)
    (z36 : PySem.W.codeIn K y34 "_law_lengths" = true)
    (z37 : PySem.W.keepIn K (.ref y2) = true)
    (z38 : K.lookup y3 = some ⟨y37, y38, .func (PySem.W.fnOf "_law_right" "_law_right" (defArgs st__law_right) (defBody st__law_right) (defScope st__law_right) .none y39 y40 y41 y42 y43 y44), y45⟩)
    (z39 : PySem.W.codeIn K y43 "_law_right" = true)
    (z40 : PySem.W.keepIn K (.ref y3) = true)
    (z41 : K.lookup y4 = some ⟨y46, y47, .func (PySem.W.fnOf "lengths_from" "lengths_from" (defArgs st_lengths_from) (defBody st_lengths_from) (defScope st_lengths_from) .none y48 y49 y50 y51 y52 y53), y54⟩)
    (z42 : PySem.W.codeIn K y52 "lengths_from" = true)
    (z43 : PySem.W.keepIn K (.ref y4) = true)
    (z44 : K.lookup y5 = some ⟨y55, y56, .func (PySem.W.fnOf "best_row" "best_row" (defArgs st_best_row) (defBody st_best_row) (defScope st_best_row) .none y57 y58 y59 y60 y61 y62), y63⟩)
    (z45 : PySem.W.codeIn K y61 "best_row" = true)
    (z46 : PySem.W.keepIn K (.ref y5) = true)
    (z47 : K.lookup y6 = some ⟨y64, y65, .func (PySem.W.fnOf "_law_digit" "_law_digit" (defArgs st__law_digit) (defBody st__law_digit) (defScope st__law_digit) .none y66 y67 y68 y69 y70 y71), y72⟩)
    (z48 : PySem.W.codeIn K y70 "_law_digit" = true)
    (z49 : PySem.W.keepIn K (.ref y6) = true)
    (z50 : K.lookup y7 = some ⟨y73, y74, .func (PySem.W.fnOf "_law_start" "_law_start" (defArgs st__law_start) (defBody st__law_start) (defScope st__law_start) .none y75 y76 y77 y78 y79 y80), y81⟩)
    (z51 : PySem.W.codeIn K y79 "_law_start" = true)
    (z52 : PySem.W.keepIn K (.ref y7) = true)
    (z53 : K.lookup y8 = some ⟨y82, y83, .func (PySem.W.fnOf "_law_cell" "_law_cell" (defArgs st__law_cell) (defBody st__law_cell) (defScope st__law_cell) .none y84 y85 y86 y87 y88 y89), y90⟩)
    (z54 : PySem.W.codeIn K y88 "_law_cell" = true)
    (z55 : PySem.W.keepIn K (.ref y8) = true)
    (z56 : K.lookup y9 = some ⟨y91, y92, .func (PySem.W.fnOf "law" "law" (defArgs st_law) (defBody st_law) (defScope st_law) .none y93 y94 y95 y96 y97 y98), y99⟩)
    (z57 : PySem.W.codeIn K y97 "law" = true)
    (z58 : PySem.W.keepIn K (.ref y9) = true)
    : ∃ (T : Tab) (fd : FuncData), (∀ (s : Shared) (v : Value), BindsTo s fd ⟨[v], []⟩ [("_law_script", v)]) ∧ ∀ base : Heap, K.In base → base.Ns mainGlobals mg → FnX l.prog w K mg base T 3 fa fd ["_law_script"] φ_law := by
  have e := hfa.symm.trans (PySem.W.mg_of X G z28)
  cases e
  let a : Ad := { f__law_rises := y0, f__law_all := y1, f__law_lengths := y2, f__law_right := y3, f_lengths_from := y4, f_best_row := y5, f__law_digit := y6, f__law_start := y7, f__law_cell := y8, f_law := fa }
  have T : Tx K mg a := { no_range := PySem.W.mg_none_of X G z0, no_len := PySem.W.mg_none_of X G z1, no_max := PySem.W.mg_none_of X G z2, no_min := PySem.W.mg_none_of X G z3, mg__law_rises := PySem.W.mg_of X G z4, kp__law_rises := z5, no_int := PySem.W.mg_none_of X G z6, mg__law_all := PySem.W.mg_of X G z7, kp__law_all := z8, no_list := PySem.W.mg_none_of X G z9, no_isinstance := PySem.W.mg_none_of X G z10, mg__law_lengths := PySem.W.mg_of X G z11, kp__law_lengths := z12, mg__law_right := PySem.W.mg_of X G z13, kp__law_right := z14, no_enumerate := PySem.W.mg_none_of X G z15, no_reversed := PySem.W.mg_none_of X G z16, mg_lengths_from := PySem.W.mg_of X G z17, kp_lengths_from := z18, mg_best_row := PySem.W.mg_of X G z19, kp_best_row := z20, mg__law_digit := PySem.W.mg_of X G z21, kp__law_digit := z22, no_abs := PySem.W.mg_none_of X G z23, mg__law_cell := PySem.W.mg_of X G z24, kp__law_cell := z25, mg__law_start := PySem.W.mg_of X G z26, kp__law_start := z27, fn__law_rises := fnAt_mk z29 z30 z31, fn__law_all := fnAt_mk z32 z33 z34, fn__law_lengths := fnAt_mk z35 z36 z37, fn__law_right := fnAt_mk z38 z39 z40, fn_lengths_from := fnAt_mk z41 z42 z43, fn_best_row := fnAt_mk z44 z45 z46, fn__law_digit := fnAt_mk z47 z48 z49, fn__law_start := fnAt_mk z50 z51 z52, fn__law_cell := fnAt_mk z53 z54 z55, fn_law := fnAt_mk z56 z57 z58 }
  obtain ⟨fd, h1, h2⟩ := ok_law (P := l.prog) (w := w) T
  exact ⟨_, fd, h1, fun base _ _ => h2 base⟩
end K30
open PySem PySem.W PyProof.Rows in
set_option maxRecDepth 100000 in
set_option maxHeartbeats 0 in
theorem PySem.Challenge.cw_viewloom_k30_best_rising_rows_holds : PySem.Challenge.rw_viewloom_k30_best_rising_rows.Holds := by
  w_on; o_law; k_head; (case hw => w_witness2)
  k_fill
  refine LD.walk_d (l := PySem.Challenge.rw_viewloom_k30_best_rising_rows) (k := 3) (x := "_law_script") rfl rfl (fun w h Y => PySem.W.kIn_of Y) ⟨rfl, by decide, by decide⟩ K30.law_ok ?F
  case F =>
    intro w mg fa h KX G hmg
    refine' K30.all_mk KX G hmg ?z0 ?z1 ?z2 ?z3 ?z4 ?z5 ?z6 ?z7 ?z8 ?z9 ?z10 ?z11 ?z12 ?z13 ?z14 ?z15 ?z16 ?z17 ?z18 ?z19 ?z20 ?z21 ?z22 ?z23 ?z24 ?z25 ?z26 ?z27 ?z28 ?z29 ?z30 ?z31 ?z32 ?z33 ?z34 ?z35 ?z36 ?z37 ?z38 ?z39 ?z40 ?z41 ?z42 ?z43 ?z44 ?z45 ?z46 ?z47 ?z48 ?z49 ?z50 ?z51 ?z52 ?z53 ?z54 ?z55 ?z56 ?z57 ?z58
    (case z0 => k_is)
    (case z1 => k_is)
    (case z2 => k_is)
    (case z3 => k_is)
    (case z4 => k_is)
    (case z5 => k_is)
    (case z6 => k_is)
    (case z7 => k_is)
    (case z8 => k_is)
    (case z9 => k_is)
    (case z10 => k_is)
    (case z11 => k_is)
    (case z12 => k_is)
    (case z13 => k_is)
    (case z14 => k_is)
    (case z15 => k_is)
    (case z16 => k_is)
    (case z17 => k_is)
    (case z18 => k_is)
    (case z19 => k_is)
    (case z20 => k_is)
    (case z21 => k_is)
    (case z22 => k_is)
    (case z23 => k_is)
    (case z24 => k_is)
    (case z25 => k_is)
    (case z26 => k_is)
    (case z27 => k_is)
    (case z28 => k_is)
    (case z29 => k_is)
    (case z30 => k_is)
    (case z31 => k_is)
    (case z32 => k_is)
    (case z33 => k_is)
    (case z34 => k_is)
    (case z35 => k_is)
    (case z36 => k_is)
    (case z37 => k_is)
    (case z38 => k_is)
    (case z39 => k_is)
    (case z40 => k_is)
    (case z41 => k_is)
    (case z42 => k_is)
    (case z43 => k_is)
    (case z44 => k_is)
    (case z45 => k_is)
    (case z46 => k_is)
    (case z47 => k_is)
    (case z48 => k_is)
    (case z49 => k_is)
    (case z50 => k_is)
    (case z51 => k_is)
    (case z52 => k_is)
    (case z53 => k_is)
    (case z54 => k_is)
    (case z55 => k_is)
    (case z56 => k_is)
    (case z57 => k_is)
    (case z58 => k_is)
