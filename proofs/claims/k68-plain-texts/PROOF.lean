import PyProof.Rows.All
import Wide.All
import OpenK.AllK
import Wide.FinOn
import HandS.ForMost
import HandS.ForExc
import HandS.Flow
import HandS.Deep
import HandS.Small
import HandS.Style
import HandS.TupAny
import HandS.TupSets
import HandS.Property
import HandS.ClsMeth
import HandS.IsInst
import HandS.TupLe
import HandS.SortInts
import HandS.Strs
import HandS.WordsDict
import HandS.RaiseMore
import HandS.Rev
import HandS.RevRange
import HandS.Zip
import HandS.DictComp
import HandS.Words
import HandS.WordsExc
import HandS.OwnEq
import HandS.Exc
import HandS.TryOnly
import HandS.ExcIs
import HandS.Text
import HandS.NamedTupGet
import PyProof.ReprRoads
import KE.KOwnIter
import HandS.IterVal
import HandS.SortRule
import HandS.MakeKwOnly
import KE.KEqNest
import PyProof.StrOps2
import HandS.SetFor
import HandS.Conv
import KE.LtSeq
import HandS.WideBits
import HandS.ListItems
import HandS.Codes
import HandS.Iter
import HandS.More
import PyProof.Rows.SortKeyStr
import HandS.ExcInit
import HandS.ReplaceDef
import KE.KExcSuper
import HandS.ReplaceLit
import HandS.ReplaceList
import PyProof.ExcBaseAll.ValueError
import PySem.Challenge.RW_viewloom_k68_plain_texts
set_option Elab.async false
set_option linter.all false
set_option maxRecDepth 100000
set_option maxHeartbeats 8000000
namespace LD
open PySem L2

/-- room for k more calls; no __repr__ is under way -/
structure Room (k : Nat) (A : Around) : Prop where
  l2 : L2.Room k A
  gu : A.guards = some []
theorem Room.hd {k : Nat} {A : Around} (r : Room k A) : A.handled = none := r.l2.hd
theorem Room.un {k : Nat} {A : Around} (r : Room k A) : A.units + 16 * k + 200 < cLine := r.l2.un
theorem Room.units {k : Nat} {A : Around} (r : Room k A) : A.units + 64 < cLine := r.l2.units
theorem Room.mono {j k : Nat} {A : Around} (r : Room k A) (h : j ≤ k) : Room j A := ⟨r.l2.mono h, r.gu⟩
theorem Room.in1 {k : Nat} {A : Around} (r : Room (k + 1) A) : Room k A.in1 := ⟨r.l2.in1, r.gu⟩
theorem Room.deeper {k : Nat} {A : Around} (r : Room (k + 1) A) (env : Env) : Room k (A.deeper env) := ⟨r.l2.deeper env, r.gu⟩
theorem Room.make {k : Nat} {A : Around} (r : Room (k + 1) A) (C : Addr) (us : List Value) (kw : List (Str × Value)) : Room k (A.under (.builtin "type.__call__" ⟨.ref C :: us, kw⟩)) :=
  ⟨r.l2.make C us kw, by
    have h := r.gu
    simp [Around.under, Code.guards, Code.isGuard, guardIds, pushGuards, h]⟩

/-- a value without addresses: what is never changed any more stands in it whole -/
inductive D where
  | non | bl (b : Bool) | int (i : Int) | str (x : Str) | ty (n : String)
  | lst (xs : List D) | tup (xs : List D) | dic (ks : List Key) (vs : List D)
  | ref (i : Nat) | glb (a : Addr)
  deriving Inhabited

/-- an object that may change -/
inductive DO where
  | lst (xs : List D) | dic (kvs : List (Key × D)) | ins (c : Nat) (fs : List (Option D)) | dead
  | fdc (kvs : List (Key × D)) -- a dict while it is walked
  deriving Inhabited
abbrev Mem := List DO
structure Exn where
  cls : Nat
  fs : Option (List (Str × D))
inductive R (α : Type) where
  | ok (a : α) (M : Mem) | er (x : Exn) (M : Mem) | bad
def R.bind {α β : Type} (r : R α) (f : α → Mem → R β) : R β := match r with
  | .ok a M => f a M
  | .er x M => .er x M
  | .bad => .bad
@[simp] theorem R.bind_ok {α β : Type} {a : α} {M : Mem} {f : α → Mem → R β} : (R.ok a M).bind f = f a M := rfl
@[simp] theorem R.bind_er {α β : Type} {x : Exn} {M : Mem} {f : α → Mem → R β} : (R.er x M : R α).bind f = .er x M := rfl
@[simp] theorem R.bind_bad {α β : Type} {f : α → Mem → R β} : (R.bad : R α).bind f = .bad := rfl

/-- the classes and the exceptions' classes by number -/
structure Tab where
  ct : List (Addr × List Str)
  et : List Value
structure KX where
  fr : PySem.W.Frag
  tb : Tab
section
variable (K : KX) (ι : List Addr) (F : Hp)
mutual
def Rep : D → V → Prop
  | .non, v => v = .non
  | .bl b, v => v = .bl b
  | .int i, v => v = .int i
  | .str x, v => v = .str x
  | .ty n, v => v = .ty n
  | .lst xs, v => ∃ a vs, v = .ref a ∧ SqL K.fr F a vs ∧ RepL xs vs
  | .tup xs, v => ∃ a vs, v = .ref a ∧ SqT K.fr F a vs ∧ RepL xs vs
  | .dic ks ds, v => ∃ a vs, v = .ref a ∧ Rd F a (.dK vs) ∧ vs.map (·.1) = ks ∧ RepL ds (vs.map (·.2))
  | .ref i, v => ∃ a, v = .ref a ∧ ι[i]? = some a
  | .glb a, v => v = .ref a
def RepL : List D → List V → Prop
  | [], vs => vs = []
  | d :: ds, vs => ∃ v r, vs = v :: r ∧ Rep d v ∧ RepL ds r
end
def RepO (H : Hp) (a : Addr) : DO → Prop
  | .lst xs => ∃ vs, H a = some (.lst vs) ∧ RepL K ι F xs vs
  | .dic kvs => ∃ vs, H a = some (.dK vs) ∧ vs.map (·.1) = kvs.map (·.1) ∧ RepL K ι F (kvs.map (·.2)) (vs.map (·.2))
  | .ins c fs => ∃ C ly dx vs, K.tb.ct[c]? = some (C, ly) ∧ H a = some (.ins C dx vs) ∧ (vs.map (·.1)).Nodup ∧ (∀ f ∈ vs.map (·.1), f ∈ ly) ∧ fs.length = ly.length ∧
      ∀ (j : Nat) f, ly[j]? = some f → ∀ d, fs[j]? = some (some d) → ∃ v, vs.lookup f = some v ∧ Rep K ι F d v
  | .dead => True
  | .fdc kvs => ∃ od vs, H a = some (.frz od (.dK vs)) ∧ vs.map (·.1) = kvs.map (·.1) ∧ RepL K ι F (kvs.map (·.2)) (vs.map (·.2))
def DO.live : DO → Bool
  | .dead => false
  | _ => true
def DO.wr : DO → Bool
  | .dead => false
  | .fdc _ => false
  | _ => true
theorem DO.wr_live {o : DO} (h : o.wr = true) : o.live = true := by cases o <;> first | rfl | cases h
def DO.fd : DO → Bool
  | .fdc _ => true
  | _ => false
def xdB : HO → Bool
  | .xd _ => true
  | _ => false
def fzB : HO → Bool
  | .frz _ _ => true
  | _ => false
structure Rel (rs : List (Addr × HO)) (H : Hp) (M : Mem) : Prop where
  len : ι.length = M.length
  sub : ∀ b o, F b = some o → H b = some o
  obj : ∀ (i : Nat) o a, M[i]? = some o → ι[i]? = some a → o.live = true → F a = none ∧ RepO K ι F H a o
  inj : ∀ (i j : Nat) a, ι[i]? = some a → ι[j]? = some a → i = j
  there : ∀ (i : Nat) a, ι[i]? = some a → ∃ u, H a = some u ∧ xdB u = false
  rsv : ∀ p ∈ rs, H p.1 = some p.2 ∧ F p.1 = none ∧ ∀ i : Nat, ι[i]? = some p.1 → ∃ kvs, M[i]? = some (.fdc kvs)
  lck : ∀ (i : Nat) a kvs, M[i]? = some (.fdc kvs) → ι[i]? = some a → ∃ o, (a, o) ∈ rs
def RepS (s : List (Option D)) (σ : St) : Prop := σ.length = s.length ∧ ∀ (i : Nat) d, s[i]? = some (some d) → ∃ v, σ[i]? = some (some v) ∧ Rep K ι F d v
def RepX (x : Exn) (cls : Value) (dx : Option Addr) : Prop := K.tb.et[x.cls]? = some cls ∧ match x.fs, dx with
  | none, none => True
  | some fs, some d => ∃ vs, F d = some (.xd vs) ∧ vs.map (·.1) = fs.map (·.1) ∧ RepL K ι F (fs.map (·.2)) (vs.map (·.2))
  | _, _ => False
/-- what was a value stays one -/
def Le (ι' : List Addr) (F' : Hp) : Prop := ∀ d v, Rep K ι F d v → Rep K ι' F' d v
end

section
variable {K : KX} {ι ι' ι'' : List Addr} {F F' F'' H H' : Hp} {M M' : Mem} {rs : List (Addr × HO)}
theorem Le.refl : Le K ι F ι F := fun _ _ h => h
theorem Le.trans (a : Le K ι F ι' F') (b : Le K ι' F' ι'' F'') : Le K ι F ι'' F'' := fun d v h => b d v (a d v h)
theorem RepL.le (e : Le K ι F ι' F') : ∀ {ds : List D} {vs : List V}, RepL K ι F ds vs → RepL K ι' F' ds vs
  | [], vs, h => h
  | d :: ds, vs, h => by
    obtain ⟨v, r, e1, h1, h2⟩ := h
    exact ⟨v, r, e1, e d v h1, RepL.le e h2⟩
theorem RepS.le (e : Le K ι F ι' F') {s : List (Option D)} {σ : St} (h : RepS K ι F s σ) : RepS K ι' F' s σ :=
  ⟨h.1, fun i d q => by
    obtain ⟨v, h1, h2⟩ := h.2 i d q
    exact ⟨v, h1, e _ _ h2⟩⟩
theorem RepO.le (e : Le K ι F ι' F') {a : Addr} {o : DO} (h : RepO K ι F H a o) : RepO K ι' F' H a o := by
  cases o with
  | lst xs => obtain ⟨vs, h1, h2⟩ := h; exact ⟨vs, h1, h2.le e⟩
  | dic kvs => obtain ⟨vs, h1, h2, h3⟩ := h; exact ⟨vs, h1, h2, h3.le e⟩
  | ins C fs =>
    obtain ⟨C, ly, dx, vs, h0, h1, h2, h3, h4, h5⟩ := h
    refine ⟨C, ly, dx, vs, h0, h1, h2, h3, h4, fun j f e1 d e2 => ?_⟩
    obtain ⟨v, h6, h7⟩ := h5 j f e1 d e2
    exact ⟨v, h6, e _ _ h7⟩
  | dead => trivial
  | fdc kvs => obtain ⟨od, vs, h1, h2, h3⟩ := h; exact ⟨od, vs, h1, h2, h3.le e⟩
theorem RepO.at {a : Addr} {o : DO} (h : RepO K ι F H a o) (e : H' a = H a) : RepO K ι F H' a o := by
  cases o with
  | lst xs => obtain ⟨vs, h1, h2⟩ := h; exact ⟨vs, e.trans h1, h2⟩
  | dic kvs => obtain ⟨vs, h1, h2, h3⟩ := h; exact ⟨vs, e.trans h1, h2, h3⟩
  | ins C fs => obtain ⟨C, ly, dx, vs, h0, h1, h2, h3, h4⟩ := h; exact ⟨C, ly, dx, vs, h0, e.trans h1, h2, h3, h4⟩
  | dead => trivial
  | fdc kvs => obtain ⟨od, vs, h1, h2, h3⟩ := h; exact ⟨od, vs, e.trans h1, h2, h3⟩
theorem RepO.some {a : Addr} {o : DO} (h : RepO K ι F H a o) (l : o.live = true) : ∃ u, H a = some u := by
  cases o with
  | lst xs => obtain ⟨vs, h1, h2⟩ := h; exact ⟨_, h1⟩
  | dic kvs => obtain ⟨vs, h1, h2, h3⟩ := h; exact ⟨_, h1⟩
  | ins C fs => obtain ⟨C, ly, dx, vs, h0, h1, _⟩ := h; exact ⟨_, h1⟩
  | dead => cases l
  | fdc kvs => obtain ⟨od, vs, h1, h2, h3⟩ := h; exact ⟨_, h1⟩
theorem RepO.nxd {a : Addr} {u : DO} {o : HO} (h : RepO K ι F H a u) (hu : u.wr = true) (e : H a = Option.some o) : xdB o = false := by
  cases u with
  | lst xs => obtain ⟨vs, h1, h2⟩ := h; rw [h1] at e; cases e; rfl
  | dic kvs => obtain ⟨vs, h1, h2, h3⟩ := h; rw [h1] at e; cases e; rfl
  | ins c fs => obtain ⟨C, ly, dx, vs, h0, h1, _⟩ := h; rw [h1] at e; cases e; rfl
  | dead => cases hu
  | fdc kvs => cases hu
theorem RepL.length : ∀ {ds : List D} {vs : List V}, RepL K ι F ds vs → vs.length = ds.length
  | [], vs, h => by
    have e : vs = [] := h
    rw [e] <;> rfl
  | d :: ds, vs, h => by
    obtain ⟨v, r, e, h1, h2⟩ := h
    rw [e, List.length_cons, List.length_cons, h2.length]
theorem RepL.get : ∀ {ds : List D} {vs : List V} {i : Nat} {d : D}, RepL K ι F ds vs → ds[i]? = some d → ∃ v, vs[i]? = some v ∧ Rep K ι F d v
  | [], vs, i, d, h, e => by simp at e
  | d0 :: ds, vs, 0, d, h, e => by
    obtain ⟨v, r, e1, h1, h2⟩ := h
    have q : d0 = d := by simpa using e
    subst q
    exact ⟨v, by rw [e1] <;> rfl, h1⟩
  | d0 :: ds, vs, i + 1, d, h, e => by
    obtain ⟨v, r, e1, h1, h2⟩ := h
    obtain ⟨v', h3, h4⟩ := h2.get (i := i) (d := d) (by simpa using e)
    exact ⟨v', by rw [e1]; simpa using h3, h4⟩
theorem RepL.append : ∀ {ds es : List D} {vs us : List V}, RepL K ι F ds vs → RepL K ι F es us → RepL K ι F (ds ++ es) (vs ++ us)
  | [], es, vs, us, h, h' => by
    have e : vs = [] := h
    rw [e]; exact h'
  | d :: ds, es, vs, us, h, h' => by
    obtain ⟨v, r, e, h1, h2⟩ := h
    exact ⟨v, r ++ us, by rw [e] <;> rfl, h1, h2.append h'⟩
theorem RepL.one {d : D} {v : V} (h : Rep K ι F d v) : RepL K ι F [d] [v] := ⟨v, [], rfl, h, rfl⟩
theorem RepL.set : ∀ {ds : List D} {vs : List V} {i : Nat} {d : D} {v : V}, RepL K ι F ds vs → Rep K ι F d v → RepL K ι F (ds.set i d) (vs.set i v)
  | [], vs, i, d, v, h, _ => by
    have e : vs = [] := h
    rw [e]; exact rfl
  | d0 :: ds, vs, 0, d, v, h, h' => by
    obtain ⟨v0, r, e, h1, h2⟩ := h
    exact ⟨v, r, by rw [e] <;> rfl, h', h2⟩
  | d0 :: ds, vs, i + 1, d, v, h, h' => by
    obtain ⟨v0, r, e, h1, h2⟩ := h
    exact ⟨v0, r.set i v, by rw [e] <;> rfl, h1, h2.set h'⟩
theorem RepL.take : ∀ {ds : List D} {vs : List V} (n : Nat), RepL K ι F ds vs → RepL K ι F (ds.take n) (vs.take n)
  | ds, vs, 0, h => by
    show vs.take 0 = []
    simp
  | [], vs, n + 1, h => by
    have e : vs = [] := h
    rw [e]; exact rfl
  | d :: ds, vs, n + 1, h => by
    obtain ⟨v0, r, e, h1, h2⟩ := h
    exact ⟨v0, r.take n, by rw [e] <;> rfl, h1, h2.take n⟩
theorem RepL.drop : ∀ {ds : List D} {vs : List V} (n : Nat), RepL K ι F ds vs → RepL K ι F (ds.drop n) (vs.drop n)
  | ds, vs, 0, h => by simpa using h
  | [], vs, n + 1, h => by
    have e : vs = [] := h
    rw [e]; exact rfl
  | d :: ds, vs, n + 1, h => by
    obtain ⟨v0, r, e, h1, h2⟩ := h
    rw [e]
    exact h2.drop n
theorem RepL.reverse : ∀ {ds : List D} {vs : List V}, RepL K ι F ds vs → RepL K ι F ds.reverse vs.reverse
  | [], vs, h => by
    have e : vs = [] := h
    rw [e]; exact rfl
  | d :: ds, vs, h => by
    obtain ⟨v0, r, e, h1, h2⟩ := h
    rw [e, List.reverse_cons, List.reverse_cons]
    exact h2.reverse.append (.one h1)

/-- the known part grows (or what it knows is locked) and addresses are added -/
theorem Le.of (hF : ∀ b u, (∃ xs, u = HO.lst xs) ∨ (∃ xs, u = HO.tup xs) ∨ (∃ kvs, u = HO.dK kvs) → Rd F b u → Rd F' b u) (hi : ∀ (i : Nat) a, ι[i]? = some a → ι'[i]? = some a) : Le K ι F ι' F' := by
  have main : ∀ n, (∀ d v, sizeOf d < n → Rep K ι F d v → Rep K ι' F' d v) ∧ (∀ ds vs, sizeOf ds < n → RepL K ι F ds vs → RepL K ι' F' ds vs) := by
    intro n
    induction n with
    | zero => exact ⟨fun _ _ h => absurd h (Nat.not_lt_zero _), fun _ _ h => absurd h (Nat.not_lt_zero _)⟩
    | succ n ih =>
      refine ⟨fun d v hn h => ?_, fun ds vs hn h => ?_⟩
      · cases d with
        | non => exact h
        | bl b => exact h
        | int i => exact h
        | str x => exact h
        | ty n => exact h
        | glb a => exact h
        | ref i =>
          obtain ⟨a, e, q⟩ := h
          exact ⟨a, e, hi i a q⟩
        | lst xs =>
          obtain ⟨a, us, e, q, r⟩ := h
          refine ⟨a, us, e, ?_, ih.2 _ _ (by simp at hn; omega) r⟩
          rcases q with q | q
          · exact .inl (hF _ _ (.inl ⟨_, rfl⟩) q)
          · exact .inr q
        | tup xs =>
          obtain ⟨a, us, e, q, r⟩ := h
          refine ⟨a, us, e, ?_, ih.2 _ _ (by simp at hn; omega) r⟩
          rcases q with q | q
          · exact .inl (hF _ _ (.inr (.inl ⟨_, rfl⟩)) q)
          · exact .inr q
        | dic ks xs =>
          obtain ⟨a, us, e, q, e2, r⟩ := h
          exact ⟨a, us, e, hF _ _ (.inr (.inr ⟨_, rfl⟩)) q, e2, ih.2 _ _ (by simp at hn; omega) r⟩
      · cases ds with
        | nil => exact h
        | cons d ds =>
          obtain ⟨v, r, e, h1, h2⟩ := h
          exact ⟨v, r, e, ih.1 _ _ (by simp at hn; omega) h1, ih.2 _ _ (by simp at hn; omega) h2⟩
  exact fun d v h => (main (sizeOf d + 1)).1 d v (Nat.lt_succ_self _) h
theorem Le.grow (hF : ∀ b o, F b = some o → F' b = some o) : Le K ι F ι F' := Le.of (fun b u _ h => by
  rcases h with h | ⟨o, h⟩
  · exact .inl (hF _ _ h)
  · exact .inr ⟨o, hF _ _ h⟩) fun _ _ h => h
theorem Le.new {p : Addr} {o : HO} (h : F p = none) : Le K ι F ι (upd F p o) := Le.grow fun b u e => by
  rw [upd_ne (ne_of_none e h)]; exact e
theorem Le.push {a : Addr} : Le K ι F (ι ++ [a]) F := Le.of (fun _ _ _ h => h) fun i b h => by
  rw [List.getElem?_append_left (List.getElem?_eq_some_iff.mp h).1]; exact h
theorem Rel.free (r : Rel K ι F rs H M) {p : Addr} (h : H p = none) : F p = none := by
  cases e : F p with
  | none => rfl
  | some o =>
    rw [r.sub _ _ e] at h
    cases h
theorem Rel.le (r : Rel K ι F rs H M) (e : Le K ι F ι F') (hs : ∀ b o, F' b = some o → H b = some o) (hn : ∀ (i : Nat) o a, M[i]? = some o → ι[i]? = some a → o.live = true → F' a = none) (hr : ∀ p ∈ rs, F' p.1 = none) : Rel K ι F' rs H M :=
  ⟨r.len, hs, fun i o a h1 h2 h3 => ⟨hn i o a h1 h2 h3, (r.obj i o a h1 h2 h3).2.le e⟩, r.inj, r.there, fun p hp => ⟨(r.rsv p hp).1, hr p hp, (r.rsv p hp).2.2⟩, r.lck⟩
theorem Rel.rsvN (r : Rel K ι F rs H M) {q : Addr × HO} (hq : q ∈ rs) (nf : fzB q.2 = false) (i : Nat) : ι[i]? ≠ some q.1 := fun e => by
  obtain ⟨h1, _, h3⟩ := r.rsv q hq
  obtain ⟨kvs, hM⟩ := h3 i e
  obtain ⟨_, od, vs, h4, _⟩ := r.obj i _ _ hM e rfl
  rw [h1] at h4
  rw [Option.some.inj h4] at nf
  cases nf
/-- a new object that will not change -/
theorem Rel.frozen (r : Rel K ι F rs H M) {p : Addr} {o : HO} (h : H p = none) : Rel K ι (upd F p o) rs (upd H p o) M where
  len := r.len
  sub := fun b u e => by
    by_cases hb : b = p
    · subst hb; rw [upd_same] at e ⊢; exact e
    · rw [upd_ne hb] at e ⊢; exact r.sub _ _ e
  obj := fun i u a h1 h2 h3 => by
    obtain ⟨f0, ro⟩ := r.obj i u a h1 h2 h3
    have hap : a ≠ p := fun e => by
      obtain ⟨x, hx⟩ := ro.some h3
      rw [e, h] at hx
      cases hx
    refine ⟨by rw [upd_ne hap]; exact f0, (ro.le (Le.new (r.free h))).at (upd_ne hap)⟩
  inj := r.inj
  there := fun i a e => by
    obtain ⟨x, hx, hb⟩ := r.there i a e
    exact ⟨x, by rw [upd_ne (ne_of_none hx h)]; exact hx, hb⟩
  rsv := fun q hq => by
    obtain ⟨r1, r2, r3⟩ := r.rsv q hq
    have ne := ne_of_none r1 h
    exact ⟨by rw [upd_ne ne]; exact r1, by rw [upd_ne ne]; exact r2, r3⟩
  lck := r.lck
/-- a new object that may change -/
theorem Rel.fresh (r : Rel K ι F rs H M) {p : Addr} {o : HO} {u : DO} (h : H p = none) (hu : u.wr = true) (ho : RepO K (ι ++ [p]) F (upd H p o) p u) : Rel K (ι ++ [p]) F rs (upd H p o) (M ++ [u]) where
  len := by rw [List.length_append, List.length_append, r.len] <;> rfl
  sub := fun b v e => by
    have hb : b ≠ p := ne_of_none (r.sub _ _ e) h
    rw [upd_ne hb]; exact r.sub _ _ e
  obj := fun i v a h1 h2 h3 => by
    by_cases hi : i < M.length
    · rw [List.getElem?_append_left hi] at h1
      rw [List.getElem?_append_left (by rw [r.len]; exact hi)] at h2
      obtain ⟨f0, ro⟩ := r.obj i v a h1 h2 h3
      have hap : a ≠ p := fun e => by
        obtain ⟨x, hx⟩ := ro.some h3
        rw [e, h] at hx
        cases hx
      exact ⟨f0, (ro.le Le.push).at (upd_ne hap)⟩
    · have hl : i < (M ++ [u]).length := (List.getElem?_eq_some_iff.mp h1).1
      have hi' : i = M.length := by rw [List.length_append, List.length_singleton] at hl; omega
      subst hi'
      have e1 : u = v := by simpa using h1
      rw [← r.len] at h2
      have e2 : p = a := by simpa using h2
      subst e1; subst e2
      exact ⟨r.free h, ho⟩
  inj := fun i j a h1 h2 => by
    have old : ∀ (k : Nat), k < M.length → (ι ++ [p])[k]? = some a → ι[k]? = some a ∧ a ≠ p := fun k hk q => by
      rw [List.getElem?_append_left (by rw [r.len]; exact hk)] at q
      obtain ⟨x, hx, _⟩ := r.there k a q
      exact ⟨q, ne_of_none hx h⟩
    have last : ∀ (k : Nat), ¬ k < M.length → (ι ++ [p])[k]? = some a → k = M.length ∧ a = p := fun k hk q => by
      have hl : k < (ι ++ [p]).length := (List.getElem?_eq_some_iff.mp q).1
      have hk' : k = M.length := by rw [List.length_append, List.length_singleton, r.len] at hl; omega
      rw [hk', ← r.len] at q
      have q' : p = a := by simpa using q
      exact ⟨hk', q'.symm⟩
    by_cases hi : i < M.length
    · obtain ⟨q1, na⟩ := old i hi h1
      by_cases hj : j < M.length
      · exact r.inj i j a q1 (old j hj h2).1
      · exact absurd (last j hj h2).2 na
    · obtain ⟨ei, ea⟩ := last i hi h1
      by_cases hj : j < M.length
      · exact absurd ea (old j hj h2).2
      · rw [ei, (last j hj h2).1]
  there := fun i a e => by
    by_cases hi : i < M.length
    · rw [List.getElem?_append_left (by rw [r.len]; exact hi)] at e
      obtain ⟨x, hx, hb⟩ := r.there i a e
      exact ⟨x, by rw [upd_ne (ne_of_none hx h)]; exact hx, hb⟩
    · have hl : i < (ι ++ [p]).length := (List.getElem?_eq_some_iff.mp e).1
      have hk' : i = M.length := by rw [List.length_append, List.length_singleton, r.len] at hl; omega
      rw [hk', ← r.len] at e
      have q' : p = a := by simpa using e
      exact ⟨o, by rw [← q', upd_same], ho.nxd hu upd_same⟩
  rsv := fun q hq => by
    obtain ⟨r1, r2, r3⟩ := r.rsv q hq
    have ne := ne_of_none r1 h
    refine ⟨by rw [upd_ne ne]; exact r1, r2, fun i e => ?_⟩
    by_cases hi : i < M.length
    · rw [List.getElem?_append_left (by rw [r.len]; exact hi)] at e
      obtain ⟨k, z⟩ := r3 i e
      exact ⟨k, by rw [List.getElem?_append_left hi]; exact z⟩
    · have hl : i < (ι ++ [p]).length := (List.getElem?_eq_some_iff.mp e).1
      have hk' : i = M.length := by rw [List.length_append, List.length_singleton, r.len] at hl; omega
      rw [hk', ← r.len] at e
      have q' : p = q.1 := by simpa using e
      exact absurd q'.symm ne
  lck := fun i a kvs h1 h2 => by
    by_cases hi : i < M.length
    · rw [List.getElem?_append_left hi] at h1
      rw [List.getElem?_append_left (by rw [r.len]; exact hi)] at h2
      exact r.lck i a kvs h1 h2
    · have hl : i < (M ++ [u]).length := (List.getElem?_eq_some_iff.mp h1).1
      have hi' : i = M.length := by rw [List.length_append, List.length_singleton] at hl; omega
      subst hi'
      have e1 : u = .fdc kvs := by simpa using h1
      rw [e1] at hu
      cases hu
/-- an object that may change is changed -/
theorem Rel.write (r : Rel K ι F rs H M) {i : Nat} {a : Addr} {u v : DO} {o : HO} (hM : M[i]? = some u) (hi : ι[i]? = some a) (hu : u.wr = true) (ho : RepO K ι F (upd H a o) a v) (hv : v.fd = false := by rfl) (hx : xdB o = false := by rfl) : Rel K ι F rs (upd H a o) (M.set i v) where
  len := by rw [List.length_set]; exact r.len
  sub := fun b x e => by
    have hb : b ≠ a := fun q => by
      rw [q, (r.obj i u a hM hi (DO.wr_live hu)).1] at e
      cases e
    rw [upd_ne hb]; exact r.sub _ _ e
  obj := fun j x c h1 h2 h3 => by
    by_cases hj : i = j
    · subst hj
      rw [hi] at h2
      cases h2
      have hl : i < M.length := (List.getElem?_eq_some_iff.mp hM).1
      rw [List.getElem?_set_self hl] at h1
      cases h1
      exact ⟨(r.obj i u a hM hi (DO.wr_live hu)).1, ho⟩
    · rw [List.getElem?_set_ne hj] at h1
      obtain ⟨f0, ro⟩ := r.obj j x c h1 h2 h3
      have hc : c ≠ a := fun q => hj (r.inj i j a hi (by rw [← q]; exact h2))
      exact ⟨f0, ro.at (upd_ne hc)⟩
  inj := r.inj
  there := fun j c e => by
    by_cases hc : c = a
    · exact ⟨o, by rw [hc, upd_same], hx⟩
    · obtain ⟨x, hx, hb⟩ := r.there j c e
      exact ⟨x, by rw [upd_ne hc]; exact hx, hb⟩
  rsv := fun q hq => by
    obtain ⟨r1, r2, r3⟩ := r.rsv q hq
    have ne : q.1 ≠ a := fun z => by
      obtain ⟨k, z2⟩ := r3 i (by rw [z]; exact hi)
      rw [hM] at z2
      rw [Option.some.inj z2] at hu
      cases hu
    refine ⟨by rw [upd_ne ne]; exact r1, r2, fun j e => ?_⟩
    obtain ⟨k, z⟩ := r3 j e
    refine ⟨k, ?_⟩
    rw [List.getElem?_set_ne fun z2 => ne (by rw [z2] at hi; rw [hi] at e; exact (Option.some.inj e).symm)]
    exact z
  lck := fun j c kvs h1 h2 => by
    by_cases hj : i = j
    · subst hj
      rw [List.getElem?_set_self (List.getElem?_eq_some_iff.mp hM).1] at h1
      rw [Option.some.inj h1] at hv
      cases hv
    · rw [List.getElem?_set_ne hj] at h1
      exact r.lck j c kvs h1 h2
/-- an object that may change is known from now on as it stands -/
theorem Rel.freeze (r : Rel K ι F rs H M) {i : Nat} {a : Addr} {u : DO} {o : HO} (hM : M[i]? = some u) (hi : ι[i]? = some a) (hu : u.wr = true) (ho : H a = some o) : Rel K ι (upd F a o) rs H (M.set i .dead) where
  len := by rw [List.length_set]; exact r.len
  sub := fun b x e => by
    by_cases hb : b = a
    · rw [hb, upd_same] at e
      rw [hb, ho, e]
    · rw [upd_ne hb] at e
      exact r.sub _ _ e
  obj := fun j x c h1 h2 h3 => by
    by_cases hj : i = j
    · subst hj
      have hl : i < M.length := (List.getElem?_eq_some_iff.mp hM).1
      rw [List.getElem?_set_self hl] at h1
      cases h1
      cases h3
    · rw [List.getElem?_set_ne hj] at h1
      obtain ⟨f0, ro⟩ := r.obj j x c h1 h2 h3
      have hc : c ≠ a := fun q => hj (r.inj i j a hi (by rw [← q]; exact h2))
      exact ⟨by rw [upd_ne hc]; exact f0, ro.le (Le.new (r.obj i u a hM hi (DO.wr_live hu)).1)⟩
  inj := r.inj
  there := r.there
  rsv := fun q hq => by
    obtain ⟨r1, r2, r3⟩ := r.rsv q hq
    have ne : q.1 ≠ a := fun z => by
      obtain ⟨k, z2⟩ := r3 i (by rw [z]; exact hi)
      rw [hM] at z2
      rw [Option.some.inj z2] at hu
      cases hu
    refine ⟨r1, by rw [upd_ne ne]; exact r2, fun j e => ?_⟩
    obtain ⟨k, z⟩ := r3 j e
    refine ⟨k, ?_⟩
    rw [List.getElem?_set_ne fun z2 => ne (by rw [z2] at hi; rw [hi] at e; exact (Option.some.inj e).symm)]
    exact z
  lck := fun j c kvs h1 h2 => by
    by_cases hj : i = j
    · subst hj
      rw [List.getElem?_set_self (List.getElem?_eq_some_iff.mp hM).1] at h1
      cases h1
    · rw [List.getElem?_set_ne hj] at h1
      exact r.lck j c kvs h1 h2
/-- a dict is locked while it is walked -/
theorem Rel.lock (r : Rel K ι F rs H M) {i : Nat} {a : Addr} {kvs : List (Key × D)} {vs : List (Key × V)} {od : Obj} (hM : M[i]? = some (.dic kvs)) (hi : ι[i]? = some a) (hH : H a = some (.dK vs)) : Rel K ι F ((a, .frz od (.dK vs)) :: rs) (upd H a (.frz od (.dK vs))) (M.set i (.fdc kvs)) where
  len := by rw [List.length_set]; exact r.len
  sub := fun b x e => by
    have hb : b ≠ a := fun q => by
      rw [q, (r.obj i _ a hM hi rfl).1] at e
      cases e
    rw [upd_ne hb]; exact r.sub _ _ e
  obj := fun j x c h1 h2 h3 => by
    by_cases hj : i = j
    · subst hj
      rw [hi] at h2
      cases h2
      rw [List.getElem?_set_self (List.getElem?_eq_some_iff.mp hM).1] at h1
      cases h1
      obtain ⟨f0, ws, e1, e2, e3⟩ := r.obj i _ a hM hi rfl
      rw [hH] at e1
      cases e1
      exact ⟨f0, od, vs, upd_same, e2, e3⟩
    · rw [List.getElem?_set_ne hj] at h1
      obtain ⟨f0, ro⟩ := r.obj j x c h1 h2 h3
      have hc : c ≠ a := fun q => hj (r.inj i j a hi (by rw [← q]; exact h2))
      exact ⟨f0, ro.at (upd_ne hc)⟩
  inj := r.inj
  there := fun j c e => by
    by_cases hc : c = a
    · exact ⟨_, by rw [hc, upd_same], rfl⟩
    · obtain ⟨x, hx, hb⟩ := r.there j c e
      exact ⟨x, by rw [upd_ne hc]; exact hx, hb⟩
  rsv := fun q hq => by
    rcases List.mem_cons.mp hq with rfl | hq
    · refine ⟨upd_same, (r.obj i _ a hM hi rfl).1, fun j e => ?_⟩
      have : i = j := r.inj i j a hi e
      subst this
      exact ⟨kvs, List.getElem?_set_self (List.getElem?_eq_some_iff.mp hM).1⟩
    · obtain ⟨r1, r2, r3⟩ := r.rsv q hq
      have ne : q.1 ≠ a := fun z => by
        obtain ⟨k, z2⟩ := r3 i (by rw [z]; exact hi)
        rw [hM] at z2
        cases z2
      refine ⟨by rw [upd_ne ne]; exact r1, r2, fun j e => ?_⟩
      obtain ⟨k, z⟩ := r3 j e
      refine ⟨k, ?_⟩
      rw [List.getElem?_set_ne fun z2 => ne (by rw [z2] at hi; rw [hi] at e; exact (Option.some.inj e).symm)]
      exact z
  lck := fun j c ks h1 h2 => by
    by_cases hj : i = j
    · subst hj
      rw [hi] at h2
      cases h2
      exact ⟨_, List.mem_cons_self⟩
    · rw [List.getElem?_set_ne hj] at h1
      obtain ⟨o, z⟩ := r.lck j c ks h1 h2
      exact ⟨o, List.mem_cons_of_mem _ z⟩
theorem Rel.lock_ne (r : Rel K ι F rs H M) {i : Nat} {a : Addr} {kvs : List (Key × D)} (hM : M[i]? = some (.dic kvs)) (hi : ι[i]? = some a) : ∀ q ∈ rs, q.1 ≠ a := fun q hq z => by
  obtain ⟨k, z2⟩ := (r.rsv q hq).2.2 i (by rw [z]; exact hi)
  rw [hM] at z2
  cases z2
/-- .. and let go -/
theorem Rel.unlock (r : Rel K ι F ((p, .frz od (.dK vs)) :: rs) H M) {i : Nat} {kvs : List (Key × D)} (hM : M[i]? = some (.fdc kvs)) (hi : ι[i]? = some p) (hp : ∀ q ∈ rs, q.1 ≠ p) : Rel K ι F rs (upd H p (.dK vs)) (M.set i (.dic kvs)) where
  len := by rw [List.length_set]; exact r.len
  sub := fun b x e => by
    have hb : b ≠ p := fun q => by
      rw [q, (r.obj i _ p hM hi rfl).1] at e
      cases e
    rw [upd_ne hb]; exact r.sub _ _ e
  obj := fun j x c h1 h2 h3 => by
    by_cases hj : i = j
    · subst hj
      rw [hi] at h2
      cases h2
      rw [List.getElem?_set_self (List.getElem?_eq_some_iff.mp hM).1] at h1
      cases h1
      obtain ⟨f0, od', ws, e1, e2, e3⟩ := r.obj i _ p hM hi rfl
      rw [(r.rsv _ List.mem_cons_self).1] at e1
      cases e1
      exact ⟨f0, vs, upd_same, e2, e3⟩
    · rw [List.getElem?_set_ne hj] at h1
      obtain ⟨f0, ro⟩ := r.obj j x c h1 h2 h3
      have hc : c ≠ p := fun q => hj (r.inj i j p hi (by rw [← q]; exact h2))
      exact ⟨f0, ro.at (upd_ne hc)⟩
  inj := r.inj
  there := fun j c e => by
    by_cases hc : c = p
    · exact ⟨_, by rw [hc, upd_same], rfl⟩
    · obtain ⟨x, hx, hb⟩ := r.there j c e
      exact ⟨x, by rw [upd_ne hc]; exact hx, hb⟩
  rsv := fun q hq => by
    obtain ⟨r1, r2, r3⟩ := r.rsv q (List.mem_cons_of_mem _ hq)
    refine ⟨by rw [upd_ne (hp q hq)]; exact r1, r2, fun j e => ?_⟩
    obtain ⟨k, z⟩ := r3 j e
    refine ⟨k, ?_⟩
    rw [List.getElem?_set_ne fun z2 => hp q hq (by rw [z2] at hi; rw [hi] at e; exact (Option.some.inj e).symm)]
    exact z
  lck := fun j c ks h1 h2 => by
    by_cases hj : i = j
    · subst hj
      rw [List.getElem?_set_self (List.getElem?_eq_some_iff.mp hM).1] at h1
      cases h1
    · rw [List.getElem?_set_ne hj] at h1
      obtain ⟨o, z⟩ := r.lck j c ks h1 h2
      rcases List.mem_cons.mp z with z | z
      · cases z
        exact absurd (r.inj i j p hi h2) hj
      · exact ⟨o, z⟩
/-- .. for ever, behind an exception -/
theorem Rel.unlockX (r : Rel K ι F ((p, .frz od (.dK vs)) :: rs) H M) {i : Nat} (hi : ι[i]? = some p) (hp : ∀ q ∈ rs, q.1 ≠ p) : Rel K ι F rs H (M.set i .dead) where
  len := by rw [List.length_set]; exact r.len
  sub := r.sub
  obj := fun j x c h1 h2 h3 => by
    by_cases hj : i = j
    · subst hj
      by_cases hl : i < M.length
      · rw [List.getElem?_set_self hl] at h1
        cases h1
        cases h3
      · rw [List.getElem?_eq_none (by rw [List.length_set]; omega)] at h1
        cases h1
    · rw [List.getElem?_set_ne hj] at h1
      exact r.obj j x c h1 h2 h3
  inj := r.inj
  there := r.there
  rsv := fun q hq => by
    obtain ⟨r1, r2, r3⟩ := r.rsv q (List.mem_cons_of_mem _ hq)
    refine ⟨r1, r2, fun j e => ?_⟩
    obtain ⟨k, z⟩ := r3 j e
    refine ⟨k, ?_⟩
    rw [List.getElem?_set_ne fun z2 => hp q hq (by rw [z2] at hi; rw [hi] at e; exact (Option.some.inj e).symm)]
    exact z
  lck := fun j c ks h1 h2 => by
    by_cases hj : i = j
    · subst hj
      by_cases hl : i < M.length
      · rw [List.getElem?_set_self hl] at h1
        cases h1
      · rw [List.getElem?_eq_none (by rw [List.length_set]; omega)] at h1
        cases h1
    · rw [List.getElem?_set_ne hj] at h1
      obtain ⟨o, z⟩ := r.lck j c ks h1 h2
      rcases List.mem_cons.mp z with z | z
      · cases z
        exact absurd (r.inj i j p hi h2) hj
      · exact ⟨o, z⟩
/-! ### what follows -/
def Post {α β : Type} (K : KX) (rs : List (Addr × HO)) (rep : List Addr → Hp → α → β → Prop) (ι : List Addr) (F : Hp) (W : Value → Option Addr → Hp → Prop) (Q : β → Hp → Prop) : R α → Prop
  | .ok a M' => ∀ ι' F' H' v, Le K ι F ι' F' → Rel K ι' F' rs H' M' → rep ι' F' a v → Q v H'
  | .er x M' => ∀ ι' F' H' cls dx, Le K ι F ι' F' → Rel K ι' F' rs H' M' → RepX K ι' F' x cls dx → W cls dx H'
  | .bad => False
theorem Post.le {α β : Type} {rep : List Addr → Hp → α → β → Prop} {W : Value → Option Addr → Hp → Prop} {Q : β → Hp → Prop} {r : R α} (e : Le K ι F ι' F') (h : Post K rs rep ι F W Q r) : Post K rs rep ι' F' W Q r := by
  cases r with
  | ok a M' => exact fun ι2 F2 H2 v l => h ι2 F2 H2 v (e.trans l)
  | er x M' => exact fun ι2 F2 H2 c d l => h ι2 F2 H2 c d (e.trans l)
  | bad => exact h
abbrev repD (K : KX) : List Addr → Hp → D → V → Prop := fun ι F d v => Rep K ι F d v
abbrev repA (K : KX) : List Addr → Hp → List D → List V → Prop := fun ι F d v => RepL K ι F d v
abbrev repB : List Addr → Hp → Bool → Bool → Prop := fun _ _ a b => b = a
abbrev DS := List (Option D)
abbrev Sem1 (α : Type) := DS → Mem → R α
/-- the reading of a semantics -/
def LG {α β : Type} (K : KX) (rs : List (Addr × HO)) (rep : List Addr → Hp → α → β → Prop) (W : WX) (φ : Sem1 α) : St → Hp → (β → Hp → Prop) → Prop := fun σ H Q =>
  ∃ ι F s M, Rel K ι F rs H M ∧ RepS K ι F s σ ∧ Post K rs rep ι F (fun c d => W c d σ) Q (φ s M)
abbrev LE (K : KX) (rs : List (Addr × HO)) (W : WX) (φ : Sem1 D) : TE := LG K rs (repD K) W φ
abbrev LA (K : KX) (rs : List (Addr × HO)) (W : WX) (φ : Sem1 (List D)) : TA := LG K rs (repA K) W φ
abbrev LT (K : KX) (rs : List (Addr × HO)) (W : WX) (φ : Sem1 Bool) : TT := LG K rs repB W φ
/-- first this, then that -/
theorem LG.bind {α β γ δ : Type} {rep : List Addr → Hp → α → β → Prop} {rep2 : List Addr → Hp → γ → δ → Prop} {W : WX} {φ : Sem1 α} {f : α → Sem1 γ} {σ : St} {Q : δ → Hp → Prop}
    (h : LG K rs rep2 W (fun s M => (φ s M).bind fun a M1 => f a s M1) σ H Q) : LG K rs rep W φ σ H fun v H1 => ∃ ι F s M a, Rel K ι F rs H1 M ∧ RepS K ι F s σ ∧ rep ι F a v ∧ Post K rs rep2 ι F (fun c d => W c d σ) Q (f a s M) := by
  obtain ⟨ι, F, s, M, r, rs, p⟩ := h
  refine ⟨ι, F, s, M, r, rs, ?_⟩
  dsimp only at p
  cases e : φ s M with
  | ok a M1 =>
    rw [e] at p
    exact fun ι1 F1 H1 v l r1 ra => ⟨ι1, F1, s, M1, a, r1, rs.le l, ra, p.le l⟩
  | er x M1 =>
    rw [e] at p
    exact p
  | bad =>
    rw [e] at p
    exact p
theorem LG.imp {α β : Type} {rep : List Addr → Hp → α → β → Prop} {W : WX} {φ : Sem1 α} {σ : St} {Q Q' : β → Hp → Prop} (h : LG K rs rep W φ σ H Q) (hq : ∀ v H', Q v H' → Q' v H') : LG K rs rep W φ σ H Q' := by
  obtain ⟨ι, F, s, M, r, rs, p⟩ := h
  refine ⟨ι, F, s, M, r, rs, ?_⟩
  cases e : φ s M with
  | ok a M1 =>
    rw [e] at p
    exact fun ι1 F1 H1 v l r1 ra => hq _ _ (p ι1 F1 H1 v l r1 ra)
  | er x M1 =>
    rw [e] at p
    exact p
  | bad =>
    rw [e] at p
    exact p
end
end LD
namespace LD
open PySem PySem.Spec PyProof.Rows L2

/-! ### plain functions on values -/
abbrev O1 := D → Mem → Option (D × Mem)
abbrev O2 := D → D → Mem → Option (D × Mem)
def LINE : Nat := 16777216
def lsOf (M : Mem) : D → Option (List D)
  | .lst xs => some xs
  | .ref i => match M[i]? with
    | some (.lst xs) => some xs
    | _ => none
  | _ => none
def dcOf (M : Mem) : D → Option (List (Key × D))
  | .dic ks vs => if ks.length = vs.length then some (ks.zip vs) else none
  | .ref i => match M[i]? with
    | some (.dic kvs) => some kvs
    | some (.fdc kvs) => some kvs
    | _ => none
  | _ => none
def truD (M : Mem) : D → Option Bool
  | .non => some false
  | .bl b => some b
  | .int i => some (i != 0)
  | .str x => if x.length ≤ LINE then some ((x.length : Int) != 0) else none
  | .lst xs => some (!xs.isEmpty)
  | .tup xs => some (!xs.isEmpty)
  | .dic ks _ => none
  | .ref i => match M[i]? with
    | some (.lst xs) => some (!xs.isEmpty)
    | some (.dic kvs) => some (!kvs.isEmpty)
    | _ => none
  | _ => none
mutual
def pyD : D → Option PyData
  | .non => some .none
  | .bl b => some (.bool b)
  | .int i => some (.int i)
  | .str x => some (.str x)
  | .lst xs => (pyL xs).map .list
  | .tup xs => (pyL xs).map .tuple
  | _ => none
def pyL : List D → Option (List PyData)
  | [] => some []
  | d :: ds => (pyD d).bind fun p => (pyL ds).map fun ps => p :: ps
end
def pyOf (M : Mem) (d : D) : Option PyData := match d with
  | .ref i => match M[i]? with
    | some (.lst xs) => (pyL xs).map .list
    | _ => none
  | d => pyD d
def isF : D → Bool
  | .non => true | .bl _ => true | .int _ => true | .str _ => true | _ => false
def eqF : D → D → Bool
  | .non, .non => true
  | .bl a, .bl b => a == b
  | .bl a, .int b => (if a then 1 else 0) == b
  | .int a, .bl b => a == (if b then 1 else 0)
  | .int a, .int b => a == b
  | .str a, .str b => a == b
  | _, _ => false
def eqD (M : Mem) (x y : D) : Option Bool :=
  if isF x && isF y then some (eqF x y)
  else (pyOf M x).bind fun p => (pyOf M y).bind fun q => if SeqAt.shaped p && SeqAt.shaped q then some (PyData.eqv p q) else none
def keyOf : D → Option Key
  | .int i => some (.inl i)
  | .str x => some (.inr x)
  | _ => none
def getK {α : Type} (kvs : List (Key × α)) (k : Key) : Option α := (kvs.find? fun kv => decide (kv.1 = k)).map (·.2)
def inD (M : Mem) (x y : D) : Option Bool :=
  match dcOf M y with
  | some kvs => (keyOf x).map fun k => (getK kvs k).isSome
  | none => match y with
    | .str b => match x with
      | .str a => some (!(Builtin.Str.occurrences b a 0 b.length 1).isEmpty)
      | _ => none
    | .tup xs => if isF x && xs.all isF then some (xs.any fun z => eqF z x) else none
    | y => match lsOf M y with
      | some xs => if isF x && xs.all isF then some (xs.any fun z => eqF z x)
        else (pyOf M x).bind fun p => (pyL xs).bind fun ps => if SeqAt.shaped p && SeqAt.shaped (.list ps) then some (ps.any fun z => PyData.eqv z p) else none
      | none => none
/-! ### readings of operators -/
def RO1 (K : KX) (rs : List (Addr × HO)) (g : O1) : V → Hp → VK → Prop := fun v H Q => ∃ ι F M x z M', Rel K ι F rs H M ∧ Rep K ι F x v ∧ g x M = some (z, M') ∧ ∀ ι' F' H' u, Le K ι F ι' F' → Rel K ι' F' rs H' M' → Rep K ι' F' z u → Q u H'
def RO2 (K : KX) (rs : List (Addr × HO)) (g : O2) : R2 := fun v w H Q => ∃ ι F M x y z M', Rel K ι F rs H M ∧ Rep K ι F x v ∧ Rep K ι F y w ∧ g x y M = some (z, M') ∧ ∀ ι' F' H' u, Le K ι F ι' F' → Rel K ι' F' rs H' M' → Rep K ι' F' z u → Q u H'

section
variable {K : KX} {ι ι' : List Addr} {F F' H H' : Hp} {M M' : Mem} {d x y : D} {v w : V} {rs : List (Addr × HO)}
theorem rd_sub (r : Rel K ι F rs H M) {a : Addr} {u : HO} (h : Rd F a u) : Rd H a u := by
  rcases h with h | ⟨o, h⟩
  · exact .inl (r.sub _ _ h)
  · exact .inr ⟨o, r.sub _ _ h⟩
theorem sql_sub (r : Rel K ι F rs H M) {a : Addr} {xs : List V} (h : SqL K.fr F a xs) : SqL K.fr H a xs := by
  rcases h with h | h
  · exact .inl (rd_sub r h)
  · exact .inr h
theorem sqt_sub (r : Rel K ι F rs H M) {a : Addr} {xs : List V} (h : SqT K.fr F a xs) : SqT K.fr H a xs := by
  rcases h with h | h
  · exact .inl (rd_sub r h)
  · exact .inr h
theorem lsOf_at {xs : List D} (r : Rel K ι F rs H M) (e : lsOf M d = some xs) (h : Rep K ι F d v) : ∃ a vs, v = .ref a ∧ SqL K.fr H a vs ∧ RepL K ι F xs vs := by
  cases d with
  | lst ys =>
    have q : ys = xs := Option.some.inj e
    subst q
    obtain ⟨a, vs, e1, h1, h2⟩ := h
    exact ⟨a, vs, e1, sql_sub r h1, h2⟩
  | ref i =>
    obtain ⟨a, e1, h1⟩ := h
    simp only [lsOf] at e
    split at e
    · rename_i ys hM
      cases e
      obtain ⟨_, vs, h2, h3⟩ := r.obj i _ a hM h1 rfl
      exact ⟨a, vs, e1, .inl (.inl h2), h3⟩
    · cases e
  | _ => cases e
theorem dcOf_at {kvs : List (Key × D)} (r : Rel K ι F rs H M) (e : dcOf M d = some kvs) (h : Rep K ι F d v) : ∃ a vs, v = .ref a ∧ Rd H a (.dK vs) ∧ vs.map (·.1) = kvs.map (·.1) ∧ RepL K ι F (kvs.map (·.2)) (vs.map (·.2)) := by
  cases d with
  | dic ks ds =>
    simp only [dcOf] at e
    split at e
    · rename_i hl
      cases e
      obtain ⟨a, vs, e1, h1, h2, h3⟩ := h
      refine ⟨a, vs, e1, rd_sub r h1, ?_, ?_⟩
      · rw [h2, List.map_fst_zip (Nat.le_of_eq hl)]
      · rw [List.map_snd_zip (Nat.le_of_eq hl.symm)]; exact h3
    · cases e
  | ref i =>
    obtain ⟨a, e1, h1⟩ := h
    simp only [dcOf] at e
    split at e
    · rename_i ys hM
      cases e
      obtain ⟨_, vs, h2, h3, h4⟩ := r.obj i _ a hM h1 rfl
      exact ⟨a, vs, e1, .inl h2, h3, h4⟩
    · rename_i ys hM
      cases e
      obtain ⟨_, od, vs, h2, h3, h4⟩ := r.obj i _ a hM h1 rfl
      exact ⟨a, vs, e1, .inr ⟨od, h2⟩, h3, h4⟩
    · cases e
  | _ => cases e
theorem valV_rep {k : Key} : ∀ {kvs : List (Key × D)} {vs : List (Key × V)}, vs.map (·.1) = kvs.map (·.1) → RepL K ι F (kvs.map (·.2)) (vs.map (·.2)) →
    match getK kvs k with
    | some d => ∃ u, valV vs k = some u ∧ Rep K ι F d u
    | none => valV vs k = none
  | [], [], _, _ => rfl
  | [], _ :: _, e, _ => by cases e
  | _ :: _, [], e, _ => by cases e
  | (k1, d1) :: kvs, (k2, v2) :: vs, e, h => by
    obtain ⟨v, r, e1, h1, h2⟩ := h
    have e' : k2 = k1 ∧ vs.map (·.1) = kvs.map (·.1) := List.cons.inj e
    obtain ⟨rfl, e2⟩ := e'
    have e3 : v2 = v ∧ vs.map (·.2) = r := List.cons.inj e1
    obtain ⟨rfl, rfl⟩ := e3
    unfold getK valV
    by_cases hk : k2 = k
    · rw [List.find?_cons_of_pos (by simpa using hk), List.find?_cons_of_pos (by simpa using hk)]
      exact ⟨v2, rfl, h1⟩
    · rw [List.find?_cons_of_neg (by simpa using hk), List.find?_cons_of_neg (by simpa using hk)]
      exact valV_rep e2 h2
theorem rep_flat (hf : isF d = true) (h : Rep K ι F d v) : flatV v = true ∧ ∀ {e : D} {w : V}, isF e = true → Rep K ι F e w → eqV v w = eqF d e := by
  cases d with
  | non =>
    cases h
    refine ⟨rfl, fun {e w} he hw => ?_⟩
    cases e <;> first | (cases hw; rfl) | cases he
  | bl b =>
    cases h
    refine ⟨rfl, fun {e w} he hw => ?_⟩
    cases e <;> first | (cases hw; rfl) | cases he
  | int b =>
    cases h
    refine ⟨rfl, fun {e w} he hw => ?_⟩
    cases e <;> first | (cases hw; rfl) | cases he
  | str b =>
    cases h
    refine ⟨rfl, fun {e w} he hw => ?_⟩
    cases e <;> first | (cases hw; rfl) | cases he
  | _ => cases hf
theorem rep_flats : ∀ {ds : List D} {vs : List V}, ds.all isF = true → RepL K ι F ds vs → vs.all flatV = true ∧ ∀ {e : D} {w : V}, isF e = true → Rep K ι F e w → inV w vs = ds.any fun z => eqF z e
  | [], vs, _, h => by
    have e : vs = [] := h
    rw [e]
    exact ⟨rfl, fun _ _ => rfl⟩
  | d :: ds, vs, hf, h => by
    obtain ⟨v, r, e1, h1, h2⟩ := h
    rw [List.all_cons, Bool.and_eq_true] at hf
    obtain ⟨a1, a2⟩ := rep_flat hf.1 h1
    obtain ⟨b1, b2⟩ := rep_flats hf.2 h2
    subst e1
    refine ⟨by rw [List.all_cons, a1, b1] <;> rfl, fun {e w} he hw => ?_⟩
    unfold inV at b2 ⊢
    rw [List.any_cons, List.any_cons, a2 he hw, b2 he hw]
mutual
theorem pyD_dp (r : Rel K ι F rs H M) : ∀ (d : D) (p : PyData) (v : V), pyD d = some p → Rep K ι F d v → Dp K.fr H v p
  | .non, p, v, e, h => by
    have e' : PyData.none = p := Option.some.inj (by simpa only [pyD] using e)
    cases h; subst e'; exact .non
  | .bl b, p, v, e, h => by
    have e' : PyData.bool b = p := Option.some.inj (by simpa only [pyD] using e)
    cases h; subst e'; exact .bl b
  | .int b, p, v, e, h => by
    have e' : PyData.int b = p := Option.some.inj (by simpa only [pyD] using e)
    cases h; subst e'; exact .int b
  | .str b, p, v, e, h => by
    have e' : PyData.str b = p := Option.some.inj (by simpa only [pyD] using e)
    cases h; subst e'; exact .str b
  | .lst xs, p, v, e, h => by
    rw [pyD] at e
    obtain ⟨ps, h1, rfl⟩ := Option.map_eq_some_iff.mp e
    obtain ⟨a, vs, rfl, h2, h3⟩ := h
    exact .lst (sql_sub r h2) (pyL_dp r xs ps vs h1 h3)
  | .tup xs, p, v, e, h => by
    rw [pyD] at e
    obtain ⟨ps, h1, rfl⟩ := Option.map_eq_some_iff.mp e
    obtain ⟨a, vs, rfl, h2, h3⟩ := h
    exact .tup (sqt_sub r h2) (pyL_dp r xs ps vs h1 h3)
  | .ty _, p, v, e, h => by rw [pyD] at e <;> first | cases e | (intros; intro q; cases q)
  | .dic _ _, p, v, e, h => by rw [pyD] at e <;> first | cases e | (intros; intro q; cases q)
  | .ref _, p, v, e, h => by rw [pyD] at e <;> first | cases e | (intros; intro q; cases q)
  | .glb _, p, v, e, h => by rw [pyD] at e <;> first | cases e | (intros; intro q; cases q)
theorem pyL_dp (r : Rel K ι F rs H M) : ∀ (ds : List D) (ps : List PyData) (vs : List V), pyL ds = some ps → RepL K ι F ds vs → DpAll K.fr H vs ps
  | [], ps, vs, e, h => by
    have e' : [] = ps := Option.some.inj (by simpa only [pyL] using e)
    have e2 : vs = [] := h
    subst e'; subst e2; exact .nil
  | d :: ds, ps, vs, e, h => by
    rw [pyL] at e
    obtain ⟨p, h1, e⟩ := Option.bind_eq_some_iff.mp e
    obtain ⟨qs, h2, rfl⟩ := Option.map_eq_some_iff.mp e
    obtain ⟨v, us, rfl, h3, h4⟩ := h
    exact .cons (pyD_dp r d p v h1 h3) (pyL_dp r ds qs us h2 h4)
end
theorem pyOf_dp {p : PyData} (r : Rel K ι F rs H M) (e : pyOf M d = some p) (h : Rep K ι F d v) : Dp K.fr H v p := by
  unfold pyOf at e
  split at e
  · rename_i i
    obtain ⟨a, rfl, h1⟩ := h
    split at e
    · rename_i xs hM
      obtain ⟨ps, h2, rfl⟩ := Option.map_eq_some_iff.mp e
      obtain ⟨_, vs, h3, h4⟩ := r.obj i _ a hM h1 rfl
      exact .lst (.inl (.inl h3)) (pyL_dp r _ _ _ h2 h4)
    · cases e
  · exact pyD_dp r _ _ _ e h
end
end LD
namespace LD
open PySem PySem.Spec PyProof.Rows L2

def ofO {α : Type} : Option (α × Mem) → R α
  | some (a, M) => .ok a M
  | none => .bad
theorem Post.step {α β γ δ : Type} {K : KX} {rs : List (Addr × HO)} {rep : List Addr → Hp → α → β → Prop} {rep2 : List Addr → Hp → γ → δ → Prop} {ι : List Addr} {F : Hp} {W : Value → Option Addr → Hp → Prop} {Q : δ → Hp → Prop} {Q' : β → Hp → Prop} {r : R α} {f : α → Mem → R γ}
    (h : Post K rs rep2 ι F W Q (r.bind f)) (k : ∀ v H' ι' F' M' a, Le K ι F ι' F' → Rel K ι' F' rs H' M' → rep ι' F' a v → Post K rs rep2 ι' F' W Q (f a M') → Q' v H') : Post K rs rep ι F W Q' r := by
  cases r with
  | ok a M1 => exact fun ι1 F1 H1 v l r1 ra => k v H1 ι1 F1 M1 a l r1 ra (Post.le l h)
  | er x M1 => exact h
  | bad => exact h
theorem Post.stepE {α β γ δ : Type} {K : KX} {rs : List (Addr × HO)} {rep : List Addr → Hp → α → β → Prop} {rep2 : List Addr → Hp → γ → δ → Prop} {ι : List Addr} {F : Hp} {W : Value → Option Addr → Hp → Prop} {Q : δ → Hp → Prop} {Q' : β → Hp → Prop} {r : R α} {f : α → Mem → R γ}
    (h : Post K rs rep2 ι F W Q (r.bind f)) (k : ∀ v H' ι' F' M' a, r = .ok a M' → Le K ι F ι' F' → Rel K ι' F' rs H' M' → rep ι' F' a v → Post K rs rep2 ι' F' W Q (f a M') → Q' v H') : Post K rs rep ι F W Q' r := by
  cases r with
  | ok a M1 => exact fun ι1 F1 H1 v l r1 ra => k v H1 ι1 F1 M1 a rfl l r1 ra (Post.le l h)
  | er x M1 => exact h
  | bad => exact h
theorem Post.fin {α β : Type} {K : KX} {rs : List (Addr × HO)} {rep : List Addr → Hp → α → β → Prop} {ι : List Addr} {F H : Hp} {W : Value → Option Addr → Hp → Prop} {Q : β → Hp → Prop} {a : α} {M : Mem} {v : β} (h : Post K rs rep ι F W Q (.ok a M)) (r : Rel K ι F rs H M) (q : rep ι F a v) : Q v H := h ι F H v Le.refl r q

abbrev kx (X : Cx) (T : Tab) : KX := ⟨X.K, T⟩
def KE (X : Cx) (T : Tab) (W : WX) (e : Expr) (φ : Sem1 D) : Prop := ∀ rs, PE X e (LE (kx X T) rs W φ)
def KT (X : Cx) (T : Tab) (W : WX) (e : Expr) (φ : Sem1 Bool) : Prop := ∀ rs, PT X e (LT (kx X T) rs W φ)
def KWt (X : Cx) (T : Tab) (W : WX) (e : Expr) (φ : Sem1 Bool) : Prop := ∀ rs, PW X e (LT (kx X T) rs W φ)
/-- the lists that it gives have this length -/
def AL (φ : Sem1 (List D)) (n : Nat) : Prop := ∀ s M xs M', φ s M = .ok xs M' → xs.length = n
structure KA (X : Cx) (T : Tab) (W : WX) (es : List Expr) (φ : Sem1 (List D)) : Prop where
  pa : ∀ rs, PA X es (LA (kx X T) rs W φ)
  al : AL φ es.length
theorem PE.imp {X : Cx} {e : Expr} {t t' : TE} (h : PE X e t) (i : ∀ σ H Q, t' σ H Q → t σ H Q) : PE X e t' := ⟨fun pins s σ H Q I q => h.run pins s σ H Q I (i σ H Q q)⟩
theorem PT.imp {X : Cx} {e : Expr} {t t' : TT} (h : PT X e t) (i : ∀ σ H Q, t' σ H Q → t σ H Q) : PT X e t' := ⟨fun pins s σ H Q I q => h.run pins s σ H Q I (i σ H Q q)⟩
theorem PW.imp {X : Cx} {e : Expr} {t t' : TT} (h : PW X e t) (i : ∀ σ H Q, t' σ H Q → t σ H Q) : PW X e t' := ⟨fun w pins s σ H Q I q => h.run w pins s σ H Q I (i σ H Q q)⟩
theorem PA.imp {X : Cx} {e : List Expr} {t t' : TA} (h : PA X e t) (i : ∀ σ H Q, t' σ H Q → t σ H Q) : PA X e t' := ⟨fun p pins s σ H Q I q => h.run p pins s σ H Q I (i σ H Q q)⟩
theorem PS.imp {X : Cx} {e : Stmt} {t t' : TS} (h : PS X e t) (i : ∀ D σ H, t' D σ H → t D σ H) : PS X e t' := ⟨fun pins s σ H Q I q => h.run pins s σ H Q I (i Q σ H q)⟩
theorem PSs.imp {X : Cx} {e : List Stmt} {t t' : TS} (h : PSs X e t) (i : ∀ D σ H, t' D σ H → t D σ H) : PSs X e t' := ⟨fun pins s σ H Q I q => h.run pins s σ H Q I (i Q σ H q)⟩

/-! ### the semantics of expressions -/
def eC (d : D) : Sem1 D := fun _ M => .ok d M
def eVar (i : Nat) : Sem1 D := fun s M => match s[i]? with
  | some (some d) => .ok d M
  | _ => .bad
def eBin (g : O2) (a b : Sem1 D) : Sem1 D := fun s M => (a s M).bind fun x M1 => (b s M1).bind fun y M2 => ofO (g x y M2)
def eUn (g : O1) (a : Sem1 D) : Sem1 D := fun s M => (a s M).bind fun x M1 => ofO (g x M1)
def eOf (t : Sem1 Bool) : Sem1 D := fun s M => (t s M).bind fun b M1 => .ok (.bl b) M1
def tOf (a : Sem1 D) : Sem1 Bool := fun s M => (a s M).bind fun x M1 => match truD M1 x with
  | some b => .ok b M1
  | none => .bad
def tCmp (g : O2) (a b : Sem1 D) : Sem1 Bool := fun s M => (eBin g a b s M).bind fun z M1 => match z with
  | .bl k => .ok k M1
  | _ => .bad
def tAnd (a b : Sem1 Bool) : Sem1 Bool := fun s M => (a s M).bind fun k M1 => if k then b s M1 else .ok false M1
def tOr (a b : Sem1 Bool) : Sem1 Bool := fun s M => (a s M).bind fun k M1 => if k then .ok true M1 else b s M1
def tNot (a : Sem1 Bool) : Sem1 Bool := fun s M => (a s M).bind fun k M1 => .ok (!k) M1
def eAnd (a b : Sem1 D) : Sem1 D := fun s M => (a s M).bind fun x M1 => match truD M1 x with
  | some k => if k then b s M1 else .ok x M1
  | none => .bad
def eOr (a b : Sem1 D) : Sem1 D := fun s M => (a s M).bind fun x M1 => match truD M1 x with
  | some k => if k then .ok x M1 else b s M1
  | none => .bad
def eNot (a : Sem1 D) : Sem1 D := fun s M => (a s M).bind fun x M1 => match truD M1 x with
  | some k => .ok (.bl (!k)) M1
  | none => .bad
def eIf (t : Sem1 Bool) (a b : Sem1 D) : Sem1 D := fun s M => (t s M).bind fun k M1 => if k then a s M1 else b s M1
def aNil : Sem1 (List D) := fun _ M => .ok [] M
def aCons (a : Sem1 D) (r : Sem1 (List D)) : Sem1 (List D) := fun s M => (a s M).bind fun x M1 => (r s M1).bind fun xs M2 => .ok (x :: xs) M2
def eTup (a : Sem1 (List D)) : Sem1 D := fun s M => (a s M).bind fun xs M1 => if xs.length ≤ LINE then .ok (.tup xs) M1 else .bad
/-- a new list: one that will not change, or one that may -/
def eLst (mu : Bool) (a : Sem1 (List D)) : Sem1 D := fun s M => (a s M).bind fun xs M1 => if xs.length ≤ LINE then (if mu then .ok (.ref M1.length) (M1 ++ [.lst xs]) else .ok (.lst xs) M1) else .bad
def eChain (g g' : O2) (a b c : Sem1 D) : Sem1 D := fun s M => (a s M).bind fun x M1 => (b s M1).bind fun y M2 => (ofO (g x y M2)).bind fun z M3 => match z with
  | .bl true => (c s M3).bind fun w M4 => ofO (g' y w M4)
  | .bl false => .ok (.bl false) M3
  | _ => .bad

section
variable {X : Cx} {T : Tab} {W : WX} {a b c : Expr} {rest : List Expr} {pos : Pos} {φ ψ χ : Sem1 D} {τ υ : Sem1 Bool}
theorem line_eq : LINE = sizeLine := by rw [sizeLine_eq] <;> rfl
theorem d_c_int {i : Int} {j : Nat} : KE X T W (.Constant (.int i) j pos) (eC (.int i)) := fun rs => PE.imp pe_int fun σ H Q h => by
  obtain ⟨ι, F, s, M, r, rS, p⟩ := h
  exact p.fin r rfl
theorem d_c_str {i : Str} {j : Nat} : KE X T W (.Constant (.str i) j pos) (eC (.str i)) := fun rs => PE.imp pe_str fun σ H Q h => by
  obtain ⟨ι, F, s, M, r, rS, p⟩ := h
  exact p.fin r rfl
theorem d_c_bl {i : Bool} {j : Nat} : KE X T W (.Constant (.bool i) j pos) (eC (.bl i)) := fun rs => PE.imp pe_bl fun σ H Q h => by
  obtain ⟨ι, F, s, M, r, rS, p⟩ := h
  exact p.fin r rfl
theorem d_c_non {j : Nat} : KE X T W (.Constant .none j pos) (eC .non) := fun rs => PE.imp pe_non fun σ H Q h => by
  obtain ⟨ι, F, s, M, r, rS, p⟩ := h
  exact p.fin r rfl
theorem d_var {i : Nat} {x : Str} (hN : X.N[i]? = some x) (hv : Vis X.env.scope x) (hd : (x == ("__debug__" : Str)) = false) (hcd : (x == ("__classdict__" : Str)) = false) : KE X T W (.Name x pos) (eVar i) := fun rs => PE.imp (pe_var hN hv hd hcd) fun σ H Q h => by
  obtain ⟨ι, F, s, M, r, rS, p⟩ := h
  unfold eVar at p
  split at p
  · rename_i d e
    obtain ⟨v, h1, h2⟩ := rS.2 i d e
    exact ⟨v, h1, p.fin r h2⟩
  · exact p.elim
/-- a name of the module whose value is known -/
theorem d_glob {x : Str} {v : V} {u : Value} {d : D} (hg : Gl X x) (hm : X.mg x = some u) (rv : RelV v u) (hd : (x == ("__debug__" : Str)) = false) (hr : ∀ ι F, Rep (kx X T) ι F d v) : KE X T W (.Name x pos) (eC d) := fun rs => PE.imp (pe_glob hg hm rv hd) fun σ H Q h => by
  obtain ⟨ι, F, s, M, r, rS, p⟩ := h
  exact p.fin r (hr ι F)
theorem ro2 {σ : L2.St} {H : Hp} {Q : VK} {g : O2} {x y : D} {v w : V} {ι : List Addr} {F : Hp} {M : Mem} {K : KX} {rs : List (Addr × HO)} {W' : Value → Option Addr → Hp → Prop} (r : Rel K ι F rs H M) (h1 : Rep K ι F x v) (h2 : Rep K ι F y w) (p : Post K rs (repD K) ι F W' Q (ofO (g x y M))) : RO2 K rs g v w H Q := by
  cases e : g x y M with
  | none => rw [e] at p; exact p.elim
  | some z =>
    obtain ⟨z, M'⟩ := z
    rw [e] at p
    exact ⟨ι, F, M, x, y, z, M', r, h1, h2, e, p⟩
theorem ro1 {σ : L2.St} {H : Hp} {Q : VK} {g : O1} {x : D} {v : V} {ι : List Addr} {F : Hp} {M : Mem} {K : KX} {rs : List (Addr × HO)} {W' : Value → Option Addr → Hp → Prop} (r : Rel K ι F rs H M) (h1 : Rep K ι F x v) (p : Post K rs (repD K) ι F W' Q (ofO (g x M))) : RO1 K rs g v H Q := by
  cases e : g x M with
  | none => rw [e] at p; exact p.elim
  | some z =>
    obtain ⟨z, M'⟩ := z
    rw [e] at p
    exact ⟨ι, F, M, x, z, M', r, h1, e, p⟩
theorem lg_op {rs : List (Addr × HO)} {g : O2} {σ : L2.St} {H : Hp} {Q : VK} (h : LE (kx X T) rs W (eBin g φ ψ) σ H Q) : tOp (RO2 (kx X T) rs g) (LE (kx X T) rs W φ) (LE (kx X T) rs W ψ) σ H Q := by
  obtain ⟨ι, F, s, M, r, rS, p⟩ := h
  refine ⟨ι, F, s, M, r, rS, p.step fun v H1 ι1 F1 M1 x l1 r1 rv p1 => ?_⟩
  refine ⟨ι1, F1, s, M1, r1, rS.le l1, p1.step fun w H2 ι2 F2 M2 y l2 r2 rw2 p2 => ?_⟩
  exact ro2 (σ := σ) r2 (l2 _ _ rv) rw2 p2
theorem d_bin {op : Operator} {g : O2} (ho : ∀ rs, OpR X (binaryOp op) (RO2 (kx X T) rs g)) (ha : KE X T W a φ) (hb : KE X T W b ψ) : KE X T W (.BinOp a op b pos) (eBin g φ ψ) := fun rs => PE.imp (pe_op (ho rs) (ha rs) (hb rs)) fun _ _ _ h => lg_op h
theorem d_un {op : UnaryOp} {g : O1} (ho : ∀ rs, UnR X (unaryOp op) (RO1 (kx X T) rs g)) (ha : KE X T W a φ) : KE X T W (.UnaryOp op a pos) (eUn g φ) := fun rs => PE.imp (pe_un (ho rs) (ha rs)) fun σ H Q h => by
  obtain ⟨ι, F, s, M, r, rS, p⟩ := h
  exact ⟨ι, F, s, M, r, rS, p.step fun v H1 ι1 F1 M1 x l1 r1 rv p1 => ro1 (σ := σ) r1 rv p1⟩
theorem d_cmp {op : CmpOp} {g : O2} (ho : ∀ rs, OpR X (compareOp op) (RO2 (kx X T) rs g)) (ha : KE X T W a φ) (hb : KE X T W b ψ) (hm : behindInMarks op b = false) : KE X T W (.Compare a [op] [b] pos) (eBin g φ ψ) := fun rs => PE.imp (pe_cmpR (ho rs) (ha rs) (hb rs) hm) fun _ _ _ h => lg_op h
theorem t_cmp {op : CmpOp} {g : O2} (ho : ∀ rs, OpR X (compareOp op) (RO2 (kx X T) rs g)) (ha : KE X T W a φ) (hb : KE X T W b ψ) (hm : behindInMarks op b = false) : KT X T W (.Compare a [op] [b] pos) (tCmp g φ ψ) := fun rs => PT.imp (pt_cmpR (ho rs) (ha rs) (hb rs) hm) fun σ H Q h => by
  refine lg_op (rs := rs) (W := W) (φ := φ) (ψ := ψ) (g := g) ?_
  obtain ⟨ι, F, s, M, r, rS, p⟩ := h
  refine ⟨ι, F, s, M, r, rS, p.step fun v H1 ι1 F1 M1 z l1 r1 rv p1 => ?_⟩
  cases z with
  | bl k => exact ⟨k, rv, p1.fin r1 rfl⟩
  | _ => exact p1.elim
theorem d_chain {op op' : CmpOp} {g g' : O2} (ho : ∀ rs, OpR X (compareOp op) (RO2 (kx X T) rs g)) (ho' : ∀ rs, OpR X (compareOp op') (RO2 (kx X T) rs g')) (ha : KE X T W a φ) (hb : KE X T W b ψ) (hc : KE X T W c χ) (hm : lastMarks [op, op'] [b, c] = false) :
    KE X T W (.Compare a [op, op'] [b, c] pos) (eChain g g' φ ψ χ) := fun rs => PE.imp (pe_chain (ho rs) (ho' rs) (ha rs) (hb rs) (hc rs) hm) fun σ H Q h => by
  obtain ⟨ι, F, s, M, r, rS, p⟩ := h
  refine ⟨ι, F, s, M, r, rS, p.step fun v H1 ι1 F1 M1 x l1 r1 rv p1 => ?_⟩
  refine ⟨ι1, F1, s, M1, r1, rS.le l1, p1.step fun w H2 ι2 F2 M2 y l2 r2 rw2 p2 => ?_⟩
  refine ro2 (σ := σ) (W' := fun c d => W c d σ) (g := g) (M := M2) r2 (l2 _ _ rv) rw2 (p2.step fun u H3 ι3 F3 M3 z l3 r3 ru p3 => ?_)
  cases z with
  | bl k =>
    refine ⟨k, ru, ?_⟩
    cases k with
    | true => exact iteT ⟨ι3, F3, s, M3, r3, ((rS.le l1).le l2).le l3, p3.step fun u2 H4 ι4 F4 M4 z2 l4 r4 ru2 p4 => ro2 (σ := σ) r4 (l4 _ _ (l3 _ _ rw2)) ru2 p4⟩
    | false => exact iteF (p3.fin r3 rfl)
  | _ => exact p3.elim
theorem truD_at {M : Mem} {x : D} {v : V} {k : Bool} {ι : List Addr} {F H : Hp} {K : KX} {rs : List (Addr × HO)} (r : Rel K ι F rs H M) (h : Rep K ι F x v) (e : truD M x = some k) : TruV K.fr v H k := by
  have emp : ∀ {ds : List D} {vs : List V}, RepL K ι F ds vs → (!ds.isEmpty) = !vs.isEmpty := fun {ds vs} q => by
    cases ds with
    | nil => have e : vs = [] := q; rw [e] <;> rfl
    | cons d ds => obtain ⟨v, u, e, _⟩ := q; rw [e] <;> rfl
  cases x with
  | non => cases h; exact (Option.some.inj e).symm
  | bl b => cases h; exact (Option.some.inj e).symm
  | int i => cases h; exact (Option.some.inj e).symm
  | str x =>
    cases h
    simp only [truD] at e
    split at e
    · rename_i hl
      exact ⟨by rw [← line_eq]; exact hl, (Option.some.inj e).symm⟩
    · cases e
  | lst xs =>
    obtain ⟨a, vs, rfl, h1, h2⟩ := h
    exact .inl ⟨vs, sql_sub r h1, by rw [← emp h2]; exact (Option.some.inj e).symm⟩
  | tup xs =>
    obtain ⟨a, vs, rfl, h1, h2⟩ := h
    exact .inr (.inl ⟨vs, sqt_sub r h1, by rw [← emp h2]; exact (Option.some.inj e).symm⟩)
  | ref i =>
    obtain ⟨a, rfl, h1⟩ := h
    simp only [truD] at e
    split at e
    · rename_i xs hM
      obtain ⟨_, vs, h2, h3⟩ := r.obj i _ a hM h1 rfl
      exact .inl ⟨vs, .inl (.inl h2), by rw [← emp h3]; exact (Option.some.inj e).symm⟩
    · rename_i kvs hM
      obtain ⟨_, vs, h2, h3, h4⟩ := r.obj i _ a hM h1 rfl
      refine .inr (.inr ⟨vs, h2, ?_⟩)
      have q := congrArg List.isEmpty h3
      cases vs <;> cases kvs <;> first | exact (Option.some.inj e).symm | cases q
    · cases e
  | _ => cases e
theorem t_val (ha : KE X T W a φ) (he : ∀ whole, isTrue a X.env whole = (do let v ← whole; standAt a.pos; holding [v] (truthy v))) : KT X T W a (tOf φ) := fun rs => PT.imp (pt_truth (ha rs) he) fun σ H Q h => by
  obtain ⟨ι, F, s, M, r, rS, p⟩ := h
  refine ⟨ι, F, s, M, r, rS, p.step fun v H1 ι1 F1 M1 x l1 r1 rv p1 => ?_⟩
  cases e : truD M1 x with
  | none => rw [e] at p1; exact p1.elim
  | some k => rw [e] at p1; exact ⟨k, truD_at r1 rv e, p1.fin r1 rfl⟩
theorem t_and1 (ha : KT X T W a τ) : KWt X T W (.BoolOp .And [a] pos) τ := fun rs => pw_and1 (ha rs)
theorem t_or1 (ha : KT X T W a τ) : KWt X T W (.BoolOp .Or [a] pos) τ := fun rs => pw_or1 (ha rs)
theorem t_and (ha : KT X T W a τ) (hb : KWt X T W (.BoolOp .And (b :: rest) pos) υ) : KWt X T W (.BoolOp .And (a :: b :: rest) pos) (tAnd τ υ) := fun rs => PW.imp (pw_and (ha rs) (hb rs)) fun σ H Q h => by
  obtain ⟨ι, F, s, M, r, rS, p⟩ := h
  refine ⟨ι, F, s, M, r, rS, p.step fun v H1 ι1 F1 M1 k l1 r1 rv p1 => ?_⟩
  have rv' : v = k := rv
  subst rv'
  cases v with
  | true => exact iteT ⟨ι1, F1, s, M1, r1, rS.le l1, p1⟩
  | false => exact iteF (p1.fin r1 rfl)
theorem t_or (ha : KT X T W a τ) (hb : KWt X T W (.BoolOp .Or (b :: rest) pos) υ) : KWt X T W (.BoolOp .Or (a :: b :: rest) pos) (tOr τ υ) := fun rs => PW.imp (pw_or (ha rs) (hb rs)) fun σ H Q h => by
  obtain ⟨ι, F, s, M, r, rS, p⟩ := h
  refine ⟨ι, F, s, M, r, rS, p.step fun v H1 ι1 F1 M1 k l1 r1 rv p1 => ?_⟩
  have rv' : v = k := rv
  subst rv'
  cases v with
  | false => exact iteF ⟨ι1, F1, s, M1, r1, rS.le l1, p1⟩
  | true => exact iteT (p1.fin r1 rfl)
theorem t_not (ha : KT X T W a τ) : KT X T W (.UnaryOp .Not a pos) (tNot τ) := fun rs => PT.imp (pt_not (ha rs)) fun σ H Q h => by
  obtain ⟨ι, F, s, M, r, rS, p⟩ := h
  refine ⟨ι, F, s, M, r, rS, p.step fun v H1 ι1 F1 M1 k l1 r1 rv p1 => ?_⟩
  have rv' : v = k := rv
  subst rv'
  exact p1.fin r1 rfl
theorem d_one {op : BoolOp} (h : KE X T W a φ) : KE X T W (.BoolOp op [a] pos) φ := fun rs => pe_one (h rs)
theorem d_and (ha : KE X T W a φ) (hb : KE X T W (.BoolOp .And (b :: rest) pos) ψ) : KE X T W (.BoolOp .And (a :: b :: rest) pos) (eAnd φ ψ) := fun rs => PE.imp (pe_andT (ha rs) (hb rs)) fun σ H Q h => by
  obtain ⟨ι, F, s, M, r, rS, p⟩ := h
  refine ⟨ι, F, s, M, r, rS, p.step fun v H1 ι1 F1 M1 x l1 r1 rv p1 => ?_⟩
  cases e : truD M1 x with
  | none => rw [e] at p1; exact p1.elim
  | some k =>
    rw [e] at p1
    refine ⟨k, truD_at r1 rv e, ?_⟩
    cases k with
    | true => exact iteT ⟨ι1, F1, s, M1, r1, rS.le l1, p1⟩
    | false => exact iteF (p1.fin r1 rv)
theorem d_or (ha : KE X T W a φ) (hb : KE X T W (.BoolOp .Or (b :: rest) pos) ψ) : KE X T W (.BoolOp .Or (a :: b :: rest) pos) (eOr φ ψ) := fun rs => PE.imp (pe_orT (ha rs) (hb rs)) fun σ H Q h => by
  obtain ⟨ι, F, s, M, r, rS, p⟩ := h
  refine ⟨ι, F, s, M, r, rS, p.step fun v H1 ι1 F1 M1 x l1 r1 rv p1 => ?_⟩
  cases e : truD M1 x with
  | none => rw [e] at p1; exact p1.elim
  | some k =>
    rw [e] at p1
    refine ⟨k, truD_at r1 rv e, ?_⟩
    cases k with
    | false => exact iteF ⟨ι1, F1, s, M1, r1, rS.le l1, p1⟩
    | true => exact iteT (p1.fin r1 rv)
theorem d_not (ha : KE X T W a φ) : KE X T W (.UnaryOp .Not a pos) (eNot φ) := fun rs => PE.imp (pe_notT (ha rs)) fun σ H Q h => by
  obtain ⟨ι, F, s, M, r, rS, p⟩ := h
  refine ⟨ι, F, s, M, r, rS, p.step fun v H1 ι1 F1 M1 x l1 r1 rv p1 => ?_⟩
  cases e : truD M1 x with
  | none => rw [e] at p1; exact p1.elim
  | some k =>
    rw [e] at p1
    exact ⟨k, truD_at r1 rv e, p1.fin r1 rfl⟩
theorem d_if (hc : KT X T W c τ) (ha : KE X T W a φ) (hb : KE X T W b ψ) : KE X T W (.IfExp c a b pos) (eIf τ φ ψ) := fun rs => PE.imp (pe_ifExp (hc rs) (ha rs) (hb rs)) fun σ H Q h => by
  obtain ⟨ι, F, s, M, r, rS, p⟩ := h
  refine ⟨ι, F, s, M, r, rS, p.step fun v H1 ι1 F1 M1 k l1 r1 rv p1 => ?_⟩
  have rv' : v = k := rv
  subst rv'
  cases v with
  | true => exact iteT ⟨ι1, F1, s, M1, r1, rS.le l1, p1⟩
  | false => exact iteF ⟨ι1, F1, s, M1, r1, rS.le l1, p1⟩
theorem R.bind_eq_ok {α β : Type} {r : R α} {f : α → Mem → R β} {b : β} {M : Mem} (h : r.bind f = .ok b M) : ∃ a M1, r = .ok a M1 ∧ f a M1 = .ok b M := by
  cases r with
  | ok a M1 => exact ⟨a, M1, rfl, h⟩
  | er x M1 => cases h
  | bad => cases h
theorem al_nil : AL aNil 0 := fun s M xs M' h => by
  cases h; rfl
theorem al_cons {φ : Sem1 D} {α : Sem1 (List D)} {n : Nat} (h : AL α n) : AL (aCons φ α) (n + 1) := fun s M xs M' e => by
  obtain ⟨x, M1, e1, e⟩ := R.bind_eq_ok e
  obtain ⟨ys, M2, e2, e⟩ := R.bind_eq_ok e
  cases e
  rw [List.length_cons, h _ _ _ _ e2]
theorem a_nil : KA X T W [] aNil := ⟨fun rs => PA.imp pa_nil fun σ H Q h => by
  obtain ⟨ι, F, s, M, r, rS, p⟩ := h
  exact p.fin r rfl, al_nil⟩
theorem a_cons {α : Sem1 (List D)} (ha : KE X T W a φ) (hr : KA X T W rest α) (hs : starEach (a :: rest) X.env = (false, eval a X.env) :: starEach rest X.env) : KA X T W (a :: rest) (aCons φ α) := ⟨fun rs => PA.imp (pa_cons (ha rs) (hr.pa rs) hs) fun σ H Q h => by
  obtain ⟨ι, F, s, M, r, rS, p⟩ := h
  refine ⟨ι, F, s, M, r, rS, p.step fun v H1 ι1 F1 M1 x l1 r1 rv p1 => ?_⟩
  refine ⟨ι1, F1, s, M1, r1, rS.le l1, p1.step fun ws H2 ι2 F2 M2 xs l2 r2 rw2 p2 => ?_⟩
  exact p2.fin r2 ⟨v, ws, rfl, l2 _ _ rv, rw2⟩, al_cons hr.al⟩
theorem d_tup {k : Nat} {α : Sem1 (List D)} (h : KA X T W rest α) : KE X T W (.Tuple rest k pos) (eTup α) := fun rs => PE.imp (pe_tup (h.pa rs)) fun σ H Q h => by
  obtain ⟨ι, F, s, M, r, rS, p⟩ := h
  refine ⟨ι, F, s, M, r, rS, p.step fun vs H1 ι1 F1 M1 xs l1 r1 rv p1 => ?_⟩
  have hl : vs.length = xs.length := RepL.length rv
  by_cases hz : xs.length ≤ LINE
  · rw [if_pos hz] at p1
    refine ⟨by rw [hl, ← line_eq]; exact hz, fun q hq => ?_⟩
    exact p1 ι1 (upd F1 q (.tup vs)) _ _ (Le.new (r1.free hq)) (r1.frozen hq) ⟨q, vs, rfl, .inl (.inl upd_same), RepL.le (Le.new (r1.free hq)) rv⟩
  · rw [if_neg hz] at p1; exact p1.elim
theorem newList {mu : Bool} {xs : List D} {vs : List V} {ι : List Addr} {F H : Hp} {M : Mem} {K : KX} {rs : List (Addr × HO)} {Q : VK} {W' : Value → Option Addr → Hp → Prop} (r : Rel K ι F rs H M) (rv : RepL K ι F xs vs)
    (p : Post K rs (repD K) ι F W' Q (if mu then .ok (.ref M.length) (M ++ [.lst xs]) else .ok (.lst xs) M)) : ∀ q, H q = none → Q (.ref q) (upd H q (.lst vs)) := fun q hq => by
  cases mu with
  | true =>
    exact p (ι ++ [q]) F _ _ Le.push (r.fresh hq rfl ⟨vs, upd_same, RepL.le Le.push rv⟩) ⟨q, rfl, by rw [← r.len]; simp⟩
  | false =>
    exact p ι (upd F q (.lst vs)) _ _ (Le.new (r.free hq)) (r.frozen hq) ⟨q, vs, rfl, .inl (.inl upd_same), RepL.le (Le.new (r.free hq)) rv⟩
theorem d_lst {mu : Bool} {α : Sem1 (List D)} (h : KA X T W rest α) : KE X T W (.List rest pos) (eLst mu α) := fun rs => PE.imp (pe_lst (h.pa rs)) fun σ H Q h => by
  obtain ⟨ι, F, s, M, r, rS, p⟩ := h
  refine ⟨ι, F, s, M, r, rS, p.step fun vs H1 ι1 F1 M1 xs l1 r1 rv p1 => ?_⟩
  have hl : vs.length = xs.length := RepL.length rv
  by_cases hz : xs.length ≤ LINE
  · rw [if_pos hz] at p1
    exact ⟨by rw [hl, ← line_eq]; exact hz, newList r1 rv p1⟩
  · rw [if_neg hz] at p1; exact p1.elim
end
end LD
namespace LD
open PySem PySem.Spec PyProof.Rows L2

/-! ### the operators on values -/
def addD : O2 := fun x y M => match x, y with
  | .int i, .int j => some (.int (i + j), M)
  | .str a, .str b => if a.length + b.length ≤ LINE then some (.str (a ++ b), M) else none
  | .tup a, .tup b => if a.length + b.length ≤ LINE then some (.tup (a ++ b), M) else none
  | x, y => match lsOf M x, lsOf M y with
    | some a, some b => if a.length + b.length ≤ LINE then some (.lst (a ++ b), M) else none
    | _, _ => none
def intD (c : Int → Int → Bool) (f : Int → Int → Int) : O2 := fun x y M => match x, y with
  | .int i, .int j => if c i j then some (.int (f i j), M) else none
  | _, _ => none
/-- written so that the kernel stops at a variable -/
def small (i : Int) : Bool := Nat.ble (i.natAbs + 1) 18446744073709551616
theorem small_iff {i : Int} : small i = true ↔ -(2 ^ 64) < i ∧ i < 2 ^ 64 := by
  unfold small
  rw [Nat.ble_eq]
  omega
def subD : O2 := intD (fun _ _ => true) (· - ·)
def mulD : O2 := intD (fun i j => small i || small j) (· * ·)
def fdok (j : Int) : Bool := match j with
  | .ofNat n => Nat.ble 1 n && Nat.ble (n + 1) 1073741824
  | .negSucc _ => false
theorem fdok_iff {j : Int} : fdok j = true ↔ 0 < j ∧ j < 1073741824 := by
  unfold fdok
  cases j with
  | ofNat n =>
    simp only [Bool.and_eq_true, Nat.ble_eq, Int.ofNat_eq_natCast]
    omega
  | negSucc n =>
    simp only [Int.negSucc_eq]
    constructor
    · intro h; cases h
    · intro h; omega
def fdivD : O2 := intD (fun _ j => fdok j) (· / ·)
def modD : O2 := intD (fun _ j => decide (0 < j)) (· % ·)
def powD : O2 := intD (fun i j => decide (0 ≤ j) && decide (j ≤ 1000000) && decide (i.natAbs < 2 ^ 64)) fun i j => i ^ j.toNat
def negD : O1 := fun x M => match x with
  | .int i => some (.int (-i), M)
  | _ => none
def boD (f : Mem → D → D → Option Bool) : O2 := fun x y M => (f M x y).map fun k => (.bl k, M)
def intsOf : List D → Option (List Int)
  | [] => some []
  | .int i :: r => (intsOf r).map fun is => i :: is
  | _ => none
def ltB : Mem → D → D → Option Bool := fun _ x y => match x, y with
  | .int i, .int j => some (decide (i < j))
  | .str a, .str b => some (decide (a.cps.toList < b.cps.toList))
  | .tup xs, .tup ys => (intsOf xs).bind fun ns => (intsOf ys).map fun ms => HT.lexLt ns ms
  | _, _ => none
def leB : Mem → D → D → Option Bool := fun _ x y => match x, y with
  | .int i, .int j => some (decide (i ≤ j))
  | .str a, .str b => some (!decide (b.cps.toList < a.cps.toList))
  | _, _ => none
def gtB : Mem → D → D → Option Bool := fun _ x y => match x, y with
  | .int i, .int j => some (decide (j < i))
  | .str a, .str b => some (decide (b.cps.toList < a.cps.toList))
  | _, _ => none
def geB : Mem → D → D → Option Bool := fun _ x y => match x, y with
  | .int i, .int j => some (decide (j ≤ i))
  | .str a, .str b => some (!decide (a.cps.toList < b.cps.toList))
  | _, _ => none
def isNon : D → Bool
  | .non => true
  | _ => false
def isB : Mem → D → D → Option Bool := fun _ x y => match y with
  | .non => some (isNon x)
  | .bl b => match x with
    | .bl a => some (a == b)
    | _ => none
  | _ => none
def notB (f : Mem → D → D → Option Bool) : Mem → D → D → Option Bool := fun M x y => (f M x y).map fun k => !k
/-- an item -/
def ixD : O2 := fun x y M => match x with
  | .str z => match y with
    | .int i => if z.length ≤ LINE then (atI z.cps.toList i).map fun c => (.str ⟨#[c]⟩, M) else none
    | _ => none
  | .tup xs => match y with
    | .int i => (atI xs i).map fun d => (d, M)
    | _ => none
  | x => match dcOf M x with
    | some kvs => (keyOf y).bind fun k => (getK kvs k).map fun d => (d, M)
    | none => match lsOf M x with
      | some xs => match y with
        | .int i => (atI xs i).map fun d => (d, M)
        | _ => none
      | none => none

section
variable {X : Cx} {T : Tab} {rs : List (Addr × HO)}
theorem OpR.imp {f : Value → Value → Sem Value} {r r' : R2} (h : OpR X f r) (i : ∀ x y H Q, r' x y H Q → r x y H Q) : OpR X f r' :=
  fun pins s σ H x y v u Q I rx ry q => h pins s σ H x y v u Q I rx ry (i _ _ _ _ q)
theorem IxR.imp {r r' : R2} (h : IxR X r) (i : ∀ x y H Q, r' x y H Q → r x y H Q) : IxR X r' :=
  fun va sl pins s σ H x y v u Q I rx ry q hs => h va sl pins s σ H x y v u Q I rx ry (i _ _ _ _ q) hs
theorem RO2.int {K : KX} {c : Int → Int → Bool} {f : Int → Int → Int} {x y : V} {H : Hp} {Q : VK} (h : RO2 K rs (intD c f) x y H Q) : ∃ i j, x = .int i ∧ y = .int j ∧ c i j = true ∧ Q (.int (f i j)) H := by
  obtain ⟨ι, F, M, d, e, z, M', r, h1, h2, g, q⟩ := h
  unfold intD at g
  split at g
  · rename_i i j
    split at g
    · rename_i hc
      cases g
      exact ⟨i, j, h1, h2, hc, q ι F H _ Le.refl r rfl⟩
    · cases g
  · cases g
theorem o_sub : OpR X (binaryOp .Sub) (RO2 (kx X T) rs subD) := OpR.imp op_sub fun x y H Q h => by
  obtain ⟨i, j, e1, e2, _, q⟩ := h.int
  exact ⟨i, j, e1, e2, q⟩
theorem o_mul : OpR X (binaryOp .Mult) (RO2 (kx X T) rs mulD) := OpR.imp op_mul fun x y H Q h => by
  obtain ⟨i, j, e1, e2, hc, q⟩ := h.int
  refine ⟨i, j, e1, e2, ?_, q⟩
  simp only [small_iff, Bool.or_eq_true] at hc
  exact hc
theorem o_fdiv : OpR X (binaryOp .FloorDiv) (RO2 (kx X T) rs fdivD) := OpR.imp op_fdiv fun x y H Q h => by
  obtain ⟨i, j, e1, e2, hc, q⟩ := h.int
  refine ⟨i, j, e1, e2, ?_, q⟩
  rw [fdok_iff] at hc
  exact hc
theorem o_mod : OpR X (binaryOp .Mod) (RO2 (kx X T) rs modD) := OpR.imp op_mod fun x y H Q h => by
  obtain ⟨i, j, e1, e2, hc, q⟩ := h.int
  exact ⟨i, j, e1, e2, of_decide_eq_true hc, q⟩
theorem o_pow : OpR X (binaryOp .Pow) (RO2 (kx X T) rs powD) := OpR.imp op_pow fun x y H Q h => by
  obtain ⟨i, j, e1, e2, hc, q⟩ := h.int
  refine ⟨i, j, e1, e2, ?_, q⟩
  simp only [Bool.and_eq_true, decide_eq_true_eq] at hc
  exact ⟨hc.1.1, hc.1.2, hc.2⟩
theorem o_neg : UnR X (unaryOp .USub) (RO1 (kx X T) rs negD) := fun pins s σ H x v Q I rx h => un_neg pins s σ H x v Q I rx (by
  obtain ⟨ι, F, M, d, z, M', r, h1, g, q⟩ := h
  unfold negD at g
  split at g
  · cases g
    exact ⟨_, h1, q ι F H _ Le.refl r rfl⟩
  · cases g)
/-- list + list, whatever is known of them -/
theorem op_catS : OpR X (binaryOp .Add) (fun x y H Q => ∃ a b xs ys, x = .ref a ∧ y = .ref b ∧ SqL X.K H a xs ∧ SqL X.K H b ys ∧ xs.length + ys.length ≤ sizeLine ∧ ∀ p, H p = none → Q (.ref p) (upd H p (.lst (xs ++ ys)))) := by
  intro pins s σ H x y v u Q I rx ry h
  obtain ⟨l, b, xs, ys, rfl, rfl, hx, hy, hz, q⟩ := h
  cases rx
  cases ry
  obtain ⟨vs, r1, p1, _⟩ := I.list hx
  obtain ⟨ws, r2, p2, _⟩ := I.list hy
  have l1 := r1.length
  have l2 := r2.length
  obtain ⟨⟨cls, dd, data, sl⟩, ho, hc, n, hd⟩ := p1.isList
  obtain ⟨⟨cls2, dd2, data2, sl2⟩, ho2, hc2, n2, hd2⟩ := p2.isList
  simp only at hc hd hc2 hd2
  subst hc hd hc2 hd2
  have e : vs.toArray ++ ws.toArray = (vs ++ ws).toArray := by simp
  refine concat_meets ⟨_, ho, rfl⟩ ⟨_, ho2, rfl⟩ noFill_list_add seq_list_add PySem.F.slot_list_add PySem.F.entry_list_add (PySem.F.args_list_add_2 _ _) (list_addW l b vs.toArray ws.toArray n n2 dd dd2 sl sl2 (by simp; omega)) ⟨ho, ho2, ?_⟩
  rw [e]
  refine ⟨.ref s.heap.objs.size, _, I.laid (t' := s.toks) (o := .lst (xs ++ ys)) (fun b ob q => Heap.get?_push_of_some _ q) (Nat.le_refl _) ?_, rfl, q _ (I.hok.fresh (Nat.le_refl _))⟩
  exact ⟨by rw [List.length_append]; exact hz, _, 0, r1.append r2, Heap.get?_push_size _ rfl⟩
theorem o_add : OpR X (binaryOp .Add) (RO2 (kx X T) rs addD) := OpR.imp (OpR.or op_add (OpR.or op_add_str (OpR.or op_catA op_catS))) fun x y H Q h => by
  obtain ⟨ι, F, M, d, e, z, M', r, h1, h2, g, q⟩ := h
  unfold addD at g
  split at g
  · cases g
    exact .inl ⟨_, _, h1, h2, q ι F H _ Le.refl r rfl⟩
  · split at g
    · rename_i hz
      cases g
      exact .inr (.inl ⟨_, _, h1, h2, by rw [← line_eq]; exact hz, q ι F H _ Le.refl r rfl⟩)
    · cases g
  · split at g
    · rename_i xs ys hz
      cases g
      obtain ⟨a, vs, rfl, s1, l1⟩ := h1
      obtain ⟨b, ws, rfl, s2, l2⟩ := h2
      refine .inr (.inr (.inl ⟨a, b, vs, ws, rfl, rfl, sqt_sub r s1, sqt_sub r s2, by rw [l1.length, l2.length, ← line_eq]; exact hz, fun e => ?_, fun _ e => ?_, fun _ _ p hp => ?_⟩))
      · subst e
        refine q ι F H _ Le.refl r ⟨b, ws, rfl, s2, ?_⟩
        cases xs with
        | nil => exact l2
        | cons d ds => obtain ⟨_, _, e, _⟩ := l1; cases e
      · subst e
        refine q ι F H _ Le.refl r ⟨a, vs, rfl, s1, ?_⟩
        cases ys with
        | nil => rw [List.append_nil]; exact l1
        | cons d ds => obtain ⟨_, _, e, _⟩ := l2; cases e
      · exact q ι (upd F p (.tup (vs ++ ws))) _ _ (Le.new (r.free hp)) (r.frozen hp) ⟨p, _, rfl, .inl (.inl upd_same), RepL.le (Le.new (r.free hp)) (l1.append l2)⟩
    · cases g
  · split at g
    · rename_i xs ys e1 e2
      split at g
      · rename_i hz
        cases g
        obtain ⟨a, vs, rfl, s1, l1⟩ := lsOf_at r e1 h1
        obtain ⟨b, ws, rfl, s2, l2⟩ := lsOf_at r e2 h2
        refine .inr (.inr (.inr ⟨a, b, vs, ws, rfl, rfl, s1, s2, by rw [l1.length, l2.length, ← line_eq]; exact hz, fun p hp => ?_⟩))
        exact q ι (upd F p (.lst (vs ++ ws))) _ _ (Le.new (r.free hp)) (r.frozen hp) ⟨p, _, rfl, .inl (.inl upd_same), RepL.le (Le.new (r.free hp)) (l1.append l2)⟩
      · cases g
    · cases g

theorem RO2.bo {K : KX} {f : Mem → D → D → Option Bool} {x y : V} {H : Hp} {Q : VK} (h : RO2 K rs (boD f) x y H Q) : ∃ ι F M d e k, Rel K ι F rs H M ∧ Rep K ι F d x ∧ Rep K ι F e y ∧ f M d e = some k ∧ Q (.bl k) H := by
  obtain ⟨ι, F, M, d, e, z, M', r, h1, h2, g, q⟩ := h
  unfold boD at g
  obtain ⟨k, g1, g2⟩ := Option.map_eq_some_iff.mp g
  cases g2
  exact ⟨ι, F, M, d, e, k, r, h1, h2, g1, q ι F H _ Le.refl r rfl⟩
theorem pyOf_flat {M : Mem} {d : D} (h : isF d = true) : pyOf M d = pyD d := by
  cases d <;> first | rfl | cases h
/-- what == comes to -/
theorem eqD_at {M : Mem} {d e : D} {k : Bool} {x y : V} {ι : List Addr} {F H : Hp} {K : KX} (r : Rel K ι F rs H M) (h1 : Rep K ι F d x) (h2 : Rep K ι F e y) (g : eqD M d e = some k) :
    (scal x y = true ∧ decide (x = y) = k) ∨ ∃ p q, Dp K.fr H x p ∧ Dp K.fr H y q ∧ SeqAt.shaped p = true ∧ SeqAt.shaped q = true ∧ PyData.eqv p q = k := by
  unfold eqD at g
  split at g
  · rename_i hf
    rw [Bool.and_eq_true] at hf
    obtain ⟨f1, f2⟩ := hf
    have g' : eqF d e = k := Option.some.inj g
    subst g'
    cases d <;> first
      | (cases f1; done)
      | (cases h1; cases e <;> first
        | (cases f2; done)
        | (cases h2; exact .inl ⟨rfl, by first | rfl | exact dec_int | exact dec_str | exact dec_bl⟩)
        | (cases h2; exact .inr ⟨_, _, .bl _, .int _, rfl, rfl, rfl⟩)
        | (cases h2; exact .inr ⟨_, _, .int _, .bl _, rfl, rfl, rfl⟩))
  · obtain ⟨p, p1, g⟩ := Option.bind_eq_some_iff.mp g
    obtain ⟨q, q1, g⟩ := Option.bind_eq_some_iff.mp g
    split at g
    · rename_i hs
      rw [Bool.and_eq_true] at hs
      exact .inr ⟨p, q, pyOf_dp r p1 h1, pyOf_dp r q1 h2, hs.1, hs.2, Option.some.inj g⟩
    · cases g
theorem o_eq (hu : X.A.units + 64 < cLine) : OpR X (compareOp .Eq) (RO2 (kx X T) rs (boD eqD)) := OpR.imp (OpR.or op_eq (op_eqD hu)) fun x y H Q h => by
  obtain ⟨ι, F, M, d, e, k, r, h1, h2, g, q⟩ := h.bo
  rcases eqD_at r h1 h2 g with ⟨a1, a2⟩ | ⟨p, p', a1, a2, a3, a4, a5⟩
  · exact .inl ⟨a1, by rw [a2]; exact q⟩
  · exact .inr ⟨p, p', a1, a2, a3, a4, by rw [a5]; exact q⟩
theorem o_ne (hu : X.A.units + 64 < cLine) : OpR X (compareOp .NotEq) (RO2 (kx X T) rs (boD (notB eqD))) := OpR.imp (OpR.or op_ne (op_neD hu)) fun x y H Q h => by
  obtain ⟨ι, F, M, d, e, k, r, h1, h2, g, q⟩ := h.bo
  obtain ⟨k', g1, g2⟩ := Option.map_eq_some_iff.mp g
  rcases eqD_at r h1 h2 g1 with ⟨a1, a2⟩ | ⟨p, p', a1, a2, a3, a4, a5⟩
  · exact .inl ⟨a1, by rw [a2, g2]; exact q⟩
  · exact .inr ⟨p, p', a1, a2, a3, a4, by rw [a5, g2]; exact q⟩
theorem intsOf_rep : ∀ {xs : List D} {ns : List Int} {vs : List V} {ι : List Addr} {F : Hp} {K : KX}, intsOf xs = some ns → RepL K ι F xs vs → vs = ns.map V.int
  | [], ns, vs, _, _, _, e, h => by
    cases e; exact h
  | d :: xs, ns, vs, ι, F, K, e, h => by
    obtain ⟨v, r, rfl, h1, h2⟩ := h
    cases d with
    | int i =>
      obtain ⟨is, e1, rfl⟩ := Option.map_eq_some_iff.mp (show (intsOf xs).map (fun is => i :: is) = some ns from e)
      cases h1
      rw [intsOf_rep e1 h2] <;> rfl
    | _ => cases e
theorem o_lt (hu : X.A.units < cLine) : OpR X (compareOp .Lt) (RO2 (kx X T) rs (boD ltB)) := OpR.imp (OpR.or op_lt (OpR.or op_lt_str (op_ltT hu))) fun x y H Q h => by
  obtain ⟨ι, F, M, d, e, k, r, h1, h2, g, q⟩ := h.bo
  unfold ltB at g
  split at g
  · cases g; exact .inl ⟨_, _, h1, h2, q⟩
  · cases g; exact .inr (.inl ⟨_, _, h1, h2, q⟩)
  · obtain ⟨ns, e1, g⟩ := Option.bind_eq_some_iff.mp g
    obtain ⟨ms, e2, rfl⟩ := Option.map_eq_some_iff.mp g
    obtain ⟨a, vs, rfl, s1, l1⟩ := h1
    obtain ⟨b, ws, rfl, s2, l2⟩ := h2
    have z1 := intsOf_rep e1 l1
    have z2 := intsOf_rep e2 l2
    subst z1 z2
    exact .inr (.inr ⟨a, b, ns, ms, rfl, rfl, sqt_sub r s1, sqt_sub r s2, q⟩)
  · cases g
theorem o_le : OpR X (compareOp .LtE) (RO2 (kx X T) rs (boD leB)) := OpR.imp (OpR.or op_le op_le_str) fun x y H Q h => by
  obtain ⟨ι, F, M, d, e, k, r, h1, h2, g, q⟩ := h.bo
  unfold leB at g
  split at g
  · cases g; exact .inl ⟨_, _, h1, h2, q⟩
  · cases g; exact .inr ⟨_, _, h1, h2, q⟩
  · cases g
theorem o_gt : OpR X (compareOp .Gt) (RO2 (kx X T) rs (boD gtB)) := OpR.imp (OpR.or op_gt op_gt_str) fun x y H Q h => by
  obtain ⟨ι, F, M, d, e, k, r, h1, h2, g, q⟩ := h.bo
  unfold gtB at g
  split at g
  · cases g; exact .inl ⟨_, _, h1, h2, q⟩
  · cases g; exact .inr ⟨_, _, h1, h2, q⟩
  · cases g
theorem o_ge : OpR X (compareOp .GtE) (RO2 (kx X T) rs (boD geB)) := OpR.imp (OpR.or op_ge op_ge_str) fun x y H Q h => by
  obtain ⟨ι, F, M, d, e, k, r, h1, h2, g, q⟩ := h.bo
  unfold geB at g
  split at g
  · cases g; exact .inl ⟨_, _, h1, h2, q⟩
  · cases g; exact .inr ⟨_, _, h1, h2, q⟩
  · cases g
theorem isnon_at {d : D} {v : V} {ι : List Addr} {F : Hp} {K : KX} (h : Rep K ι F d v) : decide (v = .non) = isNon d := by
  cases d with
  | non => cases h; rfl
  | bl b => cases h; rfl
  | int b => cases h; rfl
  | str b => cases h; rfl
  | ty b => cases h; rfl
  | lst xs => obtain ⟨a, vs, rfl, _⟩ := h; rfl
  | tup xs => obtain ⟨a, vs, rfl, _⟩ := h; rfl
  | dic xs ys => obtain ⟨a, vs, rfl, _⟩ := h; rfl
  | ref i => obtain ⟨a, rfl, _⟩ := h; rfl
  | glb a => cases h; rfl
theorem o_is : OpR X (compareOp .Is) (RO2 (kx X T) rs (boD isB)) := OpR.imp (OpR.or op_isN op_isBl) fun x y H Q h => by
  obtain ⟨ι, F, M, d, e, k, r, h1, h2, g, q⟩ := h.bo
  unfold isB at g
  split at g
  · cases g
    refine .inl ⟨h2, ?_⟩
    rw [isnon_at h1]; exact q
  · split at g
    · rename_i b _ a
      cases g
      exact .inr ⟨a, b, h1, h2, by rw [show decide (a = b) = (a == b) from by cases a <;> cases b <;> rfl]; exact q⟩
    · cases g
  · cases g
theorem o_isnot : OpR X (compareOp .IsNot) (RO2 (kx X T) rs (boD (notB isB))) := OpR.imp (OpR.or op_notN op_notBl) fun x y H Q h => by
  obtain ⟨ι, F, M, d, e, k, r, h1, h2, g, q⟩ := h.bo
  obtain ⟨k', g1, rfl⟩ := Option.map_eq_some_iff.mp g
  clear g
  unfold isB at g1
  split at g1
  · cases g1
    refine .inl ⟨h2, ?_⟩
    rw [isnon_at h1]; exact q
  · split at g1
    · rename_i b _ a
      cases g1
      exact .inr ⟨a, b, h1, h2, by rw [show decide (a = b) = (a == b) from by cases a <;> cases b <;> rfl]; exact q⟩
    · cases g1
  · cases g1
def rDIn (neg : Bool) : R2 := fun y x H Q => ∃ a o, x = .ref a ∧ DGet H a y o ∧ Q (.bl (if neg then !o.isSome else o.isSome)) H
theorem op_din (hu : X.A.units + 1 < cLine) : OpR X (compareOp .In) (rDIn false) := by
  intro pins s σ H y x v u Q I ry rx h
  obtain ⟨a, o, rfl, g, q⟩ := h
  cases rx
  exact d_in hu I g ry fun s3 I3 => ⟨.bl o.isSome, H, I3, rfl, q⟩
theorem op_dnin (hu : X.A.units + 1 < cLine) : OpR X (compareOp .NotIn) (rDIn true) := by
  intro pins s σ H y x v u Q I ry rx h
  obtain ⟨a, o, rfl, g, q⟩ := h
  cases rx
  exact d_notIn hu I g ry fun s3 I3 => ⟨.bl (!o.isSome), H, I3, rfl, q⟩
theorem keyOf_rep {d : D} {k : Key} {v : V} {ι : List Addr} {F : Hp} {K : KX} (e : keyOf d = some k) (h : Rep K ι F d v) : v = kV k := by
  cases d <;> first | (cases e; cases h; rfl) | cases e
/-- what «in» comes to, by cases -/
theorem inD_at {M : Mem} {d e : D} {k : Bool} {x y : V} {ι : List Addr} {F H : Hp} {K : KX} (r : Rel K ι F rs H M) (h1 : Rep K ι F d x) (h2 : Rep K ι F e y) (g : inD M d e = some k) :
    (∃ a o, y = .ref a ∧ DGet H a x o ∧ o.isSome = k) ∨ (∃ a b, x = .str a ∧ y = .str b ∧ (!(Builtin.Str.occurrences b a 0 b.length 1).isEmpty) = k) ∨
    (∃ p xs, y = .ref p ∧ (SqL K.fr H p xs ∨ SqT K.fr H p xs) ∧ flatV x = true ∧ xs.all flatV = true ∧ inV x xs = k) ∨
    ∃ d ds, Dp K.fr H x d ∧ Dp K.fr H y (.list ds) ∧ SeqAt.shaped d = true ∧ SeqAt.shaped (.list ds) = true ∧ (ds.any fun z => PyData.eqv z d) = k := by
  unfold inD at g
  split at g
  · rename_i kvs ek
    obtain ⟨q, e1, rfl⟩ := Option.map_eq_some_iff.mp g
    obtain ⟨a, vs, rfl, hr, m1, m2⟩ := dcOf_at r ek h2
    have hv := valV_rep (k := q) m1 m2
    refine .inl ⟨a, valV vs q, rfl, .inl ⟨vs, q, hr, keyOf_rep e1 h1, rfl⟩, ?_⟩
    split at hv
    · rename_i d' e2
      obtain ⟨u, e3, _⟩ := hv
      rw [e2, e3] <;> rfl
    · rename_i e2
      rw [e2, hv] <;> rfl
  · split at g
    · split at g
      · cases g
        exact .inr (.inl ⟨_, _, h1, h2, rfl⟩)
      · cases g
    · split at g
      · rename_i hf
        rw [Bool.and_eq_true] at hf
        cases g
        obtain ⟨a, vs, rfl, s1, l1⟩ := h2
        obtain ⟨b1, b2⟩ := rep_flats hf.2 l1
        exact .inr (.inr (.inl ⟨a, vs, rfl, .inr (sqt_sub r s1), (rep_flat hf.1 h1).1, b1, b2 hf.1 h1⟩))
      · cases g
    · split at g
      · rename_i xs e1
        obtain ⟨a, vs, rfl, s1, l1⟩ := lsOf_at r e1 h2
        split at g
        · rename_i hf
          rw [Bool.and_eq_true] at hf
          cases g
          obtain ⟨b1, b2⟩ := rep_flats hf.2 l1
          exact .inr (.inr (.inl ⟨a, vs, rfl, .inl s1, (rep_flat hf.1 h1).1, b1, b2 hf.1 h1⟩))
        · obtain ⟨p, p1, g⟩ := Option.bind_eq_some_iff.mp g
          obtain ⟨ps, p2, g⟩ := Option.bind_eq_some_iff.mp g
          split at g
          · rename_i hs
            rw [Bool.and_eq_true] at hs
            cases g
            exact .inr (.inr (.inr ⟨p, ps, pyOf_dp r p1 h1, .lst s1 (pyL_dp r _ _ _ p2 l1), hs.1, hs.2, rfl⟩))
          · cases g
      · cases g
theorem o_in (hu : X.A.units + 65 < cLine) : OpR X (compareOp .In) (RO2 (kx X T) rs (boD inD)) := OpR.imp (OpR.or (op_din (by omega)) (OpR.or op_in_str (OpR.or op_in_seq (op_inD hu)))) fun x y H Q h => by
  obtain ⟨ι, F, M, d, e, k, r, h1, h2, g, q⟩ := h.bo
  rcases inD_at r h1 h2 g with ⟨a, o, e1, e2, e3⟩ | ⟨a, b, e1, e2, e3⟩ | ⟨p, xs, e1, e2, e3, e4, e5⟩ | ⟨p, ds, e1, e2, e3, e4, e5⟩
  · exact .inl ⟨a, o, e1, e2, by rw [← e3] at q; exact q⟩
  · exact .inr (.inl ⟨a, b, e1, e2, by rw [e3]; exact q⟩)
  · exact .inr (.inr (.inl ⟨p, xs, e1, e2, e3, e4, by rw [← e5] at q; exact q⟩))
  · exact .inr (.inr (.inr ⟨p, ds, e1, e2, e3, e4, by rw [e5]; exact q⟩))
theorem o_notin (hu : X.A.units + 65 < cLine) : OpR X (compareOp .NotIn) (RO2 (kx X T) rs (boD (notB inD))) := OpR.imp (OpR.or (op_dnin (by omega)) (OpR.or op_notin_str (OpR.or op_notIn_seq (op_notInD hu)))) fun x y H Q h => by
  obtain ⟨ι, F, M, d, e, k, r, h1, h2, g, q⟩ := h.bo
  obtain ⟨k', g1, rfl⟩ := Option.map_eq_some_iff.mp g
  rcases inD_at r h1 h2 g1 with ⟨a, o, e1, e2, e3⟩ | ⟨a, b, e1, e2, e3⟩ | ⟨p, xs, e1, e2, e3, e4, e5⟩ | ⟨p, ds, e1, e2, e3, e4, e5⟩
  · exact .inl ⟨a, o, e1, e2, by rw [← e3] at q; exact q⟩
  · exact .inr (.inl ⟨a, b, e1, e2, by rw [e3]; exact q⟩)
  · exact .inr (.inr (.inl ⟨p, xs, e1, e2, e3, e4, by rw [← e5] at q; exact q⟩))
  · exact .inr (.inr (.inr ⟨p, ds, e1, e2, e3, e4, by rw [e5]; exact q⟩))
theorem ixN_of {n m : Nat} {i : Int} (e : n = m) : ixN n i = ixN m i := by rw [e]
theorem atI_rep {ds : List D} {vs : List V} {i : Int} {d : D} {ι : List Addr} {F : Hp} {K : KX} (h : RepL K ι F ds vs) (e : atI ds i = some d) : ∃ v, atI vs i = some v ∧ Rep K ι F d v := by
  unfold atI at e ⊢
  rw [h.length]
  obtain ⟨j, e1, e2⟩ := Option.bind_eq_some_iff.mp e
  rw [e1]
  exact h.get e2
theorem ix_dict (hu : X.A.units + 1 < cLine) : IxR X (fun x y H Q => ∃ a v, x = .ref a ∧ DGet H a y (some v) ∧ Q v H) := by
  intro value slice pins s σ H x y v u Q I rx ry h hs
  obtain ⟨a, z, rfl, g, q⟩ := h
  cases rx
  exact tail_any (dict_typeIs I g) PySem.F.slot_dict_getitem.lookup (d_getItem hu I g ry fun w' s3 I3 rw' => ⟨z, H, I3, rw', q⟩) hs
theorem i_ix (hu : X.A.units + 1 < cLine) : IxR X (RO2 (kx X T) rs ixD) := IxR.imp (IxR.or ix_list (IxR.or ix_tup (IxR.or ix_str (ix_dict hu)))) fun x y H Q h => by
  obtain ⟨ι, F, M, d, e, z, M', r, h1, h2, g, q⟩ := h
  unfold ixD at g
  split at g
  · split at g
    · split at g
      · rename_i hz
        obtain ⟨c, g1, g2⟩ := Option.map_eq_some_iff.mp g
        cases g2
        exact .inr (.inr (.inl ⟨_, _, c, h1, h2, by rw [← line_eq]; exact hz, g1, q ι F H _ Le.refl r rfl⟩))
      · cases g
    · cases g
  · split at g
    · obtain ⟨c, g1, g2⟩ := Option.map_eq_some_iff.mp g
      cases g2
      obtain ⟨a, vs, rfl, s1, l1⟩ := h1
      obtain ⟨v, a1, a2⟩ := atI_rep l1 g1
      exact .inr (.inl ⟨a, vs, _, v, rfl, h2, sqt_sub r s1, a1, q ι F H _ Le.refl r a2⟩)
    · cases g
  · split at g
    · rename_i kvs ek
      obtain ⟨k, e1, g⟩ := Option.bind_eq_some_iff.mp g
      obtain ⟨c, g1, g2⟩ := Option.map_eq_some_iff.mp g
      cases g2
      obtain ⟨a, vs, rfl, hr, m1, m2⟩ := dcOf_at r ek h1
      have hv := valV_rep (k := k) m1 m2
      rw [g1] at hv
      obtain ⟨u, e3, e4⟩ := hv
      exact .inr (.inr (.inr ⟨a, u, rfl, .inl ⟨vs, k, hr, keyOf_rep e1 h2, e3.symm⟩, q ι F H _ Le.refl r e4⟩))
    · split at g
      · rename_i xs e1
        split at g
        · obtain ⟨c, g1, g2⟩ := Option.map_eq_some_iff.mp g
          cases g2
          obtain ⟨a, vs, rfl, s1, l1⟩ := lsOf_at r e1 h1
          obtain ⟨v, a1, a2⟩ := atI_rep l1 g1
          exact .inl ⟨a, vs, _, v, rfl, h2, s1, a1, q ι F H _ Le.refl r a2⟩
        · cases g
      · cases g
end
end LD
namespace LD
open PySem PySem.Spec PyProof.Rows L2

/-! ### facts of the syntax, decided by computation -/
def isSup : Expr → Bool
  | .Call (.Name _ _) [] [] _ => true
  | _ => false
def isStar : Expr → Bool
  | .Starred _ _ => true
  | _ => false
theorem noSup {o : Expr} {m : Str} {env : Env} {t : Sem Value} (h : isSup o = false) : attributeBase o m env t = t := by
  unfold attributeBase
  split
  · cases h
  · rfl
theorem star_cons {e : Expr} {es : List Expr} {env : Env} (h : isStar e = false) : starEach (e :: es) env = (false, eval e env) :: starEach es env := by
  cases e <;> first | (simp only [starEach]; done) | cases h
theorem star_any {pos : Pos} {env : Env} : ∀ {es : List Expr}, es.any isStar = false → (backTo pos (starEach es env)).any (·.1) = false
  | [], _ => by simp only [starEach, backTo, List.map_nil, List.any_nil]
  | e :: es, h => by
    rw [List.any_cons, Bool.or_eq_false_iff] at h
    rw [star_cons h.1]
    have ih := star_any (pos := pos) (env := env) h.2
    unfold backTo at ih ⊢
    rw [List.map_cons, List.any_cons, ih] <;> rfl
theorem star_all {pos : Pos} {env : Env} : ∀ {es : List Expr}, es.any isStar = false → (backTo pos (starEach es env)).all (fun x => !x.1) = true
  | [], _ => by simp only [starEach, backTo, List.map_nil, List.all_nil]
  | e :: es, h => by
    rw [List.any_cons, Bool.or_eq_false_iff] at h
    rw [star_cons h.1]
    have ih := star_all (pos := pos) (env := env) h.2
    unfold backTo at ih ⊢
    rw [List.map_cons, List.all_cons, ih] <;> rfl
def kwN (k : Keyword) : Option Str := k.arg
theorem kw_map {pos : Pos} {env : Env} : ∀ {kws : List Keyword}, (backToKw pos (keywordEach kws env)).map (·.1) = kws.map kwN
  | [] => by simp only [keywordEach, backToKw, List.map_nil]
  | ⟨n, v, p⟩ :: kws => by
    have ih := kw_map (pos := pos) (env := env) (kws := kws)
    unfold backToKw at ih ⊢
    simp only [keywordEach, List.map_cons]
    rw [ih] <;> rfl
theorem kw_len {pos : Pos} {env : Env} {kws : List Keyword} : (backToKw pos (keywordEach kws env)).length = kws.length := by
  have h := congrArg List.length (kw_map (pos := pos) (env := env) (kws := kws))
  rw [List.length_map, List.length_map] at h
  exact h
theorem kw_all {pos : Pos} {env : Env} {kws : List Keyword} (h : kws.all (fun k => (kwN k).isSome) = true) : (backToKw pos (keywordEach kws env)).all (·.1.isSome) = true := by
  have e : (backToKw pos (keywordEach kws env)).all (·.1.isSome) = ((backToKw pos (keywordEach kws env)).map (·.1)).all (·.isSome) := by rw [List.all_map]; rfl
  rw [e, kw_map, List.all_map]
  exact h
theorem kw_none {pos : Pos} {env : Env} {kws : List Keyword} (h : kws.all (fun k => (kwN k).isSome) = true) : (backToKw pos (keywordEach kws env)).any (·.1.isNone) = false := by
  have e := kw_all (pos := pos) (env := env) h
  rw [List.all_eq_true] at e
  rw [List.any_eq_false]
  intro x hx
  have q := e x hx
  cases hq : x.1 with
  | none => rw [hq] at q; cases q
  | some n => simp [hq]
theorem kw_names {pos : Pos} {env : Env} {kws : List Keyword} : (backToKw pos (keywordEach kws env)).filterMap (·.1) = kws.filterMap kwN := by
  have e : (backToKw pos (keywordEach kws env)).filterMap (·.1) = ((backToKw pos (keywordEach kws env)).map (·.1)).filterMap id := by rw [List.filterMap_map]; rfl
  rw [e, kw_map, List.filterMap_map]
  rfl
theorem star_len {pos : Pos} {env : Env} : ∀ {es : List Expr}, es.any isStar = false → (starEach es env).length = es.length
  | [], _ => by simp only [starEach, List.length_nil]
  | e :: es, h => by
    rw [List.any_cons, Bool.or_eq_false_iff] at h
    rw [star_cons h.1, List.length_cons, List.length_cons, star_len (pos := pos) (env := env) h.2]
/-- o.m(..) as it is evaluated -/
theorem meth_eval {o : Expr} {m : Str} {apos pos : Pos} {es : List Expr} {kws : List Keyword} {env : Env} (h1 : isSup o = false) (h2 : es.any isStar = false) (h3 : kws.all (fun k => (kwN k).isSome) = true) (h4 : decide (es.length + kws.length < 29) = true)
    (h5 : (apos.endLine == pos.line) = true) : eval (.Call (.Attribute o m apos) es kws pos) env = (do
      let ov ← eval o env
      standAt apos.atName
      let (f, first) ← holding [ov] (getMethod ov m (do return (← importBound o env).getD true))
      callWith pos f first (backTo pos (starEach es env)) (backToKw pos (keywordEach kws env))) := by
  rw [arm_eval_Call, noSup h1]
  have few : methodCallForm (es.length + kws.length) (backTo pos (starEach es env)) (backToKw pos (keywordEach kws env)) = true := by
    unfold methodCallForm
    rw [star_all h2, kw_all h3]
    have := of_decide_eq_true h4
    simp only [Bool.true_and]
    apply decide_eq_true
    split <;> omega
  unfold methodCall calleeOf methodCallPos
  rw [few]
  simp only [h5, Bool.not_true, Bool.false_or, if_true, pure_bind]

/-! ### calls of the text's own defs -/
/-- what a def is worth: its arguments (the positional ones, then the written keywords'), the memory -/
abbrev FnD := List D → Mem → R D
def spD (K : KX) (rs : List (Addr × HO)) (φ : FnD) : Sp := fun vs H Q E => ∃ ι F ds M, Rel K ι F rs H M ∧ RepL K ι F ds vs ∧ Post K rs (repD K) ι F (fun c d => E c d) Q (φ ds M)
/-- the def at f may be called with n positional values and the keywords ks -/
structure Callee (P : Program) (w : World) (K : PySem.W.Frag) (mg : Str → Option Value) (base : Heap) (T : Tab) (k : Nat) (f : Addr) (n : Nat) (ks : List Str) (φ : FnD) : Prop where
  run : ∀ (rs : List (Addr × HO)) (A : Around) (outer : List Env) (s : Shared) (H : Hp) (us ws : List Value) (vs zs : List V) (Q : VK) (E : XK), Room k A → Env0 P w K mg base A outer s H → us.length = n → ws.length = ks.length → Vals vs us → Vals zs ws →
    spD ⟨K, T⟩ rs φ (vs ++ zs) H Q E → codeAny (model P w) A (.call (.ref f) ⟨us, ks.zip ws⟩) (CR (L2.CX P w) outer P w H s Q E) s
section
variable {X : Cx} {T : Tab} {W : WX} {n k : Nat} {ks : List Str} {φ : FnD} {f : Addr} {rs : List (Addr × HO)}
theorem run_callee {pins : List (Addr × Obj)} {σ : L2.St} {H : Hp} {s : Shared} {Q : VK} {us ws : List Value} {vs zs : List V} (c : Callee X.prog X.w X.K X.mg X.base T k f n ks φ) (hr : Room k X.A) (tk : Takes X W) (I : Inv X pins σ H s) (h1 : us.length = n) (h2 : ws.length = ks.length)
    (r1 : Vals vs us) (r2 : Vals zs ws) (h : spD (kx X T) rs φ (vs ++ zs) H Q (fun c d H => W c d σ H)) : wpAny (model X.prog X.w) X.A (call (.ref f) us (ks.zip ws)) (EP X pins σ Q) X.xe s := by
  refine wpAny_call (codeAny_mono (c.run rs X.A X.stack s H us ws vs zs Q _ hr I.env0 h1 h2 r1 r2 h) fun r s' hq => ?_)
  cases r with
  | error e => exact passAt tk σ pins H s e s' I hq
  | ok fl =>
    cases fl with
    | ret u => exact I.after hq
    | next => exact False.elim hq
    | brk => exact False.elim hq
    | cont => exact False.elim hq
end
structure KK (X : Cx) (T : Tab) (W : WX) (kws : List Keyword) (φ : Sem1 (List D)) : Prop where
  pk : ∀ rs, PK X kws (LA (kx X T) rs W φ)
  al : AL φ kws.length
def eCall (φ : FnD) (α κ : Sem1 (List D)) : Sem1 D := fun s M => (α s M).bind fun ds M1 => (κ s M1).bind fun zs M2 => φ (ds ++ zs) M2
theorem vals_of_repL {X : Cx} {T : Tab} {ι : List Addr} {F : Hp} {ds : List D} {vs : List V} {us : List Value} (r : RepL (kx X T) ι F ds vs) (h : Vals vs us) : us.length = ds.length := by
  rw [← h.length]; exact r.length
section
variable {X : Cx} {T : Tab} {W : WX} {n k : Nat} {ks : List Str} {φ : FnD} {f : Addr} {rs : List (Addr × HO)} {o : Expr} {es : List Expr} {kws : List Keyword} {α κ : Sem1 (List D)} {ψ : Sem1 D} {x m : Str} {p pos apos kpos : Pos}
theorem k_nil : KK X T W [] aNil := ⟨fun rs => ⟨fun pos pins s σ H Q I h => pk_nil.run pos pins s σ H Q I (by
  obtain ⟨ι, F, s, M, r, rS, p⟩ := h
  exact p.fin r rfl)⟩, al_nil⟩
theorem k_cons {nm : Option Str} {e : Expr} (ha : KE X T W e ψ) (hr : KK X T W kws κ) : KK X T W (⟨nm, e, kpos⟩ :: kws) (aCons ψ κ) := ⟨fun rs => ⟨fun pos pins s σ H Q I h => (pk_cons (ha rs) (hr.pk rs)).run pos pins s σ H Q I (by
  obtain ⟨ι, F, s, M, r, rS, p⟩ := h
  refine ⟨ι, F, s, M, r, rS, p.step fun v H1 ι1 F1 M1 x l1 r1 rv p1 => ?_⟩
  refine ⟨ι1, F1, s, M1, r1, rS.le l1, p1.step fun ws H2 ι2 F2 M2 xs l2 r2 rw2 p2 => ?_⟩
  exact p2.fin r2 ⟨v, ws, rfl, l2 _ _ rv, rw2⟩)⟩, al_cons hr.al⟩
/-- the arguments are evaluated, then g is called -/
theorem callArgs {e : Expr} {g : Value} {first : List Value} {pins : List (Addr × Obj)} {σ : L2.St} {H : Hp} {s : Shared} {Qv : Value → Shared → Prop} (hk : PySem.W.keepIn X.K g = true) (I : Inv X pins σ H s)
    (h2 : (e :: es).any isStar = false) (h3 : kws.all (fun k => (kwN k).isSome) = true) (ha : KA X T W (e :: es) α) (hkw : KK X T W kws κ) {Q2 : List V → List V → Hp → Prop}
    (h : LA (kx X T) rs W α σ H fun vs H1 => LA (kx X T) rs W κ σ H1 fun zs H2 => Q2 vs zs H2)
    (go : ∀ us ws vs zs H2 s2, Inv X pins σ H2 s2 → Vals vs us → Vals zs ws → Q2 vs zs H2 → wpAny (model X.prog X.w) X.A (call g (first ++ us) ((kws.filterMap kwN).zip ws)) Qv X.xe s2) :
    wpAny (model X.prog X.w) X.A (callWith pos g first (backTo pos (starEach (e :: es) X.env)) (backToKw pos (keywordEach kws X.env))) Qv X.xe s := by
  have h2' := h2
  rw [List.any_cons, Bool.or_eq_false_iff] at h2'
  refine PySem.W.callWith_KW (h₀ := X.base) I.ok.mod.kin hk (kw_all h3) (thn ((ha.pa rs).run pos pins s σ H _ I h) fun us s1 ⟨vs, H1, I1, r, q⟩ => ?_) (by rw [star_any h2, kw_none h3] <;> rfl) (star_cons h2'.1)
  refine thn ((hkw.pk rs).run pos pins s1 σ H1 _ I1 q) fun ws s2 ⟨zs, H2, I2, rz, q2⟩ => ⟨I2.kIn, ?_⟩
  rw [kw_names]
  exact go us ws vs zs H2 s2 I2 r rz q2
theorem callArgs0 {g : Value} {first : List Value} {pins : List (Addr × Obj)} {σ : L2.St} {H : Hp} {s : Shared} {Qv : Value → Shared → Prop} (hk : PySem.W.keepIn X.K g = true) (I : Inv X pins σ H s)
    (h3 : kws.all (fun k => (kwN k).isSome) = true) (hkw : KK X T W kws κ) {Q2 : List V → Hp → Prop}
    (h : LA (kx X T) rs W κ σ H fun zs H2 => Q2 zs H2)
    (go : ∀ ws zs H2 s2, Inv X pins σ H2 s2 → Vals zs ws → Q2 zs H2 → wpAny (model X.prog X.w) X.A (call g (first ++ []) ((kws.filterMap kwN).zip ws)) Qv X.xe s2) :
    wpAny (model X.prog X.w) X.A (callWith pos g first (backTo pos (starEach [] X.env)) (backToKw pos (keywordEach kws X.env))) Qv X.xe s := by
  refine PySem.W.callWith_KW0 (h₀ := X.base) I.ok.mod.kin hk (kw_all h3) ?_ (by rw [star_any rfl, kw_none h3] <;> rfl)
  refine thn ((hkw.pk rs).run pos pins s σ H _ I h) fun ws s2 ⟨zs, H2, I2, rz, q2⟩ => ⟨I2.kIn, ?_⟩
  rw [kw_names]
  exact go ws zs H2 s2 I2 rz q2
/-- both, at the level of plain values: f is g of a value known -/
theorem call_both {g : Value} {first : List Value} {fv : List V} {fd : List D} {pins : List (Addr × Obj)} {σ : L2.St} {H : Hp} {s : Shared} {Q : VK} {ds : DS} {M : Mem} {ι : List Addr} {F : Hp} (hk : PySem.W.keepIn X.K g = true) (I : Inv X pins σ H s)
    (hα : es = [] → α = aNil) (h2 : es.any isStar = false) (h3 : kws.all (fun k => (kwN k).isSome) = true) (ha : KA X T W es α) (hkw : KK X T W kws κ)
    (r : Rel (kx X T) ι F rs H M) (rS : RepS (kx X T) ι F ds σ) (rf : RepL (kx X T) ι F fd fv) (p : Post (kx X T) rs (repD (kx X T)) ι F (fun c d => W c d σ) Q ((α ds M).bind fun xs M1 => (κ ds M1).bind fun zs M2 => φ (fd ++ xs ++ zs) M2))
    (go : ∀ us ws vs zs H2 s2, Inv X pins σ H2 s2 → Vals vs us → Vals zs ws → us.length = es.length → ws.length = kws.length → spD (kx X T) rs φ (fv ++ vs ++ zs) H2 Q (fun c d H => W c d σ H) → wpAny (model X.prog X.w) X.A (call g (first ++ us) ((kws.filterMap kwN).zip ws)) (EP X pins σ Q) X.xe s2) :
    wpAny (model X.prog X.w) X.A (callWith pos g first (backTo pos (starEach es X.env)) (backToKw pos (keywordEach kws X.env))) (EP X pins σ Q) X.xe s := by
  have fin : ∀ {vs zs : List V} {H2 : Hp} {ι2 F2 M2 xs ys}, Le (kx X T) ι F ι2 F2 → Rel (kx X T) ι2 F2 rs H2 M2 → RepL (kx X T) ι2 F2 xs vs → RepL (kx X T) ι2 F2 ys zs → Post (kx X T) rs (repD (kx X T)) ι2 F2 (fun c d => W c d σ) Q (φ (fd ++ xs ++ ys) M2) → spD (kx X T) rs φ (fv ++ vs ++ zs) H2 Q (fun c d H => W c d σ H) :=
    fun l r2 a b q => ⟨_, _, _, _, r2, ((RepL.le l rf).append a).append b, q⟩
  cases es with
  | nil =>
    rw [hα rfl] at p
    refine callArgs0 (Q2 := fun zs H2 => zs.length = kws.length ∧ spD (kx X T) rs φ (fv ++ [] ++ zs) H2 Q (fun c d H => W c d σ H)) hk I h3 hkw ⟨ι, F, ds, M, r, rS, ?_⟩ fun ws zs H2 s2 I2 rz q => go [] ws [] zs H2 s2 I2 .nil rz rfl (by rw [← rz.length]; exact q.1) q.2
    refine Post.stepE (f := fun zs M2 => φ (fd ++ [] ++ zs) M2) p fun zs H2 ι2 F2 M2 ys e2 l2 r2 rz p2 => ⟨by rw [RepL.length rz]; exact hkw.al _ _ _ _ e2, fin (xs := []) l2 r2 rfl rz p2⟩
  | cons e es =>
    refine callArgs (Q2 := fun vs zs H2 => vs.length = (e :: es).length ∧ zs.length = kws.length ∧ spD (kx X T) rs φ (fv ++ vs ++ zs) H2 Q (fun c d H => W c d σ H)) hk I h2 h3 ha hkw ⟨ι, F, ds, M, r, rS, ?_⟩
      fun us ws vs zs H2 s2 I2 ru rz q => go us ws vs zs H2 s2 I2 ru rz (by rw [← ru.length]; exact q.1) (by rw [← rz.length]; exact q.2.1) q.2.2
    refine p.stepE fun vs H1 ι1 F1 M1 xs e1 l1 r1 rv p1 => ⟨ι1, F1, ds, M1, r1, rS.le l1, p1.stepE fun zs H2 ι2 F2 M2 ys e2 l2 r2 rz p2 => ⟨by rw [RepL.length rv]; exact ha.al _ _ _ _ e1, by rw [RepL.length rz]; exact hkw.al _ _ _ _ e2, ?_⟩⟩
    exact fin (l1.trans l2) r2 (RepL.le l2 rv) rz p2
end
end LD
namespace LD
open PySem PySem.Spec PyProof.Rows L2

section
variable {X : Cx} {T : Tab} {W : WX} {k : Nat} {φ : FnD} {f C : Addr} {o a b : Expr} {es : List Expr} {kws : List Keyword} {α κ : Sem1 (List D)} {ψ χ : Sem1 D} {x m : Str} {p pos apos kpos : Pos}
theorem kw_count (h3 : kws.all (fun k => (kwN k).isSome) = true) : (kws.filterMap kwN).length = kws.length := by
  induction kws with
  | nil => rfl
  | cons k ks ih =>
    rw [List.all_cons, Bool.and_eq_true] at h3
    obtain ⟨n, hn⟩ := Option.isSome_iff_exists.mp h3.1
    rw [List.filterMap_cons, hn]
    show _ + 1 = _ + 1
    rw [ih h3.2]
theorem d_call (c : Callee X.prog X.w X.K X.mg X.base T k f es.length (kws.filterMap kwN) φ) (hr : Room k X.A) (tk : Takes X W) (hg : Gl X x) (hm : X.mg x = some (.ref f)) (hk : PySem.W.keepIn X.K (.ref f) = true) (hdb : (x == ("__debug__" : Str)) = false)
    (hα : es = [] → α = aNil) (h2 : es.any isStar = false) (h3 : kws.all (fun k => (kwN k).isSome) = true) (ha : KA X T W es α) (hkw : KK X T W kws κ) : KE X T W (.Call (.Name x p) es kws pos) (eCall φ α κ) := by
  refine fun rs => ⟨fun pins s σ H Q I h => ?_⟩
  obtain ⟨ι, F, st, M, r, rS, q⟩ := h
  refine wpAny_Call_Name_kw (ld_glob I hg hm (call_both (first := []) (fv := []) (fd := []) hk I hα h2 h3 ha hkw r rS rfl q fun us ws vs zs H2 s2 I2 ru rz l1 l2 q2 => ?_) hdb)
  exact run_callee c hr tk I2 l1 (l2.trans (kw_count h3).symm) ru rz q2
/-- a new instance: the memory's next place, then __init__ -/
def mkF (c n : Nat) (φ : FnD) : FnD := fun xs M => (φ (.ref M.length :: xs) (M ++ [.ins c (List.replicate n none)])).bind fun v M' => match v with
  | .non => .ok (.ref M.length) M'
  | _ => .bad
theorem run_mk {rs : List (Addr × HO)} {c n nn : Nat} {ks : List Str} {ly : List Str} {pins : List (Addr × Obj)} {σ : L2.St} {H : Hp} {s : Shared} {Q : VK} {us ws : List Value} {vs zs : List V} (hc : T.ct[c]? = some (C, ly)) (hn : n = ly.length) (M : Mk X.K C f)
    (cl : Callee X.prog X.w X.K X.mg X.base T k f (nn + 1) ks φ) (hr : Room (k + 1) X.A) (tk : Takes X W) (I : Inv X pins σ H s) (h1 : us.length = nn) (h2 : ws.length = ks.length)
    (r1 : Vals vs us) (r2 : Vals zs ws) (h : spD (kx X T) rs (mkF c n φ) (vs ++ zs) H Q (fun c d H => W c d σ H)) : wpAny (model X.prog X.w) X.A (call (.ref C) us (ks.zip ws)) (EP X pins σ Q) X.xe s := by
  obtain ⟨ι, F, ds, Me, r, rd, p⟩ := h
  have nx : H (s.heap.objs.size + 1) = none := I.hok.fresh (Nat.le_succ _)
  have nd : H s.heap.objs.size = none := I.hok.fresh (Nat.le_refl _)
  have ne : s.heap.objs.size + 1 ≠ s.heap.objs.size := Nat.ne_of_gt (Nat.lt_succ_self _)
  have I2 := Inv.made (C := C) I
  have ra := r.frozen (p := s.heap.objs.size) (o := .own (s.heap.objs.size + 1)) nd
  have nx1 : (upd H s.heap.objs.size (.own (s.heap.objs.size + 1))) (s.heap.objs.size + 1) = none := by rw [upd_ne ne]; exact nx
  have rb := ra.fresh (p := s.heap.objs.size + 1) (o := .ins C s.heap.objs.size []) (u := .ins c (List.replicate n none)) nx1 rfl ⟨C, ly, _, [], hc, upd_same, List.Pairwise.nil, fun f hf => (by cases hf), (by rw [List.length_replicate, hn]), fun j f e1 d e2 => (by
    rw [List.getElem?_replicate] at e2
    split at e2 <;> cases e2)⟩
  have lb : Le (kx X T) ι F (ι ++ [s.heap.objs.size + 1]) (upd F s.heap.objs.size (.own (s.heap.objs.size + 1))) := (Le.new (r.free nd)).trans Le.push
  have sp : spD (kx X T) rs φ (V.ref (s.heap.objs.size + 1) :: vs ++ zs) (upd (upd H s.heap.objs.size (.own (s.heap.objs.size + 1))) (s.heap.objs.size + 1) (.ins C s.heap.objs.size [])) (fun v H2 => v = .non ∧ Q (.ref (s.heap.objs.size + 1)) H2) (fun c d H => W c d σ H) := by
    refine ⟨_, _, .ref Me.length :: ds, _, rb, ⟨_, _, rfl, ⟨_, rfl, by rw [← r.len]; simp⟩, RepL.le lb rd⟩, ?_⟩
    refine Post.step (rep2 := repD (kx X T)) (Q := Q) (Post.le lb p) fun v H' ι' F' M' d l' r' rv p' => ?_
    cases d with
    | non => exact ⟨rv, p'.fin r' (show Rep (kx X T) ι' F' (.ref Me.length) (V.ref (s.heap.objs.size + 1)) from l' (.ref Me.length) _ ⟨_, rfl, by rw [← r.len]; simp⟩)⟩
    | _ => exact p'.elim
  refine wpAny_call (make_map (f := f) I.kIn M.makes M.init (beq_iff_eq.mp M.fn) (codeAny_mono (cl.run rs _ X.stack _ _ (Value.ref (s.heap.objs.size + 1) :: us) ws (V.ref (s.heap.objs.size + 1) :: vs) zs _ (fun c d H => W c d σ H) (hr.make C us (ks.zip ws))
    (I2.env0.make C us (ks.zip ws)) (by rw [List.length_cons, h1]) h2 (.cons rfl r1) r2 sp) fun r s' hq' => ?_))
  cases r with
  | error e => exact passAt tk σ pins _ _ e s' I2 hq'
  | ok fl =>
    cases fl with
    | ret u =>
      obtain ⟨v, H', I3, rv, ev, q3⟩ := I2.after hq'
      subst ev
      exact ⟨rv, ⟨V.ref (s.heap.objs.size + 1), H', I3, rfl, q3⟩⟩
    | next => exact False.elim hq'
    | brk => exact False.elim hq'
    | cont => exact False.elim hq'
theorem d_make {c n : Nat} {ly : List Str} (hc : T.ct[c]? = some (C, ly)) (hn : n = ly.length) (M : Mk X.K C f) (cl : Callee X.prog X.w X.K X.mg X.base T k f (es.length + 1) (kws.filterMap kwN) φ) (hr : Room (k + 1) X.A) (tk : Takes X W) (hg : Gl X x)
    (hm : X.mg x = some (.ref C)) (hdb : (x == ("__debug__" : Str)) = false) (hα : es = [] → α = aNil) (h2 : es.any isStar = false) (h3 : kws.all (fun k => (kwN k).isSome) = true) (ha : KA X T W es α) (hkw : KK X T W kws κ) :
    KE X T W (.Call (.Name x p) es kws pos) (eCall (mkF c n φ) α κ) := by
  refine fun rs => ⟨fun pins s σ H Q I h => ?_⟩
  obtain ⟨ι, F, st, Me, r, rS, q⟩ := h
  refine wpAny_Call_Name_kw (ld_glob I hg hm (call_both (first := []) (fv := []) (fd := []) M.kp I hα h2 h3 ha hkw r rS rfl q fun us ws vs zs H2 s2 I2 ru rz l1 l2 q2 => ?_) hdb)
  exact run_mk hc hn M cl hr tk I2 l1 (l2.trans (kw_count h3).symm) ru rz q2
/-- o.m(..): by the class of o -/
def eMeth (tbl : List (Nat × FnD)) (o : Sem1 D) (α κ : Sem1 (List D)) : Sem1 D := fun s M => (o s M).bind fun x M0 => match x with
  | .ref i => match M0[i]? with
    | some (.ins c _) => match tbl.lookup c with
      | some φ => (α s M0).bind fun ds M1 => (κ s M1).bind fun zs M2 => φ ([.ref i] ++ ds ++ zs) M2
      | none => .bad
    | _ => .bad
  | _ => .bad
theorem lookup_none {β : Type} {f : Str} : ∀ {l : List (Str × β)}, f ∉ l.map (·.1) → l.lookup f = none
  | [], _ => rfl
  | (g, v) :: l, h => by
    rw [List.map_cons, List.mem_cons, not_or] at h
    rw [List.lookup_cons, show (f == g) = false from beq_eq_false_iff_ne.mpr h.1]
    exact lookup_none h.2
theorem d_meth {tbl : List (Nat × FnD)} (ht : ∀ c φ, tbl.lookup c = some φ → ∃ C ly g k, T.ct[c]? = some (C, ly) ∧ m ∉ ly ∧ Cls X.K C ∧ Meth X.K C m g ∧ Callee X.prog X.w X.K X.mg X.base T k g (es.length + 1) (kws.filterMap kwN) φ ∧ Room k X.A) (tk : Takes X W)
    (ho : KE X T W o ψ) (h1 : isSup o = false) (h4 : decide (es.length + kws.length < 29) = true) (h5 : (apos.endLine == pos.line) = true) (hα : es = [] → α = aNil) (h2 : es.any isStar = false) (h3 : kws.all (fun k => (kwN k).isSome) = true) (ha : KA X T W es α) (hkw : KK X T W kws κ) :
    KE X T W (.Call (.Attribute o m apos) es kws pos) (eMeth tbl ψ α κ) := by
  refine fun rs => ⟨fun pins s σ H Q I h => ?_⟩
  refine PySem.W.methodCall_KW (thn ((ho rs).run pins s σ H (fun v H1 => ∃ ι F st M i c fs φ, Rel (kx X T) ι F rs H1 M ∧ RepS (kx X T) ι F st σ ∧ Rep (kx X T) ι F (.ref i) v ∧ M[i]? = some (.ins c fs) ∧ tbl.lookup c = some φ ∧
    Post (kx X T) rs (repD (kx X T)) ι F (fun c d => W c d σ) Q ((α st M).bind fun ds M1 => (κ st M1).bind fun zs M2 => φ ([.ref i] ++ ds ++ zs) M2)) I ?_) fun u s1 ⟨v, H1, I1, rv, q⟩ => ?_) (meth_eval h1 h2 h3 h4 h5)
  · obtain ⟨ι, F, st, M, r, rS, q⟩ := h
    refine ⟨ι, F, st, M, r, rS, q.step fun v H1 ι1 F1 M1 x l1 r1 rv p1 => ?_⟩
    cases x with
    | ref i =>
      simp only at p1
      split at p1
      · rename_i c fs hM
        split at p1
        · rename_i φ hφ
          exact ⟨ι1, F1, st, M1, i, c, fs, φ, r1, rS.le l1, rv, hM, hφ, p1⟩
        · exact p1.elim
      · exact p1.elim
    | _ => exact p1.elim
  · obtain ⟨ι, F, st, M, i, c, fs, φ, r, rS, ri, hM, hφ, p⟩ := q
    obtain ⟨a, rfl, hi⟩ := ri
    obtain rfl : u = Value.ref a := rv
    obtain ⟨C, ly, g, k, hc, hml, cl, me, ce, hr⟩ := ht c φ hφ
    obtain ⟨_, C', ly', dx, vs, hc', hH, _, hly, _, _⟩ := r.obj i _ a hM hi rfl
    have e2 : (C, ly) = (C', ly') := Option.some.inj (hc.symm.trans hc')
    cases e2
    have hl : vs.lookup m = none := lookup_none fun z => hml (hly m z)
    refine getmeth_ok I1 hH cl me hl ?_
    refine call_both (first := [.ref a]) (fv := [.ref a]) (fd := [.ref i]) me.kp I1 hα h2 h3 ha hkw r rS (.one ⟨a, rfl, hi⟩) p fun us ws vs zs H2 s2 I2 ru rz l1 l2 q2 => ?_
    exact run_callee (vs := .ref a :: vs) ce hr tk I2 (us := .ref a :: us) (by rw [List.length_cons, l1]) (l2.trans (kw_count h3).symm) (.cons rfl ru) rz q2
/-- o.f: a property, or a field -/
def eAttr (tp : List (Nat × FnD)) (tf : List (Nat × Nat)) (o : Sem1 D) : Sem1 D := fun s M => (o s M).bind fun x M0 => match x with
  | .ref i => match M0[i]? with
    | some (.ins c fs) => match tp.lookup c with
      | some φ => match φ [.ref i] M0 with
        | .ok d M1 => .ok d M1
        | _ => .bad
      | none => match tf.lookup c with
        | some j => match fs[j]? with
          | some (some d) => .ok d M0
          | _ => .bad
        | none => .bad
    | _ => .bad
  | _ => .bad
theorem getprop_d {rs : List (Addr × HO)} {pins : List (Addr × Obj)} {σ : L2.St} {H : Hp} {s : Shared} {Q : VK} {bb : Bool} {E' : Value → Shared → Prop} {g pp dx : Addr} {fs : List (Str × V)} {a : Addr} (I : Inv X pins σ H s) (ea : H a = some (.ins C dx fs)) (c : Cls X.K C) (hp : PropOf X.K C m pp g)
    (cl : Callee X.prog X.w X.K X.mg X.base T k g 1 [] φ) (hr : Room (k + 1) X.A) (h : spD (kx X T) rs φ [.ref a] H Q (fun _ _ _ => False)) : wpAny (model X.prog X.w) X.A (getAttr (.ref a) m bb) (EP X pins σ Q) E' s := by
  obtain ⟨mA, O, _, _, _, _⟩ := ins_get I.hok ea
  obtain ⟨od, J, _⟩ := O.look
  obtain ⟨rest, hrec⟩ := hp.rec_
  have I1 := I.tok (s.toks + 1)
  have hc : (PySem.W.clsIn X.K C).isSome = true := by
    obtain ⟨cd, hc, _⟩ := PySem.W.any_some c.hd
    rw [hc]
    rfl
  refine PySem.W.get_bind I.kIn J (PySem.W.plainGet_of (c.get m)).1 (PySem.W.findObj_data hc hp.at_ hp.get hp.tak) (PySem.W.plainGet_of (c.get m)).2 (wpAny_call (PySem.W.prop_get (s := { s with toks := s.toks + 1 }) I.kIn hrec ?_))
  refine codeAny_mono (cl.run rs X.A.in1 X.stack { s with toks := s.toks + 1 } H [.ref a] [] [.ref a] [] Q _ hr.in1 I1.env0.in1 rfl rfl (.cons rfl .nil) .nil h) fun r s' hq => ?_
  cases r with
  | error er =>
    obtain ⟨a, B, H', cls, d, _, _, _, _, _, _, _, z⟩ := hq
    exact z.elim
  | ok fl =>
    cases fl with
    | ret u =>
      obtain ⟨v, H', I3, rv, q3⟩ := I1.after hq
      show wpAny _ _ (handedOut u) _ _ _
      rw [PySem.W.handedOut_of (handed_of rv)]
      exact wpAny_pure ⟨v, H', I3, rv, q3⟩
    | next => exact False.elim hq
    | brk => exact False.elim hq
    | cont => exact False.elim hq
theorem d_attr {tp : List (Nat × FnD)} {tf : List (Nat × Nat)} (ht : ∀ c φ, tp.lookup c = some φ → ∃ C ly pp g k, T.ct[c]? = some (C, ly) ∧ Cls X.K C ∧ PropOf X.K C m pp g ∧ Callee X.prog X.w X.K X.mg X.base T k g 1 [] φ ∧ Room (k + 1) X.A)
    (hf : ∀ c j, tp.lookup c = none → tf.lookup c = some j → ∃ C ly, T.ct[c]? = some (C, ly) ∧ Cls X.K C ∧ NoAttr X.K C m ∧ ly[j]? = some m) (ho : KE X T W o ψ) (h1 : isSup o = false) : KE X T W (.Attribute o m pos) (eAttr tp tf ψ) := by
  refine fun rs => ⟨fun pins s σ H Q I h => ?_⟩
  refine attr_of (noSup h1) (thn ((ho rs).run pins s σ H (fun v H1 => (∃ ι F M i c fs φ, Rel (kx X T) ι F rs H1 M ∧ Rep (kx X T) ι F (.ref i) v ∧ M[i]? = some (.ins c fs) ∧ tp.lookup c = some φ ∧ Post (kx X T) rs (repD (kx X T)) ι F (fun _ _ _ => False) Q (φ [.ref i] M)) ∨
    ∃ ι F M i c fs j d, Rel (kx X T) ι F rs H1 M ∧ Rep (kx X T) ι F (.ref i) v ∧ M[i]? = some (.ins c fs) ∧ tp.lookup c = none ∧ tf.lookup c = some j ∧ fs[j]? = some (some d) ∧ ∀ w, Rep (kx X T) ι F d w → Q w H1) I ?_) fun u s1 ⟨v, H1, I1, rv, q⟩ => ?_)
  · obtain ⟨ι, F, st, M, r, rS, q⟩ := h
    refine ⟨ι, F, st, M, r, rS, q.step fun v H1 ι1 F1 M1 x l1 r1 rv p1 => ?_⟩
    cases x with
    | ref i =>
      simp only at p1
      split at p1
      · rename_i c fs hM
        split at p1
        · rename_i φ hφ
          refine .inl ⟨ι1, F1, M1, i, c, fs, φ, r1, rv, hM, hφ, ?_⟩
          cases e : φ [.ref i] M1 with
          | ok d M2 => rw [e] at p1; exact p1
          | er x M2 => rw [e] at p1; exact p1.elim
          | bad => rw [e] at p1; exact p1.elim
        · rename_i hφ
          split at p1
          · rename_i j hj
            split at p1
            · rename_i d hd
              exact .inr ⟨ι1, F1, M1, i, c, fs, j, d, r1, rv, hM, hφ, hj, hd, fun w rw => p1.fin r1 rw⟩
            · exact p1.elim
          · exact p1.elim
      · exact p1.elim
    | _ => exact p1.elim
  · rcases q with ⟨ι, F, M, i, c, fs, φ, r, ri, hM, hφ, p⟩ | ⟨ι, F, M, i, c, fs, j, d, r, ri, hM, hφ, hj, hd, p⟩
    · obtain ⟨a, rfl, hi⟩ := ri
      obtain rfl : u = Value.ref a := rv
      obtain ⟨C, ly, pp, g, k, hc, cl, pr, ce, hr⟩ := ht c φ hφ
      obtain ⟨_, C', ly', dx, vs, hc', hH, _, hly, _, _⟩ := r.obj i _ a hM hi rfl
      have e2 : (C, ly) = (C', ly') := Option.some.inj (hc.symm.trans hc')
      cases e2
      exact getprop_d I1 hH cl pr ce hr ⟨ι, F, [.ref i], M, r, .one ⟨a, rfl, hi⟩, p⟩
    · obtain ⟨a, rfl, hi⟩ := ri
      obtain rfl : u = Value.ref a := rv
      obtain ⟨C, ly, hc, cl, na, hl⟩ := hf c j hφ hj
      obtain ⟨_, C', ly', dx, vs, hc', hH, _, hly, _, hg⟩ := r.obj i _ a hM hi rfl
      have e2 : (C, ly) = (C', ly') := Option.some.inj (hc.symm.trans hc')
      cases e2
      obtain ⟨w, hw, rw⟩ := hg j m hl d hd
      exact getattr_ok I1 hH cl na hw fun u2 s2 I2 ru2 => ⟨w, H1, I2, ru2, p w rw⟩
/-- C.f, a constant of the class at C -/
theorem d_ccon {mc : Value} {v : V} {u : Value} {d : D} {p2 : Pos} (hg : Gl X x) (hm : X.mg x = some (.ref C)) (hdb : (x == ("__debug__" : Str)) = false) (cr : ClX.CRead X.K C mc) (cv : ClX.CVal X.K C mc m v u) (hr : ∀ ι F, Rep (kx X T) ι F d v) :
    KE X T W (.Attribute (.Name x p2) m pos) (eC d) := fun rs => PE.imp (ClX.pe_cval (pe_glob (v := .ref C) hg hm rfl hdb) (noSup rfl)) fun σ H Q h => by
  obtain ⟨ι, F, s, M, r, rS, p⟩ := h
  exact ⟨C, mc, v, u, rfl, cr, cv, p.fin r (hr ι F)⟩
end
end LD
namespace LD
open PySem PySem.Spec PyProof.Rows L2

/-! ### items and slices -/
def cutL {α : Type} (xs : List α) (lo hi : Option Int) : List α := (xs.drop (HT.sIx xs.length 0 lo)).take (HT.sIx xs.length xs.length hi - HT.sIx xs.length 0 lo)
/-- a new list: one that may change (mu), or a value -/
def newL (mu : Bool) (xs : List D) (M : Mem) : D × Mem := if mu then (.ref M.length, M ++ [.lst xs]) else (.lst xs, M)
def newK (mu : Bool) (kvs : List (Key × D)) (M : Mem) : D × Mem := if mu then (.ref M.length, M ++ [.dic kvs]) else (.dic (kvs.map (·.1)) (kvs.map (·.2)), M)
def sliceD (mu : Bool) (x : D) (lo hi : Option Int) (M : Mem) : Option (D × Mem) := match x with
  | .str z => if z.length ≤ LINE then some (.str (cutS z lo hi), M) else none
  | .tup xs => some (.tup (cutL xs lo hi), M)
  | x => (lsOf M x).map fun xs => newL mu (cutL xs lo hi) M
abbrev SemO := Sem1 (Option Int)
def oNone : SemO := fun _ M => .ok none M
def oSome (a : Sem1 D) : SemO := fun s M => (a s M).bind fun x M1 => match x with
  | .int i => .ok (some i) M1
  | _ => .bad
def eSlice (mu : Bool) (a : Sem1 D) (lo hi : SemO) : Sem1 D := fun s M => (a s M).bind fun x M1 => (lo s M1).bind fun l M2 => (hi s M2).bind fun h M3 => ofO (sliceD mu x l h M3)
def eRev (mu : Bool) (a : Sem1 D) : Sem1 D := fun s M => (a s M).bind fun x M1 => match lsOf M1 x with
  | some xs => ofO (some (newL mu xs.reverse M1))
  | none => .bad
abbrev repOI : List Addr → Hp → Option Int → Option Int → Prop := fun _ _ a b => b = a
section
variable {X : Cx} {T : Tab} {W : WX} {a b o e : Expr} {es : List Expr} {α : Sem1 (List D)} {φ ψ : Sem1 D} {p2 pos : Pos} {K : KX} {ι : List Addr} {F H : Hp} {M : Mem} {rs : List (Addr × HO)}
theorem d_sub (hu : X.A.units + 1 < cLine) (ha : KE X T W a φ) (hb : KE X T W b ψ) (hs : PlainIx b) : KE X T W (.Subscript a b pos) (eBin ixD φ ψ) := fun rs => PE.imp (pe_ix (i_ix hu) (ha rs) (hb rs) hs) fun _ _ _ h => lg_op h
structure KO (X : Cx) (T : Tab) (W : WX) (e : Option Expr) (φ : SemO) : Prop where
  po : ∀ rs, PO X e (LG (kx X T) rs repOI W φ)
theorem ko_none : KO X T W none oNone := ⟨fun rs => ⟨fun pins s σ H Q I h => po_none.run pins s σ H Q I (by
  obtain ⟨ι, F, st, M, r, rS, p⟩ := h
  exact p.fin r rfl)⟩⟩
theorem ko_some (h : KE X T W e φ) : KO X T W (some e) (oSome φ) := ⟨fun rs => ⟨fun pins s σ H Q I hw => (po_some (h rs)).run pins s σ H Q I (by
  obtain ⟨ι, F, st, M, r, rS, p⟩ := hw
  refine ⟨ι, F, st, M, r, rS, p.step fun v H1 ι1 F1 M1 x l1 r1 rv p1 => ?_⟩
  cases x with
  | int i => exact ⟨i, rv, p1.fin r1 rfl⟩
  | _ => exact p1.elim)⟩⟩
theorem SlR.imp {r r' : V → Option Int → Option Int → Hp → VK → Prop} (h : SlR X r) (i : ∀ x lo hi H Q, r' x lo hi H Q → r x lo hi H Q) : SlR X r' :=
  fun pins s σ H x v vl vu lo hi sl Q I rx hs pl pu q => h pins s σ H x v vl vu lo hi sl Q I rx hs pl pu (i _ _ _ _ _ q)
theorem RepL.cut {ds : List D} {vs : List V} (h : RepL K ι F ds vs) (lo hi : Option Int) : RepL K ι F (cutL ds lo hi) (cutV vs lo hi) := by
  unfold cutL cutV
  rw [h.length]
  exact (h.drop _).take _
/-- a new list laid as newL says -/
theorem newL_at {mu : Bool} {xs : List D} {vs : List V} {z : D} {M' : Mem} {Q : VK} (r : Rel K ι F rs H M) (rv : RepL K ι F xs vs) (e : newL mu xs M = (z, M'))
    (q : ∀ ι' F' H' u, Le K ι F ι' F' → Rel K ι' F' rs H' M' → Rep K ι' F' z u → Q u H') : ∀ p, H p = none → Q (.ref p) (upd H p (.lst vs)) := fun p hp => by
  unfold newL at e
  cases mu with
  | true =>
    cases e
    exact q (ι ++ [p]) F _ _ Le.push (r.fresh hp rfl ⟨vs, upd_same, RepL.le Le.push rv⟩) ⟨p, rfl, by rw [← r.len]; simp⟩
  | false =>
    cases e
    exact q ι (upd F p (.lst vs)) _ _ (Le.new (r.free hp)) (r.frozen hp) ⟨p, vs, rfl, .inl (.inl upd_same), RepL.le (Le.new (r.free hp)) rv⟩
theorem newK_at {mu : Bool} {kvs : List (Key × D)} {vs : List (Key × V)} {z : D} {M' : Mem} {Q : VK} (r : Rel K ι F rs H M) (m : vs.map (·.1) = kvs.map (·.1)) (rv : RepL K ι F (kvs.map (·.2)) (vs.map (·.2))) (e : newK mu kvs M = (z, M'))
    (q : ∀ ι' F' H' u, Le K ι F ι' F' → Rel K ι' F' rs H' M' → Rep K ι' F' z u → Q u H') : ∀ p, H p = none → Q (.ref p) (upd H p (.dK vs)) := fun p hp => by
  unfold newK at e
  cases mu with
  | true =>
    cases e
    exact q (ι ++ [p]) F _ _ Le.push (r.fresh hp rfl ⟨vs, upd_same, m, RepL.le Le.push rv⟩) ⟨p, rfl, by rw [← r.len]; simp⟩
  | false =>
    cases e
    exact q ι (upd F p (.dK vs)) _ _ (Le.new (r.free hp)) (r.frozen hp) ⟨p, vs, rfl, .inl upd_same, m, RepL.le (Le.new (r.free hp)) rv⟩
def RSl (K : KX) (rs : List (Addr × HO)) (mu : Bool) : V → Option Int → Option Int → Hp → VK → Prop := fun v lo hi H Q => ∃ ι F M x z M', Rel K ι F rs H M ∧ Rep K ι F x v ∧ sliceD mu x lo hi M = some (z, M') ∧ ∀ ι' F' H' u, Le K ι F ι' F' → Rel K ι' F' rs H' M' → Rep K ι' F' z u → Q u H'
theorem s_slice {mu : Bool} : SlR X (RSl (kx X T) rs mu) := SlR.imp (SlR.or sl_list (SlR.or sl_str sl_tupA)) fun v lo hi H Q h => by
  obtain ⟨ι, F, M, x, z, M', r, rx, e, q⟩ := h
  unfold sliceD at e
  split at e
  · split at e
    · rename_i hz
      cases e
      exact .inr (.inl ⟨_, rx, by rw [← line_eq]; exact hz, q ι F H _ Le.refl r rfl⟩)
    · cases e
  · cases e
    obtain ⟨a, vs, rfl, s1, l1⟩ := rx
    refine .inr (.inr ⟨a, vs, rfl, sqt_sub r s1, fun hw => ?_, fun hw p hp => ?_⟩)
    · refine q ι F H _ Le.refl r ⟨a, vs, rfl, s1, ?_⟩
      have e1 := l1.cut lo hi
      have e2 : cutV vs lo hi = vs := by
        unfold cutV
        rw [hw.1, hw.2]
        simp
      rw [e2] at e1
      exact e1
    · exact q ι (upd F p (.tup (cutV vs lo hi))) _ _ (Le.new (r.free hp)) (r.frozen hp) ⟨p, _, rfl, .inl (.inl upd_same), RepL.le (Le.new (r.free hp)) (l1.cut lo hi)⟩
  · obtain ⟨xs, e1, e2⟩ := Option.map_eq_some_iff.mp e
    obtain ⟨a, vs, rfl, s1, l1⟩ := lsOf_at r e1 rx
    exact .inl ⟨a, vs, rfl, s1, newL_at r (l1.cut lo hi) e2 q⟩
theorem d_slice {mu : Bool} {lo hi : Option Expr} {ol oh : SemO} (ha : KE X T W a φ) (hl : KO X T W lo ol) (hh : KO X T W hi oh) : KE X T W (.Subscript a (.Slice lo hi none p2) pos) (eSlice mu φ ol oh) := fun rs => PE.imp (pe_slice (s_slice (mu := mu)) (ha rs) (hl.po rs) (hh.po rs)) fun σ H Q h => by
  obtain ⟨ι, F, st, M, r, rS, p⟩ := h
  refine ⟨ι, F, st, M, r, rS, p.step fun v H1 ι1 F1 M1 x l1 r1 rv p1 => ?_⟩
  refine ⟨ι1, F1, st, M1, r1, rS.le l1, p1.step fun lo' H2 ι2 F2 M2 lo'' l2 r2 e1 p2 => ?_⟩
  refine ⟨ι2, F2, st, M2, r2, (rS.le l1).le l2, p2.step fun hi' H3 ι3 F3 M3 hi'' l3 r3 e2 p3 => ?_⟩
  have e1 : lo' = lo'' := e1
  have e2 : hi' = hi'' := e2
  subst e1 e2
  cases e : sliceD mu x lo' hi' M3 with
  | none => rw [e] at p3; exact p3.elim
  | some z =>
    obtain ⟨z, M'⟩ := z
    rw [e] at p3
    exact ⟨ι3, F3, M3, x, z, M', r3, l3 _ _ (l2 _ _ rv), e, p3⟩
theorem d_rev {mu : Bool} {k : Nat} {p1 p3 : Pos} (ha : KE X T W a φ) : KE X T W (.Subscript a (.Slice none none (some (.UnaryOp .USub (.Constant (.int 1) k p1) p2)) p3) pos) (eRev mu φ) := fun rs => PE.imp (pe_revL (ha rs)) fun σ H Q h => by
  obtain ⟨ι, F, st, M, r, rS, p⟩ := h
  refine ⟨ι, F, st, M, r, rS, p.step fun v H1 ι1 F1 M1 x l1 r1 rv p1 => ?_⟩
  split at p1
  · rename_i xs e1
    obtain ⟨a, vs, rfl, s1, l1⟩ := lsOf_at r1 e1 rv
    exact ⟨a, vs, rfl, s1, newL_at (z := (newL mu xs.reverse M1).1) r1 l1.reverse rfl p1⟩
  · exact p1.elim

/-! ### built-in functions -/
abbrev OL := List D → Mem → Option (D × Mem)
def RC (K : KX) (rs : List (Addr × HO)) (g : OL) : List V → Hp → VK → Prop := fun vs H Q => ∃ ι F M ds z M', Rel K ι F rs H M ∧ RepL K ι F ds vs ∧ g ds M = some (z, M') ∧ ∀ ι' F' H' u, Le K ι F ι' F' → Rel K ι' F' rs H' M' → Rep K ι' F' z u → Q u H'
def eBlt (g : OL) (α : Sem1 (List D)) : Sem1 D := fun s M => (α s M).bind fun ds M1 => ofO (g ds M1)
theorem lg_blt {g : OL} {σ : L2.St} {Q : VK} (h : LE (kx X T) rs W (eBlt g α) σ H Q) : tCB (RC (kx X T) rs g) (LA (kx X T) rs W α) σ H Q := by
  obtain ⟨ι, F, st, M, r, rS, p⟩ := h
  refine ⟨ι, F, st, M, r, rS, p.step fun vs H1 ι1 F1 M1 ds l1 r1 rv p1 => ?_⟩
  cases e : g ds M1 with
  | none => rw [e] at p1; exact p1.elim
  | some z =>
    obtain ⟨z, M'⟩ := z
    rw [e] at p1
    exact ⟨ι1, F1, M1, ds, z, M', r1, rv, e, p1⟩
theorem d_blt {id : String} {x : Str} {p : Pos} {g : OL} (hc : ∀ rs, CallR X (.builtin id) (RC (kx X T) rs g)) (hg : Gl X x) (hm : X.mg x = none) (hv : bootBuiltins x = some (.builtin id)) (hn : x ≠ "__name__") (hdb : (x == ("__debug__" : Str)) = false) (ha : KA X T W (e :: es) α) (h2 : (e :: es).any isStar = false) :
    KE X T W (.Call (.Name x p) (e :: es) [] pos) (eBlt g α) := by
  rw [List.any_cons, Bool.or_eq_false_iff] at h2
  exact fun rs => PE.imp (pe_callB (hc rs) hg hm hv (ha.pa rs) hn hdb (star_cons h2.1) (star_any h2.2)) fun σ H Q h => lg_blt h
theorem d_bty {id : String} {x : Str} {p : Pos} {g : OL} (hc : ∀ rs, CallR X (.type id) (RC (kx X T) rs g)) (hg : Gl X x) (hm : X.mg x = none) (hv : bootBuiltins x = some (.type id)) (hn : x ≠ "__name__") (hdb : (x == ("__debug__" : Str)) = false) (ha : KA X T W (e :: es) α) (h2 : (e :: es).any isStar = false) :
    KE X T W (.Call (.Name x p) (e :: es) [] pos) (eBlt g α) := by
  rw [List.any_cons, Bool.or_eq_false_iff] at h2
  exact fun rs => PE.imp (pe_callTy (hc rs) hg hm hv (ha.pa rs) hn hdb (star_cons h2.1) (star_any h2.2)) fun σ H Q h => lg_blt h
theorem CallR.imp {f : Value} {r r' : List V → Hp → VK → Prop} (h : CallR X f r) (i : ∀ xs H Q, r' xs H Q → r xs H Q) : CallR X f r' := fun pins s σ H xs us Q I rv q => h pins s σ H xs us Q I rv (i _ _ _ q)
theorem one_of {d : D} {vs : List V} (h : RepL K ι F [d] vs) : ∃ v, vs = [v] ∧ Rep K ι F d v := by
  obtain ⟨v, r, rfl, h1, h2⟩ := h
  have e : r = [] := h2
  exact ⟨v, by rw [e], h1⟩
theorem two_of {d d' : D} {vs : List V} (h : RepL K ι F [d, d'] vs) : ∃ v w, vs = [v, w] ∧ Rep K ι F d v ∧ Rep K ι F d' w := by
  obtain ⟨v, r, rfl, h1, h2⟩ := h
  obtain ⟨w, rfl, h3⟩ := one_of h2
  exact ⟨v, w, rfl, h1, h3⟩
def lenC : OL := fun ds M => match ds with
  | [.str x] => if x.length ≤ LINE then some (.int x.length, M) else none
  | [.tup xs] => some (.int xs.length, M)
  | [.ref i] => match M[i]? with
    | some (.lst xs) => some (.int xs.length, M)
    | some (.dic kvs) => some (.int kvs.length, M)
    | some (.fdc kvs) => some (.int kvs.length, M)
    | _ => none
  | [.lst xs] => some (.int xs.length, M)
  | _ => none
theorem call_lenRd : CallR X (.builtin "len") (fun xs H Q => ∃ a kvs, xs = [V.ref a] ∧ Rd H a (.dK kvs) ∧ Q (.int kvs.length) H) := by
  intro pins s σ H xs us Q I r h
  obtain ⟨a, kvs, rfl, ha, q⟩ := h
  obtain ⟨u, rfl, ru⟩ := vals1 r
  cases ru
  exact d_len I ha fun t s' I' => ⟨.int kvs.length, H, I', ⟨t, rfl⟩, q⟩
theorem c_len : CallR X (.builtin "len") (RC (kx X T) rs lenC) := CallR.imp (CallR.or call_len_seq (CallR.or call_len_str call_lenRd)) fun vs H Q h => by
  obtain ⟨ι, F, M, ds, z, M', r, rv, e, q⟩ := h
  unfold lenC at e
  split at e
  · split at e
    · rename_i hz
      cases e
      obtain ⟨v, rfl, h1⟩ := one_of rv
      have h1' := h1
      cases h1'
      exact .inr (.inl ⟨_, rfl, by rw [← line_eq]; exact hz, q ι F H _ Le.refl r rfl⟩)
    · cases e
  · cases e
    obtain ⟨v, rfl, a, ws, rfl, s1, l1⟩ := one_of rv
    exact .inl ⟨a, ws, rfl, .inr (sqt_sub r s1), q ι F H _ Le.refl r (by rw [l1.length] <;> rfl)⟩
  · rename_i i
    split at e
    · rename_i xs hM
      cases e
      obtain ⟨v, rfl, a, rfl, hi⟩ := one_of rv
      obtain ⟨_, ws, h2, h3⟩ := r.obj i _ a hM hi rfl
      exact .inl ⟨a, ws, rfl, .inl (.inl (.inl h2)), q ι F H _ Le.refl r (by rw [h3.length] <;> rfl)⟩
    · rename_i kvs hM
      cases e
      obtain ⟨v, rfl, a, rfl, hi⟩ := one_of rv
      obtain ⟨_, ws, h2, h3, h4⟩ := r.obj i _ a hM hi rfl
      have hl := congrArg List.length h3
      rw [List.length_map, List.length_map] at hl
      exact .inr (.inr ⟨a, ws, rfl, .inl h2, q ι F H _ Le.refl r (by rw [hl] <;> rfl)⟩)
    · rename_i kvs hM
      cases e
      obtain ⟨v, rfl, a, rfl, hi⟩ := one_of rv
      obtain ⟨_, od, ws, h2, h3, h4⟩ := r.obj i _ a hM hi rfl
      have hl := congrArg List.length h3
      rw [List.length_map, List.length_map] at hl
      exact .inr (.inr ⟨a, ws, rfl, .inr ⟨od, h2⟩, q ι F H _ Le.refl r (by rw [hl] <;> rfl)⟩)
    · cases e
  · cases e
    obtain ⟨v, rfl, a, ws, rfl, s1, l1⟩ := one_of rv
    exact .inl ⟨a, ws, rfl, .inl (sql_sub r s1), q ι F H _ Le.refl r (by rw [l1.length] <;> rfl)⟩
  · cases e
def intC : OL := fun ds M => match ds with
  | [.int i] => some (.int i, M)
  | [.bl b] => some (.int (if b then 1 else 0), M)
  | _ => none
theorem c_int : CallR X (.type "int") (RC (kx X T) rs intC) := CallR.imp call_int1 fun vs H Q h => by
  obtain ⟨ι, F, M, ds, z, M', r, rv, e, q⟩ := h
  unfold intC at e
  split at e
  · cases e
    obtain ⟨v, rfl, h1⟩ := one_of rv
    cases h1
    exact .inl ⟨_, rfl, q ι F H _ Le.refl r rfl⟩
  · cases e
    obtain ⟨v, rfl, h1⟩ := one_of rv
    cases h1
    exact .inr ⟨_, rfl, q ι F H _ Le.refl r rfl⟩
  · cases e
def strC : OL := fun ds M => match ds with
  | [.int i] => if i.natAbs.log2 < 1920 then some (.str (toString i), M) else none
  | [.str x] => some (.str x, M)
  | _ => none
theorem c_str : CallR X (.type "str") (RC (kx X T) rs strC) := CallR.imp (CallR.or call_str_int SkE.call_str_str) fun vs H Q h => by
  obtain ⟨ι, F, M, ds, z, M', r, rv, e, q⟩ := h
  unfold strC at e
  split at e
  · split at e
    · rename_i hz
      cases e
      obtain ⟨v, rfl, h1⟩ := one_of rv
      cases h1
      exact .inl ⟨_, rfl, hz, q ι F H _ Le.refl r rfl⟩
    · cases e
  · cases e
    obtain ⟨v, rfl, h1⟩ := one_of rv
    cases h1
    exact .inr ⟨_, rfl, q ι F H _ Le.refl r rfl⟩
  · cases e
def absC : OL := fun ds M => match ds with
  | [.int i] => some (.int (if i < 0 then -i else i), M)
  | _ => none
theorem c_abs : CallR X (.builtin "abs") (RC (kx X T) rs absC) := CallR.imp call_abs fun vs H Q h => by
  obtain ⟨ι, F, M, ds, z, M', r, rv, e, q⟩ := h
  unfold absC at e
  split at e
  · cases e
    obtain ⟨v, rfl, h1⟩ := one_of rv
    cases h1
    exact ⟨_, rfl, q ι F H _ Le.refl r rfl⟩
  · cases e
def maxI : List Int → Int
  | [] => 0
  | [x] => x
  | x :: r => max x (maxI r)
def minI : List Int → Int
  | [] => 0
  | [x] => x
  | x :: r => min x (minI r)
theorem maxI_spec : ∀ {ns : List Int} {m : Int}, m ∈ ns → (∀ y ∈ ns, y ≤ m) → maxI ns = m
  | [], m, h, _ => by cases h
  | [x], m, h, _ => (List.mem_singleton.mp h).symm
  | x :: y :: r, m, h, hm => by
    show max x (maxI (y :: r)) = m
    have hx := hm x List.mem_cons_self
    rcases List.mem_cons.mp h with e | h
    · have hy : maxI (y :: r) ≤ m := by
        have key : ∀ (l : List Int), l ≠ [] → (∀ z ∈ l, z ≤ m) → maxI l ≤ m := by
          intro l
          induction l with
          | nil => intro h; exact absurd rfl h
          | cons a l ih =>
            intro _ hl
            cases l with
            | nil => exact hl a List.mem_cons_self
            | cons b l =>
              have := ih (by simp) fun z hz => hl z (List.mem_cons_of_mem _ hz)
              have := hl a List.mem_cons_self
              show max a (maxI (b :: l)) ≤ m
              omega
        exact key _ (by simp) fun z hz => hm z (List.mem_cons_of_mem _ hz)
      omega
    · have := maxI_spec (ns := y :: r) h fun z hz => hm z (List.mem_cons_of_mem _ hz)
      omega
theorem minI_spec : ∀ {ns : List Int} {m : Int}, m ∈ ns → (∀ y ∈ ns, m ≤ y) → minI ns = m
  | [], m, h, _ => by cases h
  | [x], m, h, _ => (List.mem_singleton.mp h).symm
  | x :: y :: r, m, h, hm => by
    show min x (minI (y :: r)) = m
    have hx := hm x List.mem_cons_self
    rcases List.mem_cons.mp h with e | h
    · have hy : m ≤ minI (y :: r) := by
        have key : ∀ (l : List Int), l ≠ [] → (∀ z ∈ l, m ≤ z) → m ≤ minI l := by
          intro l
          induction l with
          | nil => intro h; exact absurd rfl h
          | cons a l ih =>
            intro _ hl
            cases l with
            | nil => exact hl a List.mem_cons_self
            | cons b l =>
              have := ih (by simp) fun z hz => hl z (List.mem_cons_of_mem _ hz)
              have := hl a List.mem_cons_self
              show m ≤ min a (minI (b :: l))
              omega
        exact key _ (by simp) fun z hz => hm z (List.mem_cons_of_mem _ hz)
      omega
    · have := minI_spec (ns := y :: r) h fun z hz => hm z (List.mem_cons_of_mem _ hz)
      omega
def intK : List Key → Option (List Int)
  | [] => some []
  | .inl i :: r => (intK r).map fun is => i :: is
  | _ => none
theorem intK_map : ∀ {ks : List Key} {ns : List Int}, intK ks = some ns → ks = ns.map Sum.inl
  | [], ns, e => by cases e; rfl
  | .inl i :: r, ns, e => by
    obtain ⟨is, e1, rfl⟩ := Option.map_eq_some_iff.mp e
    rw [intK_map e1] <;> rfl
  | .inr x :: r, ns, e => by cases e
def maxC : OL := fun ds M => match ds with
  | [.int i, .int j] => some (.int (if j > i then j else i), M)
  | [x] => (lsOf M x).bind fun xs => (intsOf xs).bind fun ns => if ns.isEmpty then none else some (.int (maxI ns), M)
  | _ => none
def minC : OL := fun ds M => match ds with
  | [.int i, .int j] => some (.int (if j < i then j else i), M)
  | [x] => match (match x with | .ref i => M[i]? | _ => none) with
    | some (.dic kvs) => (intK (kvs.map (·.1))).bind fun ns => if ns.isEmpty then none else some (.int (minI ns), M)
    | _ => (lsOf M x).bind fun xs => (intsOf xs).bind fun ns => if ns.isEmpty then none else some (.int (minI ns), M)
  | _ => none
theorem pos_of {ns : List Int} (h : ¬ ns.isEmpty = true) : 0 < ns.length := by
  cases ns with
  | nil => exact absurd rfl h
  | cons _ _ => exact Nat.succ_pos _
theorem c_max (hc : X.calm = true) : CallR X (.builtin "max") (RC (kx X T) rs maxC) := CallR.imp (CallR.or (call_max2 hc) (cr_max hc)) fun vs H Q h => by
  obtain ⟨ι, F, M, ds, z, M', r, rv, e, q⟩ := h
  unfold maxC at e
  split at e
  · cases e
    obtain ⟨v, w, rfl, h1, h2⟩ := two_of rv
    cases h1; cases h2
    exact .inl ⟨_, _, rfl, q ι F H _ Le.refl r rfl⟩
  · obtain ⟨xs, e1, e⟩ := Option.bind_eq_some_iff.mp e
    obtain ⟨ns, e2, e⟩ := Option.bind_eq_some_iff.mp e
    split at e
    · cases e
    · rename_i hn
      cases e
      obtain ⟨v, rfl, h1⟩ := one_of rv
      obtain ⟨a, ws, rfl, s1, l1⟩ := lsOf_at r e1 h1
      have z1 := intsOf_rep e2 l1
      subst z1
      exact .inr ⟨a, ns, rfl, s1, pos_of hn, fun m hm hle => q ι F H _ Le.refl r (by rw [maxI_spec hm hle] <;> rfl)⟩
  · cases e
theorem c_min (hc : X.calm = true) : CallR X (.builtin "min") (RC (kx X T) rs minC) := CallR.imp (CallR.or (call_min2 hc) (CallR.or (cr_min hc) (cr_minK hc))) fun vs H Q h => by
  obtain ⟨ι, F, M, ds, z, M', r, rv, e, q⟩ := h
  unfold minC at e
  split at e
  · cases e
    obtain ⟨v, w, rfl, h1, h2⟩ := two_of rv
    cases h1; cases h2
    exact .inl ⟨_, _, rfl, q ι F H _ Le.refl r rfl⟩
  · rename_i x
    obtain ⟨v, rfl, h1⟩ := one_of rv
    split at e
    · rename_i kvs hd
      obtain ⟨ns, e2, e⟩ := Option.bind_eq_some_iff.mp e
      split at e
      · cases e
      · rename_i hn
        cases e
        cases x with
        | ref i =>
          obtain ⟨a, rfl, hi⟩ := h1
          obtain ⟨_, ws, h2, h3, h4⟩ := r.obj i _ a hd hi rfl
          exact .inr (.inr ⟨a, ws, ns, rfl, h2, by rw [h3]; exact intK_map e2, fun z => hn (by rw [z] <;> rfl), fun m hm hle => q ι F H _ Le.refl r (by rw [minI_spec hm hle] <;> rfl)⟩)
        | _ => cases hd
    · obtain ⟨xs, e1, e⟩ := Option.bind_eq_some_iff.mp e
      obtain ⟨ns, e2, e⟩ := Option.bind_eq_some_iff.mp e
      split at e
      · cases e
      · rename_i hn
        cases e
        obtain ⟨a, ws, rfl, s1, l1⟩ := lsOf_at r e1 h1
        have z1 := intsOf_rep e2 l1
        subst z1
        exact .inr (.inl ⟨a, ns, rfl, s1, pos_of hn, fun m hm hle => q ι F H _ Le.refl r (by rw [minI_spec hm hle] <;> rfl)⟩)
  · cases e
def sumC : OL := fun ds M => match ds with
  | [x] => (lsOf M x).bind fun xs => (intsOf xs).map fun ns => (.int ns.sum, M)
  | _ => none
theorem c_sum (hc : X.calm = true) : CallR X (.builtin "sum") (RC (kx X T) rs sumC) := CallR.imp (cr_sum hc) fun vs H Q h => by
  obtain ⟨ι, F, M, ds, z, M', r, rv, e, q⟩ := h
  unfold sumC at e
  split at e
  · obtain ⟨xs, e1, e⟩ := Option.bind_eq_some_iff.mp e
    obtain ⟨ns, e2, e⟩ := Option.map_eq_some_iff.mp e
    cases e
    obtain ⟨v, rfl, h1⟩ := one_of rv
    obtain ⟨a, ws, rfl, s1, l1⟩ := lsOf_at r e1 h1
    have z1 := intsOf_rep e2 l1
    subst z1
    exact ⟨a, ns, rfl, s1, q ι F H _ Le.refl r rfl⟩
  · cases e
def blsOf : List D → Option (List Bool)
  | [] => some []
  | .bl i :: r => (blsOf r).map fun is => i :: is
  | _ => none
theorem blsOf_rep : ∀ {xs : List D} {ns : List Bool} {vs : List V}, blsOf xs = some ns → RepL K ι F xs vs → vs = ns.map V.bl
  | [], ns, vs, e, h => by
    cases e; exact h
  | d :: xs, ns, vs, e, h => by
    obtain ⟨v, r, rfl, h1, h2⟩ := h
    cases d with
    | bl i =>
      obtain ⟨is, e1, rfl⟩ := Option.map_eq_some_iff.mp (show (blsOf xs).map (fun is => i :: is) = some ns from e)
      cases h1
      rw [blsOf_rep e1 h2] <;> rfl
    | _ => cases e
def anyC : OL := fun ds M => match ds with
  | [x] => (lsOf M x).bind fun xs => (blsOf xs).map fun ns => (.bl (ns.any id), M)
  | _ => none
def allC : OL := fun ds M => match ds with
  | [x] => (lsOf M x).bind fun xs => (blsOf xs).map fun ns => (.bl (ns.all id), M)
  | _ => none
theorem c_any (hc : X.calm = true) : CallR X (.builtin "any") (RC (kx X T) rs anyC) := CallR.imp (cr_any hc) fun vs H Q h => by
  obtain ⟨ι, F, M, ds, z, M', r, rv, e, q⟩ := h
  unfold anyC at e
  split at e
  · obtain ⟨xs, e1, e⟩ := Option.bind_eq_some_iff.mp e
    obtain ⟨ns, e2, e⟩ := Option.map_eq_some_iff.mp e
    cases e
    obtain ⟨v, rfl, h1⟩ := one_of rv
    obtain ⟨a, ws, rfl, s1, l1⟩ := lsOf_at r e1 h1
    have z1 := blsOf_rep e2 l1
    subst z1
    exact ⟨a, ns, rfl, s1, q ι F H _ Le.refl r rfl⟩
  · cases e
theorem c_all (hc : X.calm = true) : CallR X (.builtin "all") (RC (kx X T) rs allC) := CallR.imp (cr_all hc) fun vs H Q h => by
  obtain ⟨ι, F, M, ds, z, M', r, rv, e, q⟩ := h
  unfold allC at e
  split at e
  · obtain ⟨xs, e1, e⟩ := Option.bind_eq_some_iff.mp e
    obtain ⟨ns, e2, e⟩ := Option.map_eq_some_iff.mp e
    cases e
    obtain ⟨v, rfl, h1⟩ := one_of rv
    obtain ⟨a, ws, rfl, s1, l1⟩ := lsOf_at r e1 h1
    have z1 := blsOf_rep e2 l1
    subst z1
    exact ⟨a, ns, rfl, s1, q ι F H _ Le.refl r rfl⟩
  · cases e
def sqOf (M : Mem) : D → Option (List D)
  | .tup xs => some xs
  | x => lsOf M x
def listC (mu : Bool) : OL := fun ds M => match ds with
  | [x] => (sqOf M x).map fun xs => newL mu xs M
  | _ => none
theorem sqOf_at {d : D} {v : V} {xs : List D} (r : Rel K ι F rs H M) (e : sqOf M d = some xs) (h : Rep K ι F d v) : ∃ a vs, v = .ref a ∧ (SqL K.fr H a vs ∨ SqT K.fr H a vs) ∧ RepL K ι F xs vs := by
  unfold sqOf at e
  split at e
  · cases e
    obtain ⟨a, ws, rfl, s1, l1⟩ := h
    exact ⟨a, ws, rfl, .inr (sqt_sub r s1), l1⟩
  · obtain ⟨a, ws, rfl, s1, l1⟩ := lsOf_at r e h
    exact ⟨a, ws, rfl, .inl s1, l1⟩
theorem c_list {mu : Bool} : CallR X (.type "list") (RC (kx X T) rs (listC mu)) := CallR.imp call_list_of fun vs H Q h => by
  obtain ⟨ι, F, M, ds, z, M', r, rv, e, q⟩ := h
  unfold listC at e
  split at e
  · obtain ⟨xs, e1, e2⟩ := Option.map_eq_some_iff.mp e
    obtain ⟨v, rfl, h1⟩ := one_of rv
    obtain ⟨a, ws, rfl, s1, l1⟩ := sqOf_at r e1 h1
    exact ⟨a, ws, rfl, s1, newL_at r l1 e2 q⟩
  · cases e
def tupleC : OL := fun ds M => match ds with
  | [x] => (sqOf M x).map fun xs => (.tup xs, M)
  | _ => none
theorem c_tuple : CallR X (.type "tuple") (RC (kx X T) rs tupleC) := CallR.imp call_tuple_of fun vs H Q h => by
  obtain ⟨ι, F, M, ds, z, M', r, rv, e, q⟩ := h
  unfold tupleC at e
  split at e
  · rename_i x
    obtain ⟨xs, e1, e2⟩ := Option.map_eq_some_iff.mp e
    cases e2
    obtain ⟨v, rfl, h1⟩ := one_of rv
    unfold sqOf at e1
    split at e1
    · cases e1
      obtain ⟨a, ws, rfl, s1, l1⟩ := h1
      exact ⟨a, ws, rfl, .inr ⟨sqt_sub r s1, q ι F H _ Le.refl r ⟨a, ws, rfl, s1, l1⟩⟩⟩
    · obtain ⟨a, ws, rfl, s1, l1⟩ := lsOf_at r e1 h1
      exact ⟨a, ws, rfl, .inl ⟨s1, fun p hp => q ι (upd F p (.tup ws)) _ _ (Le.new (r.free hp)) (r.frozen hp) ⟨p, ws, rfl, .inl (.inl upd_same), RepL.le (Le.new (r.free hp)) l1⟩⟩⟩
  · cases e
def dictC (mu : Bool) : OL := fun ds M => match ds with
  | [x] => (dcOf M x).map fun kvs => newK mu kvs M
  | _ => none
theorem c_dict {mu : Bool} : CallR X (.type "dict") (RC (kx X T) rs (dictC mu)) := CallR.imp call_dictD fun vs H Q h => by
  obtain ⟨ι, F, M, ds, z, M', r, rv, e, q⟩ := h
  unfold dictC at e
  split at e
  · obtain ⟨kvs, e1, e2⟩ := Option.map_eq_some_iff.mp e
    obtain ⟨v, rfl, h1⟩ := one_of rv
    obtain ⟨a, ws, rfl, hr, m1, m2⟩ := dcOf_at r e1 h1
    exact ⟨a, ws, rfl, hr, newK_at r m1 m2 e2 q⟩
  · cases e
end
end LD
namespace LD
open PySem PySem.Spec PyProof.Rows L2

mutual
def eqb : D → D → Bool
  | .non, .non => true
  | .bl a, .bl b => a == b
  | .int a, .int b => a == b
  | .str a, .str b => a == b
  | .ty a, .ty b => a == b
  | .lst a, .lst b => eqbL a b
  | .tup a, .tup b => eqbL a b
  | .dic k a, .dic l b => decide (k = l) && eqbL a b
  | .ref a, .ref b => a == b
  | .glb a, .glb b => decide (a = b)
  | _, _ => false
def eqbL : List D → List D → Bool
  | [], [] => true
  | x :: xs, y :: ys => eqb x y && eqbL xs ys
  | _, _ => false
end
mutual
theorem eqb_eq : ∀ a b : D, eqb a b = true → a = b
  | .non, b, h => by cases b <;> first | rfl | (simp [eqb] at h)
  | .bl x, b, h => by cases b <;> first | (simp [eqb] at h; rw [h]) | (simp [eqb] at h)
  | .int x, b, h => by cases b <;> first | (simp [eqb] at h; rw [h]) | (simp [eqb] at h)
  | .str x, b, h => by cases b <;> first | (simp [eqb] at h; rw [h]) | (simp [eqb] at h)
  | .ty x, b, h => by cases b <;> first | (simp [eqb] at h; rw [h]) | (simp [eqb] at h)
  | .ref x, b, h => by cases b <;> first | (simp [eqb] at h; rw [h]) | (simp [eqb] at h)
  | .glb x, b, h => by cases b <;> first | (simp [eqb] at h; rw [h]) | (simp [eqb] at h)
  | .lst xs, b, h => by cases b <;> first | (simp only [eqb] at h; rw [eqbL_eq _ _ h]) | (simp [eqb] at h)
  | .tup xs, b, h => by cases b <;> first | (simp only [eqb] at h; rw [eqbL_eq _ _ h]) | (simp [eqb] at h)
  | .dic ks xs, b, h => by cases b <;> first | (simp only [eqb, Bool.and_eq_true, decide_eq_true_eq] at h; rw [h.1, eqbL_eq _ _ h.2]) | (simp [eqb] at h)
theorem eqbL_eq : ∀ a b : List D, eqbL a b = true → a = b
  | [], b, h => by cases b <;> first | rfl | (simp [eqbL] at h)
  | x :: xs, b, h => by cases b <;> first | (simp only [eqbL, Bool.and_eq_true] at h; rw [eqb_eq _ _ h.1, eqbL_eq _ _ h.2]) | (simp [eqbL] at h)
end
mutual
theorem eqb_refl : ∀ a : D, eqb a a = true
  | .non => rfl
  | .bl x => by simp [eqb]
  | .int x => by simp [eqb]
  | .str x => by simp [eqb]
  | .ty x => by simp [eqb]
  | .ref x => by simp [eqb]
  | .glb x => by simp [eqb]
  | .lst xs => by simp only [eqb]; exact eqbL_refl xs
  | .tup xs => by simp only [eqb]; exact eqbL_refl xs
  | .dic ks xs => by simp only [eqb, Bool.and_eq_true, decide_eq_true_eq]; exact ⟨trivial, eqbL_refl xs⟩
theorem eqbL_refl : ∀ a : List D, eqbL a a = true
  | [] => rfl
  | x :: xs => by simp only [eqbL, Bool.and_eq_true]; exact ⟨eqb_refl x, eqbL_refl xs⟩
end

/-! ### what is walked -/
/-- the items; what must hold of the memory at each turn (a list that may change stays as it is) -/
structure Src where
  xs : List D
  chk : Mem → Bool
structure WalkD (K : KX) (J : It) (src : Src) (okp : List Addr → Hp → Prop) (rq : List (Addr × HO) := []) : Prop where
  mono : ∀ {ι F ι' F'}, Le K ι F ι' F' → okp ι F → okp ι' F'
  go : ∀ {ι F rs H M} {i : Nat}, (∀ p ∈ rq, p ∈ rs) → okp ι F → Rel K ι F rs H M → src.chk M = true → i < src.xs.length → J.go i H
  stop : ∀ {ι F rs H M}, (∀ p ∈ rq, p ∈ rs) → okp ι F → Rel K ι F rs H M → src.chk M = true → J.stop src.xs.length H
  yld : ∀ {ι F rs H M} {i : Nat} {d x H'}, (∀ p ∈ rq, p ∈ rs) → okp ι F → Rel K ι F rs H M → src.chk M = true → src.xs[i]? = some d → J.yld i H x H' → ∃ ι' F', Le K ι F ι' F' ∧ Rel K ι' F' rs H' M ∧ Rep K ι' F' d x
abbrev repI (K : KX) (rs : List (Addr × HO)) : List Addr → Hp → Src → It → Prop := fun ι F src J => ∃ okp rq, WalkD K J src okp rq ∧ (∀ p ∈ rq, p ∈ rs) ∧ okp ι F
theorem repI.mk {K : KX} {rs : List (Addr × HO)} {ι : List Addr} {F : Hp} {src : Src} {J : It} {okp : List Addr → Hp → Prop} (w : WalkD K J src okp) (ok : okp ι F) : repI K rs ι F src J := ⟨okp, [], w, (fun _ h => nomatch h), ok⟩
structure KI (X : Cx) (T : Tab) (W : WX) (tg iter : Expr) (χ : Sem1 Src) : Prop where
  pi : ∀ rs, PI X tg iter (LG (kx X T) rs (repI (kx X T) rs) W χ)
theorem PI.imp {X : Cx} {tg e : Expr} {t t' : TI} (h : PI X tg e t) (i : ∀ σ H Q, t' σ H Q → t σ H Q) : PI X tg e t' := ⟨fun pins s σ H Q I q => h.run pins s σ H Q I (i σ H Q q)⟩
theorem PI.or {X : Cx} {tg e : Expr} {t t' : TI} (h : PI X tg e t) (h' : PI X tg e t') : PI X tg e (fun σ H R => t σ H R ∨ t' σ H R) := ⟨fun pins s σ H Q I q => q.elim (h.run pins s σ H Q I) (h'.run pins s σ H Q I)⟩
/-- the items of a list, a tuple, a text -/
def srcOf (M : Mem) : D → Option Src
  | .lst xs => some ⟨xs, fun _ => true⟩
  | .tup xs => some ⟨xs, fun _ => true⟩
  | .str x => some ⟨x.cps.toList.map fun c => .str ⟨#[c]⟩, fun _ => true⟩
  | .ref i => match M[i]? with
    | some (.lst xs) => some ⟨xs, fun M' => match M'[i]? with
      | some (.lst ys) => eqbL xs ys
      | _ => false⟩
    | _ => none
  | _ => none
def iOf (a : Sem1 D) : Sem1 Src := fun s M => (a s M).bind fun x M1 => match srcOf M1 x with
  | some src => .ok src M1
  | none => .bad
def rangeL (lo : Int) (n : Nat) (c : Int) : List D := (List.range n).map fun i : Nat => .int (lo + (i : Int) * c)
def mid (i : Int) : Bool := match i with
  | .ofNat n => Nat.ble (n + 1) 4611686018427387904
  | .negSucc n => Nat.ble (n + 1) 4611686018427387904
def iRange (a : Sem1 (List D)) : Sem1 Src := fun s M => (a s M).bind fun xs M1 => match xs with
  | [.int n] => if mid n then .ok ⟨rangeL 0 n.toNat 1, fun _ => true⟩ M1 else .bad
  | [.int m, .int n] => if mid m && mid n then .ok ⟨rangeL m (n - m).toNat 1, fun _ => true⟩ M1 else .bad
  | _ => .bad
/-- enumerate -/
def iEnm (a : Sem1 D) : Sem1 Src := fun s M => (a s M).bind fun x M1 => match x with
  | .tup _ => .bad
  | .str _ => .bad
  | x => match srcOf M1 x with
    | some src => .ok ⟨(List.range src.xs.length).zipWith (fun (i : Nat) d => .tup [.int (i : Int), d]) src.xs, src.chk⟩ M1
    | none => .bad
section
variable {X : Cx} {T : Tab} {W : WX} {tg a e : Expr} {es : List Expr} {α : Sem1 (List D)} {φ : Sem1 D} {pos p : Pos} {K : KX} {ι : List Addr} {F H : Hp} {M : Mem} {rs : List (Addr × HO)}
theorem sql_inj {H : Hp} {a : Addr} {xs ys : List V} (h : SqL K.fr H a xs) (h' : SqL K.fr H a ys) (hk : ∀ o, K.fr.lookup a = some o → H a = none) : xs = ys := by
  rcases h with (h | ⟨o, h⟩) | ⟨o, its, n, h1, h2, h3, h4, h5, h6⟩
  · rcases h' with (h' | ⟨o', h'⟩) | ⟨o', its', n', h1', _⟩
    · rw [h] at h'; cases h'; rfl
    · rw [h] at h'; cases h'
    · rw [hk _ h1'] at h; cases h
  · rcases h' with (h' | ⟨o', h'⟩) | ⟨o', its', n', h1', _⟩
    · rw [h] at h'; cases h'
    · rw [h] at h'; cases h'; rfl
    · rw [hk _ h1'] at h; cases h
  · rcases h' with (h' | ⟨o', h'⟩) | ⟨o', its', n', h1', h2', h3', h4', h5', h6'⟩
    · rw [hk _ h1] at h'; cases h'
    · rw [hk _ h1] at h'; cases h'
    · rw [h1] at h1'
      cases h1'
      rw [h4] at h4'
      injection h4' with e1 _
      subst e1
      exact h6.inj h6'
theorem walk_list {a : Addr} {xs : List D} : WalkD K (Itl K.fr a) ⟨xs, fun _ => true⟩ (fun ι F => Rep K ι F (.lst xs) (.ref a)) where
  mono := fun l h => l _ _ h
  go := fun {ι F rs H M i} _ h r _ hi => by
    obtain ⟨a', vs, e, s1, l1⟩ := h
    cases e
    have hl : i < vs.length := by rw [RepL.length l1]; exact hi
    exact ⟨vs, vs[i], sql_sub r s1, List.getElem?_eq_getElem hl⟩
  stop := fun {ι F rs H M} _ h r _ => by
    obtain ⟨a', vs, e, s1, l1⟩ := h
    cases e
    exact ⟨vs, sql_sub r s1, Nat.le_of_eq (RepL.length l1)⟩
  yld := fun {ι F rs H M i d x H'} _ h r _ e y => by
    obtain ⟨a', vs, e1, s1, l1⟩ := h
    cases e1
    obtain ⟨rfl, y⟩ := y
    obtain ⟨v, h1, h2⟩ := RepL.get l1 e
    have q := y vs (sql_sub r s1)
    rw [h1] at q
    cases q
    exact ⟨ι, F, Le.refl, r, h2⟩
theorem walk_tup {a : Addr} {xs : List D} : WalkD K (Itt K.fr a) ⟨xs, fun _ => true⟩ (fun ι F => Rep K ι F (.tup xs) (.ref a)) where
  mono := fun l h => l _ _ h
  go := fun {ι F rs H M i} _ h r _ hi => by
    obtain ⟨a', vs, e, s1, l1⟩ := h
    cases e
    have hl : i < vs.length := by rw [RepL.length l1]; exact hi
    exact ⟨vs, vs[i], sqt_sub r s1, List.getElem?_eq_getElem hl⟩
  stop := fun {ι F rs H M} _ h r _ => by
    obtain ⟨a', vs, e, s1, l1⟩ := h
    cases e
    exact ⟨vs, sqt_sub r s1, Nat.le_of_eq (RepL.length l1)⟩
  yld := fun {ι F rs H M i d x H'} _ h r _ e y => by
    obtain ⟨a', vs, e1, s1, l1⟩ := h
    cases e1
    obtain ⟨rfl, y⟩ := y
    obtain ⟨v, h1, h2⟩ := RepL.get l1 e
    have q := y vs (sqt_sub r s1)
    rw [h1] at q
    cases q
    exact ⟨ι, F, Le.refl, r, h2⟩
def mutChk (i : Nat) (xs : List D) : Mem → Bool := fun M' => match M'[i]? with
  | some (.lst ys) => eqbL xs ys
  | _ => false
theorem mutChk_at {i : Nat} {xs : List D} {M : Mem} (h : mutChk i xs M = true) : M[i]? = some (.lst xs) := by
  unfold mutChk at h
  split at h
  · rename_i ys e
    rw [e, eqbL_eq _ _ h]
  · cases h
theorem walk_mut {a : Addr} {i : Nat} {xs : List D} : WalkD K (Itl K.fr a) ⟨xs, mutChk i xs⟩ (fun ι F => Rep K ι F (.ref i) (.ref a)) where
  mono := fun l h => l _ _ h
  go := fun {ι F rs H M j} _ h r c hi => by
    obtain ⟨a', e, q⟩ := h
    cases e
    obtain ⟨_, vs, h2, h3⟩ := r.obj i _ a (mutChk_at c) q rfl
    have hl : j < vs.length := by rw [RepL.length h3]; exact hi
    exact ⟨vs, vs[j], .inl (.inl h2), List.getElem?_eq_getElem hl⟩
  stop := fun {ι F rs H M} _ h r c => by
    obtain ⟨a', e, q⟩ := h
    cases e
    obtain ⟨_, vs, h2, h3⟩ := r.obj i _ a (mutChk_at c) q rfl
    exact ⟨vs, .inl (.inl h2), Nat.le_of_eq (RepL.length h3)⟩
  yld := fun {ι F rs H M j d x H'} _ h r c e y => by
    obtain ⟨a', e1, q⟩ := h
    cases e1
    obtain ⟨_, vs, h2, h3⟩ := r.obj i _ a (mutChk_at c) q rfl
    obtain ⟨rfl, y⟩ := y
    obtain ⟨v, h1, h4⟩ := RepL.get h3 e
    have z := y vs (.inl (.inl h2))
    rw [h1] at z
    cases z
    exact ⟨ι, F, Le.refl, r, h4⟩
theorem walk_str {x : Str} : WalkD K (Its x) ⟨x.cps.toList.map fun c => .str ⟨#[c]⟩, fun _ => true⟩ (fun _ _ => True) where
  mono := fun _ _ => trivial
  go := fun {ι F rs H M i} _ _ _ _ hi => by
    rw [List.length_map, Array.length_toList] at hi
    exact hi
  stop := fun {ι F rs H M} _ _ _ _ => by
    show x.cps.size ≤ (x.cps.toList.map _).length
    rw [List.length_map, Array.length_toList]
    exact Nat.le_refl _
  yld := fun {ι F rs H M i d v H'} _ _ r _ e y => by
    obtain ⟨rfl, c, hc, rfl⟩ := y
    refine ⟨ι, F, Le.refl, r, ?_⟩
    have e : (x.cps.toList.map fun c => D.str ⟨#[c]⟩)[i]? = some d := e
    rw [List.getElem?_map, Array.getElem?_toList, hc] at e
    cases e
    rfl
theorem walk_range {lo : Int} {n : Nat} : WalkD K (Itr lo n) ⟨rangeL lo n 1, fun _ => true⟩ (fun _ _ => True) where
  mono := fun _ _ => trivial
  go := fun {ι F rs H M i} _ _ _ _ hi => by
    unfold rangeL at hi
    rw [List.length_map, List.length_range] at hi
    exact hi
  stop := fun {ι F rs H M} _ _ _ _ => by
    show n ≤ (rangeL lo n 1).length
    unfold rangeL
    rw [List.length_map, List.length_range]
    exact Nat.le_refl _
  yld := fun {ι F rs H M i d v H'} _ _ r _ e y => by
    obtain ⟨rfl, rfl⟩ := y
    refine ⟨ι, F, Le.refl, r, ?_⟩
    have e : (rangeL lo n 1)[i]? = some d := e
    unfold rangeL at e
    rw [List.getElem?_map] at e
    obtain ⟨j, h1, h2⟩ := Option.map_eq_some_iff.mp e
    have hj : j = i := by
      obtain ⟨h3, h4⟩ := List.getElem?_eq_some_iff.mp h1
      rw [← h4, List.getElem_range]
    subst hj
    rw [← h2, Int.mul_one]
    rfl
theorem ki_of (ha : KE X T W a φ) : KI X T W tg a (iOf φ) := ⟨fun rs => PI.imp (PI.or (pi_list (ha rs)) (PI.or (pi_tup (ha rs)) (pi_str (ha rs)))) fun σ H Q h => by
  obtain ⟨ι, F, st, M, r, rS, p⟩ := h
  cases e : φ st M with
  | ok d M1 =>
    unfold iOf at p
    rw [e] at p
    simp only [R.bind_ok] at p
    have base : ∀ {Q' : VK}, (∀ ι' F' H' v, Le (kx X T) ι F ι' F' → Rel (kx X T) ι' F' rs H' M1 → Rep (kx X T) ι' F' d v → Q' v H') → LE (kx X T) rs W φ σ H Q' := fun {Q'} q => ⟨ι, F, st, M, r, rS, by rw [e]; exact q⟩
    cases d with
    | lst xs =>
      refine .inl (base fun ι1 F1 H1 v l1 r1 rv => ?_)
      obtain ⟨a, vs, rfl, s1, ll⟩ := id rv
      exact ⟨a, rfl, ⟨vs, sql_sub r1 s1⟩, p ι1 F1 H1 _ l1 r1 (repI.mk walk_list rv)⟩
    | tup xs =>
      refine .inr (.inl (base fun ι1 F1 H1 v l1 r1 rv => ?_))
      obtain ⟨a, vs, rfl, s1, ll⟩ := id rv
      exact ⟨a, rfl, ⟨vs, sqt_sub r1 s1⟩, p ι1 F1 H1 _ l1 r1 (repI.mk walk_tup rv)⟩
    | str x =>
      refine .inr (.inr (base fun ι1 F1 H1 v l1 r1 rv => ?_))
      cases rv
      exact ⟨x, rfl, p ι1 F1 H1 _ l1 r1 (repI.mk walk_str trivial)⟩
    | ref i =>
      simp only [srcOf] at p
      split at p
      · rename_i src hsrc
        split at hsrc
        · rename_i xs hM
          cases hsrc
          refine .inl (base fun ι1 F1 H1 v l1 r1 rv => ?_)
          obtain ⟨a, rfl, hi⟩ := id rv
          obtain ⟨_, vs, h2, h3⟩ := r1.obj i _ a hM hi rfl
          exact ⟨a, rfl, ⟨vs, .inl (.inl h2)⟩, p ι1 F1 H1 _ l1 r1 (repI.mk walk_mut rv)⟩
        · cases hsrc
      · exact p.elim
    | _ => exact p.elim
  | er x M1 =>
    refine .inl ⟨ι, F, st, M, r, rS, ?_⟩
    unfold iOf at p
    rw [e] at p ⊢
    exact p
  | bad =>
    unfold iOf at p
    rw [e] at p
    exact p.elim⟩
theorem mid_iff {i : Int} : mid i = true ↔ -(2 ^ 62) ≤ i ∧ i < 2 ^ 62 := by
  unfold mid
  cases i with
  | ofNat n =>
    simp only [Nat.ble_eq, Int.ofNat_eq_natCast]
    omega
  | negSucc n =>
    simp only [Nat.ble_eq, Int.negSucc_eq]
    omega
theorem ki_range1 (hg : Gl X "range") (hm : X.mg "range" = none) (ha : KA X T W [a] α) (hs : isStar a = false) : KI X T W tg (.Call (.Name "range" p) [a] [] pos) (iRange α) := ⟨fun rs => PI.imp (pi_range1 hg hm (ha.pa rs) (by rw [star_cons hs]; rfl)) fun σ H Q h => by
  obtain ⟨ι, F, st, M, r, rS, p⟩ := h
  refine ⟨ι, F, st, M, r, rS, p.stepE fun vs H1 ι1 F1 M1 ds e l1 r1 rv p1 => ?_⟩
  have hl := ha.al _ _ _ _ e
  split at p1
  · split at p1
    · rename_i n hn
      obtain ⟨v, rfl, h1⟩ := one_of rv
      cases h1
      exact ⟨_, rfl, (mid_iff.mp hn).1, (mid_iff.mp hn).2, p1.fin r1 (repI.mk walk_range trivial)⟩
    · exact p1.elim
  · cases hl
  · exact p1.elim⟩
theorem ki_range2 {b : Expr} (hg : Gl X "range") (hm : X.mg "range" = none) (ha : KA X T W [a, b] α) (hs : isStar a = false) (hs2 : isStar b = false) : KI X T W tg (.Call (.Name "range" p) [a, b] [] pos) (iRange α) := ⟨fun rs => PI.imp (pi_range2 hg hm (ha.pa rs) (by rw [star_cons hs, star_cons hs2]; rfl) (by rw [star_cons hs2]; rfl)) fun σ H Q h => by
  obtain ⟨ι, F, st, M, r, rS, p⟩ := h
  refine ⟨ι, F, st, M, r, rS, p.stepE fun vs H1 ι1 F1 M1 ds e l1 r1 rv p1 => ?_⟩
  have hl := ha.al _ _ _ _ e
  split at p1
  · cases hl
  · split at p1
    · rename_i m n hn
      rw [Bool.and_eq_true] at hn
      obtain ⟨v, w, rfl, h1, h2⟩ := two_of rv
      cases h1
      cases h2
      exact ⟨_, _, rfl, ⟨(mid_iff.mp hn.1).1, (mid_iff.mp hn.1).2, (mid_iff.mp hn.2).1, (mid_iff.mp hn.2).2⟩, p1.fin r1 (repI.mk walk_range trivial)⟩
    · exact p1.elim
  · exact p1.elim⟩
end
end LD
namespace LD
open PySem PySem.Spec PyProof.Rows L2

/-! ### targets: names, a row of names -/
abbrev GSem := D → Mem → DS → Option DS
def gNm (i : Nat) : GSem := fun d _ s => some (s.set i (some d))
def setAll {α : Type} : List (Option α) → List Nat → List α → List (Option α)
  | s, i :: is, x :: xs => setAll (s.set i (some x)) is xs
  | s, _, _ => s
def gTp (is : List Nat) : GSem := fun d M s => match sqOf M d with
  | some xs => if xs.length = is.length then some (setAll s is xs) else none
  | none => none
def LGt (K : KX) (rs : List (Addr × HO)) (γ : GSem) (idx : List Nat) : TG := fun v σ H Q => ∃ ι F s M d s', Rel K ι F rs H M ∧ RepS K ι F s σ ∧ Rep K ι F d v ∧ γ d M s = some s' ∧
  ∀ σ', RepS K ι F s' σ' → (∀ vs, (∀ i ∈ idx, i ∈ vs) → wipe σ' vs = wipe σ vs) → Q σ' H
structure KG (X : Cx) (T : Tab) (tg : Expr) (γ : GSem) (idx : List Nat) : Prop where
  pg : ∀ rs, PG X tg (LGt (kx X T) rs γ idx)
theorem PG.imp {X : Cx} {tg : Expr} {t t' : TG} (h : PG X tg t) (i : ∀ v σ H Q, t' v σ H Q → t v σ H Q) : PG X tg t' := ⟨fun pins s σ H v u Q I r q => h.run pins s σ H v u Q I r (i v σ H Q q)⟩
theorem PG.or {X : Cx} {tg : Expr} {t t' : TG} (h : PG X tg t) (h' : PG X tg t') : PG X tg (fun v σ H Q => t v σ H Q ∨ t' v σ H Q) := ⟨fun pins s σ H v u Q I r q => q.elim (h.run pins s σ H v u Q I r) (h'.run pins s σ H v u Q I r)⟩
theorem wipe_in {σ : L2.St} {j : Nat} : ∀ {vs : List Nat}, j ∈ vs → (wipe σ vs)[j]? = (σ[j]?).map fun _ => none
  | v :: vs, h => by
    unfold wipe
    by_cases hv : v = j
    · subst hv
      rw [List.getElem?_set]
      rw [if_pos rfl, wipe_length]
      by_cases hl : v < σ.length
      · rw [if_pos hl, List.getElem?_eq_getElem hl] <;> rfl
      · rw [if_neg hl, List.getElem?_eq_none (Nat.not_lt.mp hl)] <;> rfl
    · rw [List.getElem?_set_ne hv]
      rcases List.mem_cons.mp h with e | h
      · exact absurd e.symm hv
      · exact wipe_in h
theorem wipe_set {σ : L2.St} {i : Nat} {x : Option V} {vs : List Nat} (h : i ∈ vs) : wipe (σ.set i x) vs = wipe σ vs := by
  apply List.ext_getElem?
  intro j
  by_cases hj : j ∈ vs
  · rw [wipe_in hj, wipe_in hj, List.getElem?_set]
    split
    · rename_i e
      subst e
      split
      · rename_i hl
        rw [List.getElem?_eq_getElem hl] <;> rfl
      · rename_i hl
        rw [List.getElem?_eq_none (Nat.not_lt.mp hl)]
    · rfl
  · rw [wipe_out hj, wipe_out hj, List.getElem?_set_ne (fun e => hj (by rw [← e]; exact h))]
section
variable {X : Cx} {T : Tab} {W : WX} {K : KX} {ι : List Addr} {F H : Hp} {M : Mem} {rs : List (Addr × HO)} {s : DS} {σ : L2.St}
theorem RepS.set {i : Nat} {d : D} {v : V} (h : RepS K ι F s σ) (r : Rep K ι F d v) : RepS K ι F (s.set i (some d)) (σ.set i (some v)) :=
  ⟨by rw [List.length_set, List.length_set]; exact h.1, fun j e q => by
    by_cases hj : i = j
    · subst hj
      have hl : i < s.length := by
        have := (List.getElem?_eq_some_iff.mp q).1
        rwa [List.length_set] at this
      rw [List.getElem?_set_self hl] at q
      cases q
      exact ⟨v, List.getElem?_set_self (by rw [h.1]; exact hl), r⟩
    · rw [List.getElem?_set_ne hj] at q
      obtain ⟨u, h1, h2⟩ := h.2 j e q
      exact ⟨u, by rw [List.getElem?_set_ne hj]; exact h1, h2⟩⟩
theorem RepS.setAll : ∀ {is : List Nat} {ds : List D} {vs : List V} {s : DS} {σ : L2.St}, RepS K ι F s σ → RepL K ι F ds vs → RepS K ι F (setAll s is ds) (LD.setAll σ is vs)
  | [], ds, vs, s, σ, h, _ => by
    cases ds <;> cases vs <;> exact h
  | i :: is, [], vs, s, σ, h, r => by
    have e : vs = [] := r
    rw [e]; exact h
  | i :: is, d :: ds, vs, s, σ, h, r => by
    obtain ⟨v, r', rfl, h1, h2⟩ := r
    exact RepS.setAll (is := is) (h.set h1) h2
theorem wipe_setAll : ∀ {is : List Nat} {vs : List V} {σ : L2.St} {ws : List Nat}, (∀ i ∈ is, i ∈ ws) → wipe (LD.setAll σ is vs) ws = wipe σ ws
  | [], vs, σ, ws, _ => by cases vs <;> rfl
  | i :: is, [], σ, ws, _ => rfl
  | i :: is, v :: vs, σ, ws, h => by
    show wipe (LD.setAll (σ.set i (some v)) is vs) ws = wipe σ ws
    rw [wipe_setAll fun j hj => h j (List.mem_cons_of_mem _ hj), wipe_set (h i List.mem_cons_self)]
theorem kg_name {i : Nat} {x : Str} {pos : Pos} (hN : X.N.Nodup) (hi : X.N[i]? = some x) (hx : Loc X.env.scope x) (hf : X.fn x = true ∨ X.env.scope.names.lookup x = some .local) : KG X T (.Name x pos) (gNm i) [i] := ⟨fun rs => PG.imp (pg_name hN hi hx hf) fun v σ H Q h => by
  obtain ⟨ι, F, s, M, d, s', r, rS, rd, e, q⟩ := h
  cases e
  exact q _ (rS.set rd) fun vs hv => wipe_set (hv i (List.mem_singleton.mpr rfl))⟩
/-- names at their places, ready to be stored -/
def NamesOk (X : Cx) : List Expr → List Nat → Prop
  | [], [] => True
  | .Name x _ :: es, i :: is => X.N[i]? = some x ∧ Loc X.env.scope x ∧ (X.fn x = true ∨ X.env.scope.names.lookup x = some .local) ∧ NamesOk X es is
  | _, _ => False
theorem assign_names {env : Env} : ∀ {es : List Expr} {is : List Nat}, NamesOk X es is → (assignEach es env).length = es.length ∧ (assignEach es env).findIdx? (·.1) = none ∧ es.length = is.length
  | [], [], _ => ⟨by simp only [assignEach, List.length_nil], by simp only [assignEach, List.findIdx?_nil], rfl⟩
  | .Name x p :: es, i :: is, h => by
    obtain ⟨a, b, c⟩ := assign_names (env := env) h.2.2.2
    have e : assignEach (.Name x p :: es) env = (false, assign (.Name x p) env) :: assignEach es env := by simp only [assignEach]
    refine ⟨by rw [e, List.length_cons, List.length_cons, a], ?_, by rw [List.length_cons, List.length_cons, c]⟩
    rw [e, List.findIdx?_cons]
    simp only [Bool.false_eq_true, if_false, b, Option.map_none]
  | [], _ :: _, h => h.elim
  | .Name _ _ :: _, [], h => h.elim
theorem pgs_names (hN : X.N.Nodup) : ∀ {es : List Expr} {is : List Nat}, NamesOk X es is → PGs X es (fun vs σ H Q => vs.length = is.length ∧ Q (LD.setAll σ is vs) H)
  | [], [], _ => ⟨fun pins s σ H vs us Q I r h => by
    obtain ⟨e, h⟩ := h
    have e : vs = [] := List.length_eq_zero_iff.mp e
    subst e
    exact pgs_nil.run pins s σ H [] us Q I r ⟨rfl, h⟩⟩
  | .Name x p :: es, i :: is, h => ⟨fun pins s σ H vs us Q I r q => by
    obtain ⟨e, q⟩ := q
    cases vs with
    | nil => cases e
    | cons v vs =>
      exact (pgs_cons (pg_name hN h.1 h.2.1 h.2.2.1) (pgs_names hN h.2.2.2) (by simp only [assignEach, List.map_cons])).run pins s σ H (v :: vs) us Q I r ⟨v, vs, rfl, Nat.succ.inj e, q⟩⟩
  | [], _ :: _, h => h.elim
  | .Name _ _ :: _, [], h => h.elim
theorem kg_tup {es : List Expr} {is : List Nat} {k : Nat} {pos : Pos} (hc : X.calm = true) (hN : X.N.Nodup) (h : NamesOk X es is) : KG X T (.Tuple es k pos) (gTp is) is := ⟨fun rs => by
  obtain ⟨a1, a2, a3⟩ := assign_names (env := X.env) h
  refine PG.imp (PG.or (pg_tup (n := es.length) hc (pgs_names hN h) a1 a2) (pg_lst (n := es.length) hc (pgs_names hN h) a1 a2)) fun v σ H Q h => ?_
  obtain ⟨ι, F, s, M, d, s', r, rS, rd, e, q⟩ := h
  unfold gTp at e
  split at e
  · rename_i xs e1
    split at e
    · rename_i hl
      cases e
      obtain ⟨a, vs, rfl, hs, ll⟩ := sqOf_at r e1 rd
      have z := q _ (rS.setAll (is := is) ll) fun ws hw => wipe_setAll hw
      rcases hs with hs | hs
      · exact .inr ⟨a, vs, rfl, hs, by rw [ll.length, a3]; exact hl, by rw [ll.length]; exact hl, z⟩
      · exact .inl ⟨a, vs, rfl, hs, by rw [ll.length, a3]; exact hl, by rw [ll.length]; exact hl, z⟩
    · cases e
  · cases e⟩
end

/-! ### statements -/
inductive RS where
  | nx (s : DS) (M : Mem) | rt (d : D) (M : Mem) | bk (s : DS) (M : Mem) | ct (s : DS) (M : Mem) | er (x : Exn) (s : DS) (M : Mem) | bad
abbrev SSem := DS → Mem → RS
def bindS {α : Type} (r : R α) (s : DS) (k : α → Mem → RS) : RS := match r with
  | .ok a M => k a M
  | .er x M => .er x s M
  | .bad => .bad
@[simp] theorem bindS_ok {α : Type} {a : α} {M : Mem} {s : DS} {k : α → Mem → RS} : bindS (.ok a M) s k = k a M := rfl
@[simp] theorem bindS_er {α : Type} {x : Exn} {M : Mem} {s : DS} {k : α → Mem → RS} : bindS (.er x M : R α) s k = .er x s M := rfl
def SPost (K : KX) (rs : List (Addr × HO)) (ι : List Addr) (F : Hp) (W : WX) (D : Ends) : RS → Prop
  | .nx s' M' => ∀ ι' F' H' σ', Le K ι F ι' F' → Rel K ι' F' rs H' M' → RepS K ι' F' s' σ' → D.nx σ' H'
  | .rt d M' => ∀ ι' F' H' v, Le K ι F ι' F' → Rel K ι' F' rs H' M' → Rep K ι' F' d v → D.rt v H'
  | .bk s' M' => ∀ ι' F' H' σ', Le K ι F ι' F' → Rel K ι' F' rs H' M' → RepS K ι' F' s' σ' → D.bk σ' H'
  | .ct s' M' => ∀ ι' F' H' σ', Le K ι F ι' F' → Rel K ι' F' rs H' M' → RepS K ι' F' s' σ' → D.ct σ' H'
  | .er x s' M' => ∀ ι' F' H' σ' cls dx, Le K ι F ι' F' → Rel K ι' F' rs H' M' → RepS K ι' F' s' σ' → RepX K ι' F' x cls dx → W cls dx σ' H'
  | .bad => False
def LS (K : KX) (rs : List (Addr × HO)) (W : WX) (ψ : SSem) : TS := fun D σ H => ∃ ι F s M, Rel K ι F rs H M ∧ RepS K ι F s σ ∧ SPost K rs ι F W D (ψ s M)
structure KS (X : Cx) (T : Tab) (W : WX) (st : Stmt) (ψ : SSem) : Prop where
  ps : ∀ rs, PS X st (LS (kx X T) rs W ψ)
structure KB (X : Cx) (T : Tab) (W : WX) (st : List Stmt) (ψ : SSem) : Prop where
  ps : ∀ rs, PSs X st (LS (kx X T) rs W ψ)
section
variable {X : Cx} {T : Tab} {W : WX} {K : KX} {ι ι' : List Addr} {F F' H : Hp} {M : Mem} {rs : List (Addr × HO)} {s : DS} {σ : L2.St} {D : Ends}
theorem SPost.le {r : RS} (l : Le K ι F ι' F') (h : SPost K rs ι F W D r) : SPost K rs ι' F' W D r := by
  cases r with
  | nx s' M' => exact fun a b c d l2 => h a b c d (l.trans l2)
  | rt s' M' => exact fun a b c d l2 => h a b c d (l.trans l2)
  | bk s' M' => exact fun a b c d l2 => h a b c d (l.trans l2)
  | ct s' M' => exact fun a b c d l2 => h a b c d (l.trans l2)
  | er x s' M' => exact fun a b c d e f l2 => h a b c d e f (l.trans l2)
  | bad => exact h
theorem SPost.step {α β : Type} {rep : List Addr → Hp → α → β → Prop} {Q : β → Hp → Prop} {r : R α} {k : α → Mem → RS} (h : SPost K rs ι F W D (bindS r s k)) (rS : RepS K ι F s σ)
    (f : ∀ v H' ι' F' M' a, r = .ok a M' → Le K ι F ι' F' → Rel K ι' F' rs H' M' → rep ι' F' a v → SPost K rs ι' F' W D (k a M') → Q v H') : Post K rs rep ι F (fun c d => W c d σ) Q r := by
  cases r with
  | ok a M1 => exact fun ι1 F1 H1 v l r1 ra => f v H1 ι1 F1 M1 a rfl l r1 ra (SPost.le l h)
  | er x M1 => exact fun ι1 F1 H1 c d l r1 rx => h ι1 F1 H1 σ c d l r1 (rS.le l) rx
  | bad => exact h
/-- the ends are changed -/
theorem SPost.ends {D' : Ends} {r : RS} {r' : RS} (h : SPost K rs ι F W D r') (f : SPost K rs ι F W D r' → SPost K rs ι F W D' r) : SPost K rs ι F W D' r := f h

/-! the statements -/
variable {e tg iter : Expr} {st : Stmt} {body rest orelse : List Stmt} {φ : Sem1 LD.D} {τ : Sem1 Bool} {γ : GSem} {ψ χ : SSem} {pos : Pos} {idx : List Nat}
def sNext : SSem := fun s M => .nx s M
def sSeq (a b : SSem) : SSem := fun s M => match a s M with
  | .nx s' M' => b s' M'
  | r => r
def sExpr (a : Sem1 LD.D) : SSem := fun s M => bindS (a s M) s fun _ M' => .nx s M'
def sRet (a : Sem1 LD.D) : SSem := fun s M => bindS (a s M) s fun d M' => .rt d M'
def sRetN : SSem := fun _ M => .rt .non M
def sIf (t : Sem1 Bool) (a b : SSem) : SSem := fun s M => bindS (t s M) s fun k M' => if k then a s M' else b s M'
def sBk : SSem := fun s M => .bk s M
def sCt : SSem := fun s M => .ct s M
def sAsg (γ : GSem) (a : Sem1 LD.D) : SSem := fun s M => bindS (a s M) s fun d M' => match γ d M' s with
  | some s' => .nx s' M'
  | none => .bad
theorem PS.run' {t : TS} (h : PS X st t) : PS X st t := h
theorem b_nil : KB X T W [] sNext := ⟨fun rs => PSs.imp pss_nil fun D σ H h => by
  obtain ⟨ι, F, s, M, r, rS, p⟩ := h
  exact p ι F H σ Le.refl r rS⟩
theorem b_cons (h1 : KS X T W st ψ) (h2 : KB X T W rest χ) : KB X T W (st :: rest) (sSeq ψ χ) := ⟨fun rs => PSs.imp (pss_cons (h1.ps rs) (h2.ps rs)) fun D σ H h => by
  obtain ⟨ι, F, s, M, r, rS, p⟩ := h
  refine ⟨ι, F, s, M, r, rS, ?_⟩
  unfold sSeq at p
  cases e : ψ s M with
  | nx s' M' =>
    rw [e] at p
    exact fun ι1 F1 H1 σ1 l1 r1 rs1 => ⟨ι1, F1, s', M', r1, rs1, SPost.le l1 p⟩
  | rt d M' => rw [e] at p; exact p
  | bk s' M' => rw [e] at p; exact p
  | ct s' M' => rw [e] at p; exact p
  | er x s' M' => rw [e] at p; exact p
  | bad => rw [e] at p; exact p⟩
theorem s_pass : KS X T W (.Pass pos) sNext := ⟨fun rs => PS.imp ps_pass fun D σ H h => by
  obtain ⟨ι, F, s, M, r, rS, p⟩ := h
  exact p ι F H σ Le.refl r rS⟩
theorem s_break : KS X T W (.Break pos) sBk := ⟨fun rs => PS.imp ps_break fun D σ H h => by
  obtain ⟨ι, F, s, M, r, rS, p⟩ := h
  exact p ι F H σ Le.refl r rS⟩
theorem s_continue : KS X T W (.Continue pos) sCt := ⟨fun rs => PS.imp ps_continue fun D σ H h => by
  obtain ⟨ι, F, s, M, r, rS, p⟩ := h
  exact p ι F H σ Le.refl r rS⟩
theorem s_expr (he : KE X T W e φ) (hs : swapsWith e none pos.line X.env = pure false) : KS X T W (.Expr e pos) (sExpr φ) := ⟨fun rs => PS.imp (ps_expr (he rs) hs) fun D σ H h => by
  obtain ⟨ι, F, s, M, r, rS, p⟩ := h
  exact ⟨ι, F, s, M, r, rS, p.step rS fun v H1 ι1 F1 M1 d _ l1 r1 rv p1 => p1 ι1 F1 H1 σ Le.refl r1 (rS.le l1)⟩⟩
theorem s_ret (he : KE X T W e φ) : KS X T W (.Return (some e) pos) (sRet φ) := ⟨fun rs => PS.imp (ps_ret (he rs)) fun D σ H h => by
  obtain ⟨ι, F, s, M, r, rS, p⟩ := h
  exact ⟨ι, F, s, M, r, rS, p.step rS fun v H1 ι1 F1 M1 d _ l1 r1 rv p1 => p1 ι1 F1 H1 v Le.refl r1 rv⟩⟩
theorem s_retN : KS X T W (.Return none pos) sRetN := ⟨fun rs => PS.imp ps_retN fun D σ H h => by
  obtain ⟨ι, F, s, M, r, rS, p⟩ := h
  exact p ι F H .non Le.refl r rfl⟩
theorem s_if (hc : KT X T W e τ) (ha : KB X T W body ψ) (hb : KB X T W orelse χ) : KS X T W (.If e body orelse pos) (sIf τ ψ χ) := ⟨fun rs => PS.imp (ps_if (hc rs) (ha.ps rs) (hb.ps rs)) fun D σ H h => by
  obtain ⟨ι, F, s, M, r, rS, p⟩ := h
  refine ⟨ι, F, s, M, r, rS, p.step rS fun v H1 ι1 F1 M1 k _ l1 r1 rv p1 => ?_⟩
  have rv' : v = k := rv
  subst rv'
  cases v with
  | true => exact iteT ⟨ι1, F1, s, M1, r1, rS.le l1, p1⟩
  | false => exact iteF ⟨ι1, F1, s, M1, r1, rS.le l1, p1⟩⟩
/-- what was told of the value, then its store -/
theorem asg_core (h : LS (kx X T) rs W (sAsg γ φ) D σ H) : LE (kx X T) rs W φ σ H fun v H1 => LGt (kx X T) rs γ idx v σ H1 D.nx := by
  obtain ⟨ι, F, s, M, r, rS, p⟩ := h
  refine ⟨ι, F, s, M, r, rS, p.step rS fun v H1 ι1 F1 M1 d _ l1 r1 rv p1 => ?_⟩
  split at p1
  · rename_i s' e
    exact ⟨ι1, F1, s, M1, d, s', r1, rS.le l1, rv, e, fun σ' rs' _ => p1 ι1 F1 H1 σ' Le.refl r1 rs'⟩
  · exact p1.elim
theorem s_asg (he : KE X T W e φ) (hg : KG X T tg γ idx) (hs : swapsWithSole [tg] e pos.line X.env = pure false) (hw : swappedStores [tg] e X.env = pure none) (h1 : (assignEach [tg] X.env).map (·.2) = [assign tg X.env]) :
    KS X T W (.Assign [tg] e pos) (sAsg γ φ) := ⟨fun rs => PS.imp (ps_asg (he rs) (hg.pg rs) hs hw h1) fun D σ H h => asg_core h⟩

/-! ### for -/
def forV (chk : Mem → Bool) (γ : GSem) (ψ : SSem) : List LD.D → SSem
  | [], s, M => if chk M then .nx s M else .bad
  | x :: xs, s, M => if chk M then (match γ x M s with
    | some s1 => match ψ s1 M with
      | .nx s2 M2 => forV chk γ ψ xs s2 M2
      | .ct s2 M2 => forV chk γ ψ xs s2 M2
      | .bk s2 M2 => .nx s2 M2
      | r => r
    | none => .bad) else .bad
def sFor (χ : Sem1 Src) (γ : GSem) (ψ : SSem) : SSem := fun s M => bindS (χ s M) s fun src M1 => forV src.chk γ ψ src.xs s M1
theorem s_for {χ : Sem1 Src} (hp : PassesOwn (model X.prog X.w) X.A X.env X.xe) (hc : X.calm = true) (hi : KI X T W tg iter χ) (hg : KG X T tg γ idx) (hb : KB X T W body ψ) (hs : ∀ x, foldedSetIterable iter X.env x = pure x) :
    KS X T W (.For tg iter body [] pos) (sFor χ γ ψ) := ⟨fun rs => PS.imp (ps_for hp hc (hi.pi rs) (hg.pg rs) (hb.ps rs) hs) fun D σ H h => by
  obtain ⟨ι, F, s, M, r, rS, p⟩ := h
  refine ⟨ι, F, s, M, r, rS, p.step rS fun J H1 ι1 F1 M1 src _ l1 r1 rj p1 => ?_⟩
  obtain ⟨okp, rq, w, hrq, ok⟩ := rj
  refine ⟨fun i m σ' H' => m = src.xs.length - i ∧ i ≤ src.xs.length ∧ ∃ ι2 F2 s2 M2, okp ι2 F2 ∧ Rel (kx X T) ι2 F2 rs H' M2 ∧ RepS (kx X T) ι2 F2 s2 σ' ∧ SPost (kx X T) rs ι2 F2 W D (forV src.chk γ ψ (src.xs.drop i) s2 M2),
    ⟨_, rfl, Nat.zero_le _, ι1, F1, s, M1, ok, r1, rS.le l1, by rw [List.drop_zero]; exact p1⟩, ?_⟩
  rintro i m σ' H' ⟨rfl, hi, ι2, F2, s2, M2, ok2, r2, rS2, p2⟩
  by_cases hlt : i < src.xs.length
  · rw [List.drop_eq_getElem_cons hlt] at p2
    unfold forV at p2
    split at p2
    · rename_i hch
      refine .inr ⟨w.go hrq ok2 r2 hch hlt, fun σ3 H3 => ∃ m', m' < src.xs.length - i ∧ (m' = src.xs.length - (i + 1) ∧ i + 1 ≤ src.xs.length ∧ ∃ ι4 F4 s4 M4, okp ι4 F4 ∧ Rel (kx X T) ι4 F4 rs H3 M4 ∧ RepS (kx X T) ι4 F4 s4 σ3 ∧ SPost (kx X T) rs ι4 F4 W D (forV src.chk γ ψ (src.xs.drop (i + 1)) s4 M4)),
        fun σ3 H3 ⟨m', hm, z⟩ => ⟨m', hm, z⟩, fun x H3 y => ?_⟩
      obtain ⟨ι3, F3, l3, r3, rx⟩ := w.yld hrq ok2 r2 hch (List.getElem?_eq_getElem hlt) y
      split at p2
      · rename_i s3 eg
        refine ⟨ι3, F3, s2, M2, _, s3, r3, rS2.le l3, rx, eg, fun σ4 rs4 _ => ⟨ι3, F3, s3, M2, r3, rs4, ?_⟩⟩
        have go : ∀ {ι5 F5 H5 σ5 s5 M5}, Le (kx X T) ι3 F3 ι5 F5 → Rel (kx X T) ι5 F5 rs H5 M5 → RepS (kx X T) ι5 F5 s5 σ5 → SPost (kx X T) rs ι2 F2 W D (forV src.chk γ ψ (src.xs.drop (i + 1)) s5 M5) →
            ∃ m', m' < src.xs.length - i ∧ (m' = src.xs.length - (i + 1) ∧ i + 1 ≤ src.xs.length ∧ ∃ ι4 F4 s4 M4, okp ι4 F4 ∧ Rel (kx X T) ι4 F4 rs H5 M4 ∧ RepS (kx X T) ι4 F4 s4 σ5 ∧ SPost (kx X T) rs ι4 F4 W D (forV src.chk γ ψ (src.xs.drop (i + 1)) s4 M4)) :=
          fun l5 r5 rs5 p5 => ⟨src.xs.length - (i + 1), by omega, rfl, hlt, _, _, _, _, w.mono (l3.trans l5) ok2, r5, rs5, SPost.le (l3.trans l5) p5⟩
        cases eb : ψ s3 M2 with
        | nx s5 M5 => rw [eb] at p2; exact fun ι5 F5 H5 σ5 l5 r5 rs5 => go l5 r5 rs5 p2
        | ct s5 M5 => rw [eb] at p2; exact fun ι5 F5 H5 σ5 l5 r5 rs5 => go l5 r5 rs5 p2
        | bk s5 M5 => rw [eb] at p2; exact fun ι5 F5 H5 σ5 l5 r5 rs5 => p2 ι5 F5 H5 σ5 (l3.trans l5) r5 rs5
        | rt d M5 => rw [eb] at p2; exact fun ι5 F5 H5 v l5 r5 rv5 => p2 ι5 F5 H5 v (l3.trans l5) r5 rv5
        | er x s5 M5 => rw [eb] at p2; exact fun ι5 F5 H5 σ5 c d l5 r5 rs5 rx5 => p2 ι5 F5 H5 σ5 c d (l3.trans l5) r5 rs5 rx5
        | bad => rw [eb] at p2; exact p2
      · exact p2.elim
    · exact p2.elim
  · have ei : i = src.xs.length := by omega
    subst ei
    rw [List.drop_length] at p2
    unfold forV at p2
    split at p2
    · rename_i hch
      exact .inl ⟨w.stop hrq ok2 r2 hch, p2 ι2 F2 H' σ' Le.refl r2 rS2⟩
    · exact p2.elim⟩

/-! ### while: at most n turns -/
def whileN (τ : Sem1 Bool) (ψ : SSem) : Nat → SSem
  | 0, _, _ => .bad
  | n + 1, s, M => bindS (τ s M) s fun k M1 => if k then (match ψ s M1 with
    | .nx s2 M2 => whileN τ ψ n s2 M2
    | .ct s2 M2 => whileN τ ψ n s2 M2
    | .bk s2 M2 => .nx s2 M2
    | r => r) else .nx s M1
theorem s_while {n : Nat} (hp : PassesOwn (model X.prog X.w) X.A X.env X.xe) (hc : KT X T W e τ) (hb : KB X T W body ψ) : KS X T W (.While e body [] pos) (whileN τ ψ n) := ⟨fun rs => PS.imp (ps_while hp (hc rs) (hb.ps rs)) fun D σ H h => by
  obtain ⟨ι, F, s, M, r, rS, p⟩ := h
  refine ⟨fun m σ' H' => ∃ ι2 F2 s2 M2, Rel (kx X T) ι2 F2 rs H' M2 ∧ RepS (kx X T) ι2 F2 s2 σ' ∧ SPost (kx X T) rs ι2 F2 W D (whileN τ ψ m s2 M2), ⟨n, ι, F, s, M, r, rS, p⟩, ?_⟩
  rintro m σ' H' ⟨ι2, F2, s2, M2, r2, rS2, p2⟩
  cases m with
  | zero => exact p2.elim
  | succ m =>
    unfold whileN at p2
    refine ⟨ι2, F2, s2, M2, r2, rS2, p2.step rS2 fun v H3 ι3 F3 M3 k _ l3 r3 rv p3 => ?_⟩
    have rv' : v = k := rv
    subst rv'
    cases v with
    | false => exact iteF (p3 ι3 F3 H3 σ' Le.refl r3 (rS2.le l3))
    | true =>
      refine iteT ⟨fun σ5 H5 => ∃ ι4 F4 s4 M4, Rel (kx X T) ι4 F4 rs H5 M4 ∧ RepS (kx X T) ι4 F4 s4 σ5 ∧ SPost (kx X T) rs ι4 F4 W D (whileN τ ψ m s4 M4), fun σ5 H5 z => ⟨m, Nat.lt_succ_self _, z⟩, ι3, F3, s2, M3, r3, rS2.le l3, ?_⟩
      rw [if_pos rfl] at p3
      cases eb : ψ s2 M3 with
      | nx s5 M5 => rw [eb] at p3; exact fun ι5 F5 H5 σ5 l5 r5 rs5 => ⟨ι5, F5, s5, M5, r5, rs5, SPost.le l5 p3⟩
      | ct s5 M5 => rw [eb] at p3; exact fun ι5 F5 H5 σ5 l5 r5 rs5 => ⟨ι5, F5, s5, M5, r5, rs5, SPost.le l5 p3⟩
      | bk s5 M5 => rw [eb] at p3; exact fun ι5 F5 H5 σ5 l5 r5 rs5 => p3 ι5 F5 H5 σ5 l5 r5 rs5
      | rt d M5 => rw [eb] at p3; exact fun ι5 F5 H5 v l5 r5 rv5 => p3 ι5 F5 H5 v l5 r5 rv5
      | er x s5 M5 => rw [eb] at p3; exact fun ι5 F5 H5 σ5 c d l5 r5 rs5 rx5 => p3 ι5 F5 H5 σ5 c d l5 r5 rs5 rx5
      | bad => rw [eb] at p3; exact p3⟩
end
end LD
namespace LD
open PySem PySem.Spec PyProof.Rows L2

section
variable {K : KX} {ι : List Addr} {F H : Hp} {M : Mem} {rs : List (Addr × HO)} {p : Addr} {o o' : HO}
theorem Rel.reserve (r : Rel K ι F rs H M) (h : H p = none) : Rel K ι F ((p, o) :: rs) (upd H p o) M where
  len := r.len
  sub := fun b u e => by
    have hb : b ≠ p := ne_of_none (r.sub _ _ e) h
    rw [upd_ne hb]; exact r.sub _ _ e
  obj := fun i u a h1 h2 h3 => by
    obtain ⟨f0, ro⟩ := r.obj i u a h1 h2 h3
    have hap : a ≠ p := fun e => by
      obtain ⟨x, hx⟩ := ro.some h3
      rw [e, h] at hx
      cases hx
    exact ⟨f0, ro.at (upd_ne hap)⟩
  inj := r.inj
  there := fun i a e => by
    obtain ⟨x, hx, hb⟩ := r.there i a e
    exact ⟨x, by rw [upd_ne (ne_of_none hx h)]; exact hx, hb⟩
  rsv := fun q hq => by
    rcases List.mem_cons.mp hq with rfl | hq
    · refine ⟨upd_same, r.free h, fun i e => ?_⟩
      obtain ⟨x, hx, _⟩ := r.there i _ e
      rw [h] at hx
      cases hx
    · obtain ⟨r1, r2, r3⟩ := r.rsv q hq
      exact ⟨by rw [upd_ne (ne_of_none r1 h)]; exact r1, r2, r3⟩
  lck := fun i a k h1 h2 => let ⟨o, z⟩ := r.lck i a k h1 h2; ⟨o, List.mem_cons_of_mem _ z⟩
theorem Rel.rewr (r : Rel K ι F ((p, o) :: rs) H M) (hp : ∀ q ∈ rs, q.1 ≠ p) (nf : fzB o = false := by rfl) : Rel K ι F ((p, o') :: rs) (upd H p o') M where
  len := r.len
  sub := fun b u e => by
    have hb : b ≠ p := fun q => by
      rw [q, (r.rsv _ List.mem_cons_self).2.1] at e
      cases e
    rw [upd_ne hb]; exact r.sub _ _ e
  obj := fun i u a h1 h2 h3 => by
    obtain ⟨f0, ro⟩ := r.obj i u a h1 h2 h3
    have hap : a ≠ p := fun e => r.rsvN List.mem_cons_self nf i (by rw [← e]; exact h2)
    exact ⟨f0, ro.at (upd_ne hap)⟩
  inj := r.inj
  there := fun i a e => by
    obtain ⟨x, hx, hb⟩ := r.there i a e
    have hap : a ≠ p := fun z => r.rsvN List.mem_cons_self nf i (by rw [← z]; exact e)
    exact ⟨x, by rw [upd_ne hap]; exact hx, hb⟩
  rsv := fun q hq => by
    rcases List.mem_cons.mp hq with rfl | hq
    · obtain ⟨r1, r2, r3⟩ := r.rsv _ List.mem_cons_self
      exact ⟨upd_same, r2, r3⟩
    · obtain ⟨r1, r2, r3⟩ := r.rsv q (List.mem_cons_of_mem _ hq)
      exact ⟨by rw [upd_ne (hp q hq)]; exact r1, r2, r3⟩
  lck := fun i a k h1 h2 => by
    obtain ⟨u, z⟩ := r.lck i a k h1 h2
    rcases List.mem_cons.mp z with z | z
    · cases z
      exact ⟨o', List.mem_cons_self⟩
    · exact ⟨u, List.mem_cons_of_mem _ z⟩
theorem Rel.unresF (r : Rel K ι F ((p, o) :: rs) H M) (hp : ∀ q ∈ rs, q.1 ≠ p) (nf : fzB o = false := by rfl) : Rel K ι (upd F p o) rs H M where
  len := r.len
  sub := fun b u e => by
    by_cases hb : b = p
    · subst hb
      rw [upd_same] at e
      rw [← e]
      exact (r.rsv _ List.mem_cons_self).1
    · rw [upd_ne hb] at e
      exact r.sub _ _ e
  obj := fun i u a h1 h2 h3 => by
    obtain ⟨f0, ro⟩ := r.obj i u a h1 h2 h3
    have hap : a ≠ p := fun e => r.rsvN List.mem_cons_self nf i (by rw [← e]; exact h2)
    exact ⟨by rw [upd_ne hap]; exact f0, ro.le (Le.new (r.rsv _ List.mem_cons_self).2.1)⟩
  inj := r.inj
  there := r.there
  rsv := fun q hq => by
    obtain ⟨r1, r2, r3⟩ := r.rsv q (List.mem_cons_of_mem _ hq)
    exact ⟨r1, by rw [upd_ne (hp q hq)]; exact r2, r3⟩
  lck := fun i a k h1 h2 => by
    obtain ⟨u, z⟩ := r.lck i a k h1 h2
    rcases List.mem_cons.mp z with z | z
    · cases z
      exact absurd h2 (r.rsvN List.mem_cons_self nf i)
    · exact ⟨u, z⟩
theorem Rel.unresM (r : Rel K ι F ((p, o) :: rs) H M) (hp : ∀ q ∈ rs, q.1 ≠ p) {u : DO} (ho : RepO K (ι ++ [p]) F H p u) (nf : fzB o = false := by rfl) (hu : u.wr = true := by rfl) : Rel K (ι ++ [p]) F rs H (M ++ [u]) where
  len := by rw [List.length_append, List.length_append, r.len] <;> rfl
  sub := r.sub
  obj := fun i v a h1 h2 h3 => by
    by_cases hi : i < M.length
    · rw [List.getElem?_append_left hi] at h1
      rw [List.getElem?_append_left (by rw [r.len]; exact hi)] at h2
      obtain ⟨f0, ro⟩ := r.obj i v a h1 h2 h3
      exact ⟨f0, ro.le Le.push⟩
    · have hl : i < (M ++ [u]).length := (List.getElem?_eq_some_iff.mp h1).1
      have hi' : i = M.length := by rw [List.length_append, List.length_singleton] at hl; omega
      subst hi'
      have e1 : u = v := by simpa using h1
      rw [← r.len] at h2
      have e2 : p = a := by simpa using h2
      subst e1; subst e2
      exact ⟨(r.rsv _ List.mem_cons_self).2.1, ho⟩
  inj := fun i j a h1 h2 => by
    have old : ∀ (k : Nat), k < M.length → (ι ++ [p])[k]? = some a → ι[k]? = some a ∧ a ≠ p := fun k hk q => by
      rw [List.getElem?_append_left (by rw [r.len]; exact hk)] at q
      exact ⟨q, fun z => r.rsvN List.mem_cons_self nf k (by rw [← z]; exact q)⟩
    have last : ∀ (k : Nat), ¬ k < M.length → (ι ++ [p])[k]? = some a → k = M.length ∧ a = p := fun k hk q => by
      have hl : k < (ι ++ [p]).length := (List.getElem?_eq_some_iff.mp q).1
      have hk' : k = M.length := by rw [List.length_append, List.length_singleton, r.len] at hl; omega
      rw [hk', ← r.len] at q
      have q' : p = a := by simpa using q
      exact ⟨hk', q'.symm⟩
    by_cases hi : i < M.length
    · obtain ⟨q1, na⟩ := old i hi h1
      by_cases hj : j < M.length
      · exact r.inj i j a q1 (old j hj h2).1
      · exact absurd (last j hj h2).2 na
    · obtain ⟨ei, ea⟩ := last i hi h1
      by_cases hj : j < M.length
      · exact absurd ea (old j hj h2).2
      · rw [ei, (last j hj h2).1]
  there := fun i a e => by
    by_cases hi : i < M.length
    · rw [List.getElem?_append_left (by rw [r.len]; exact hi)] at e
      exact r.there i a e
    · have hl : i < (ι ++ [p]).length := (List.getElem?_eq_some_iff.mp e).1
      have hk' : i = M.length := by rw [List.length_append, List.length_singleton, r.len] at hl; omega
      rw [hk', ← r.len] at e
      have q' : p = a := by simpa using e
      exact ⟨o, by rw [← q']; exact (r.rsv _ List.mem_cons_self).1, ho.nxd hu (r.rsv _ List.mem_cons_self).1⟩
  rsv := fun q hq => by
    obtain ⟨r1, r2, r3⟩ := r.rsv q (List.mem_cons_of_mem _ hq)
    refine ⟨r1, r2, fun i e => ?_⟩
    by_cases hi : i < M.length
    · rw [List.getElem?_append_left (by rw [r.len]; exact hi)] at e
      obtain ⟨k, z⟩ := r3 i e
      exact ⟨k, by rw [List.getElem?_append_left hi]; exact z⟩
    · have hl : i < (ι ++ [p]).length := (List.getElem?_eq_some_iff.mp e).1
      have hk' : i = M.length := by rw [List.length_append, List.length_singleton, r.len] at hl; omega
      rw [hk', ← r.len] at e
      have q' : p = q.1 := by simpa using e
      exact absurd q'.symm (hp q hq)
  lck := fun i a k h1 h2 => by
    by_cases hi : i < M.length
    · rw [List.getElem?_append_left hi] at h1
      rw [List.getElem?_append_left (by rw [r.len]; exact hi)] at h2
      obtain ⟨w, z⟩ := r.lck i a k h1 h2
      rcases List.mem_cons.mp z with z | z
      · cases z
        exact absurd h2 (r.rsvN List.mem_cons_self nf i)
      · exact ⟨w, z⟩
    · have hl : i < (M ++ [u]).length := (List.getElem?_eq_some_iff.mp h1).1
      have hi' : i = M.length := by rw [List.length_append, List.length_singleton] at hl; omega
      subst hi'
      have e1 : u = .fdc k := by simpa using h1
      rw [e1] at hu
      cases hu
end

/-! ### list comprehensions -/
def WN : WX := fun _ _ _ _ => False
def wipeD (s : DS) : List Nat → DS
  | [] => s
  | v :: vs => (wipeD s vs).set v none
def compV (chk : Mem → Bool) (γ : GSem) (τ : Sem1 Bool) (φ : Sem1 D) (s : DS) : List D → Mem → R (List D)
  | [], M => if chk M then .ok [] M else .bad
  | x :: xs, M => if chk M then (match γ x M s with
    | some s1 => match τ s1 M with
      | .ok b M1 => if b then (match φ s1 M1 with
        | .ok y M2 => (compV chk γ τ φ s xs M2).bind fun ys M3 => .ok (y :: ys) M3
        | _ => .bad) else compV chk γ τ φ s xs M1
      | _ => .bad
    | none => .bad) else .bad
def finL (mu : Bool) (xs : List D) (M : Mem) : R D := .ok (newL mu xs M).1 (newL mu xs M).2
def eComp (mu : Bool) (χ : Sem1 Src) (γ : GSem) (τ : Sem1 Bool) (φ : Sem1 D) (own : List Nat) : Sem1 D := fun s M => (χ s M).bind fun src M1 => if src.xs.length ≤ LINE then (compV src.chk γ τ φ (wipeD s own) src.xs M1).bind fun ys M2 => finL mu ys M2 else .bad
def tTrue : Sem1 Bool := fun _ M => .ok true M
structure KTs (X : Cx) (T : Tab) (W : WX) (ifs : List Expr) (τ : Sem1 Bool) : Prop where
  pt : ∀ rs, PTs X ifs (LT (kx X T) rs W τ)
section
variable {X : Cx} {T : Tab} {W : WX} {K : KX} {ι ι' : List Addr} {F F' H : Hp} {M : Mem} {rs : List (Addr × HO)} {s : DS} {σ : L2.St}
theorem RepS.unset {i : Nat} (h : RepS K ι F s σ) : RepS K ι F (s.set i none) (σ.set i none) :=
  ⟨by rw [List.length_set, List.length_set]; exact h.1, fun j e q => by
    by_cases hj : i = j
    · subst hj
      have hl : i < s.length := by
        have := (List.getElem?_eq_some_iff.mp q).1
        rwa [List.length_set] at this
      rw [List.getElem?_set_self hl] at q
      cases q
    · rw [List.getElem?_set_ne hj] at q
      obtain ⟨u, h1, h2⟩ := h.2 j e q
      exact ⟨u, by rw [List.getElem?_set_ne hj]; exact h1, h2⟩⟩
theorem RepS.wipe (h : RepS K ι F s σ) : ∀ vs : List Nat, RepS K ι F (wipeD s vs) (L2.wipe σ vs)
  | [] => h
  | v :: vs => (h.wipe vs).unset
theorem wipe_wipe {vs : List Nat} : L2.wipe (L2.wipe σ vs) vs = L2.wipe σ vs := by
  apply List.ext_getElem?
  intro j
  by_cases hj : j ∈ vs
  · rw [wipe_in hj, wipe_in hj]
    cases σ[j]? <;> rfl
  · rw [wipe_out hj]
theorem kts_nil : KTs X T W [] tTrue := ⟨fun rs => ⟨fun pins s σ H Q I h => by
  obtain ⟨ι, F, st, M, r, rS, p⟩ := h
  exact pts_nil.run pins s σ H Q I (p.fin r rfl)⟩⟩
theorem kts_one {c : Expr} {τ : Sem1 Bool} (h : KT X T W c τ) : KTs X T W [c] τ := ⟨fun rs => pts_one (h rs)⟩
theorem finL_at {mu : Bool} {ds : List D} {vs : List V} {D : Addr} {Q : VK} {W' : Value → Option Addr → Hp → Prop} (r : Rel K ι F ((D, .lst vs) :: rs) H M) (hp : ∀ q ∈ rs, q.1 ≠ D) (rv : RepL K ι F ds vs) (p : Post K rs (repD K) ι F W' Q (finL mu ds M)) : Q (.ref D) H := by
  have h0 := (r.rsv _ List.mem_cons_self).1
  cases mu with
  | true =>
    exact p (ι ++ [D]) F H _ Le.push (r.unresM hp (u := .lst ds) ⟨vs, h0, RepL.le Le.push rv⟩) ⟨D, rfl, by rw [← r.len]; simp⟩
  | false =>
    exact p ι (upd F D (.lst vs)) H _ (Le.new (r.rsv _ List.mem_cons_self).2.1) (r.unresF hp) ⟨D, vs, rfl, .inl (.inl upd_same), RepL.le (Le.new (r.rsv _ List.mem_cons_self).2.1) rv⟩
abbrev exE (f : List (Addr × HO) → TE) : TE := fun σ H Q => ∃ rs, f rs σ H Q
theorem lc_sem {mu : Bool} {χ : Sem1 Src} {γ : GSem} {idx : List Nat} {τ : Sem1 Bool} {φ : Sem1 LD.D} {own : List Nat} {Q : VK} (hsub : ∀ i ∈ idx, i ∈ own) (h : LE K rs W (eComp mu χ γ τ φ own) σ H Q) :
    tLc (LG K rs (repI K rs) W χ) (fun v σ H Q => ∃ rs, LGt K rs γ idx v σ H Q) (fun σ H Q => ∃ rs, LT K rs WN τ σ H Q) (fun σ H Q => ∃ rs, LE K rs WN φ σ H Q) own σ H Q := by
  obtain ⟨ι, F, s, M, r, rS, p⟩ := h
  refine ⟨ι, F, s, M, r, rS, p.step fun J H1 ι1 F1 M1 src l1 r1 rj p1 => ?_⟩
  obtain ⟨okp, rq, w, hrq0, ok⟩ := rj
  split at p1
  · rename_i hlen
    intro D hD
    have hrq : ∀ (o : HO), ∀ p ∈ rq, p ∈ (D, o) :: rs := fun o p hp => List.mem_cons_of_mem _ (hrq0 p hp)
    have hp : ∀ q ∈ rs, q.1 ≠ D := fun q hq e => by
      have z := (r1.rsv q hq).1
      rw [e, hD] at z
      cases z
    refine ⟨fun i m H' => m = src.xs.length - i ∧ i ≤ src.xs.length ∧ ∃ ι2 F2 M2 ds vs, okp ι2 F2 ∧ ds.length ≤ i ∧ Rel K ι2 F2 ((D, .lst vs) :: rs) H' M2 ∧ RepL K ι2 F2 ds vs ∧ RepS K ι2 F2 (wipeD s own) (L2.wipe σ own) ∧
      Post K rs (repD K) ι2 F2 (fun c d => W c d σ) Q ((compV src.chk γ τ φ (wipeD s own) (src.xs.drop i) M2).bind fun ys M3 => finL mu (ds ++ ys) M3),
      ⟨_, rfl, Nat.zero_le _, ι1, F1, M1, [], [], ok, Nat.le_refl _, r1.reserve hD, rfl, (rS.le l1).wipe own, by rw [List.drop_zero]; exact p1⟩, ?_⟩
    rintro i m H' ⟨rfl, hi, ι2, F2, M2, ds, vs, ok2, hz, r2, rv2, rS2, p2⟩
    by_cases hlt : i < src.xs.length
    · rw [List.drop_eq_getElem_cons hlt] at p2
      rw [compV] at p2
      cases hch : src.chk M2 with
      | false => rw [hch, if_neg Bool.false_ne_true] at p2; exact p2.elim
      | true =>
        rw [hch, if_pos rfl] at p2
        refine .inr ⟨w.go (hrq _) ok2 r2 hch hlt, fun H3 => ∃ m', m' < src.xs.length - i ∧ (m' = src.xs.length - (i + 1) ∧ (i + 1) ≤ src.xs.length ∧ ∃ ι2 F2 M2 ds vs, okp ι2 F2 ∧ ds.length ≤ (i + 1) ∧ Rel K ι2 F2 ((D, .lst vs) :: rs) H3 M2 ∧ RepL K ι2 F2 ds vs ∧ RepS K ι2 F2 (wipeD s own) (L2.wipe σ own) ∧
          Post K rs (repD K) ι2 F2 (fun c d => W c d σ) Q ((compV src.chk γ τ φ (wipeD s own) (src.xs.drop (i + 1)) M2).bind fun ys M3 => finL mu (ds ++ ys) M3)), fun H3 z => z, fun x H3 y => ?_⟩
        obtain ⟨ι3, F3, l3, r3, rx⟩ := w.yld (hrq _) ok2 r2 hch (List.getElem?_eq_getElem hlt) y
        cases eg : γ src.xs[i] M2 (wipeD s own) with
        | none => rw [eg] at p2; exact p2.elim
        | some s3 =>
          rw [eg] at p2
          simp only at p2
          refine ⟨_, ι3, F3, wipeD s own, M2, _, s3, r3, rS2.le l3, rx, eg, fun σ4 rs4 hw => ⟨(hw own hsub).trans wipe_wipe, ?_⟩⟩
          refine ⟨_, ι3, F3, s3, M2, r3, rs4, ?_⟩
          cases et : τ s3 M2 with
          | er x M => rw [et] at p2; exact p2.elim
          | bad => rw [et] at p2; exact p2.elim
          | ok b M4 =>
            rw [et] at p2
            simp only at p2
            intro ι4 F4 H4 v l4 r4 rb
            have rb' : v = b := rb
            subst rb'
            cases v with
            | false =>
              rw [if_neg Bool.false_ne_true] at p2
              refine iteF ⟨src.xs.length - (i + 1), by omega, rfl, hlt, ι4, F4, M4, ds, vs, w.mono (l3.trans l4) ok2, by omega, r4, RepL.le (l3.trans l4) rv2, rS2.le (l3.trans l4), Post.le (l3.trans l4) p2⟩
            | true =>
              rw [if_pos rfl] at p2
              refine iteT ⟨_, ι4, F4, s3, M4, r4, rs4.le l4, ?_⟩
              cases ep : φ s3 M4 with
              | er x M => rw [ep] at p2; exact p2.elim
              | bad => rw [ep] at p2; exact p2.elim
              | ok y5 M5 =>
                rw [ep] at p2
                intro ι5 F5 H5 v5 l5 r5 rv5
                have lt := (l3.trans l4).trans l5
                have hl := RepL.length rv2
                have hs := line_eq
                refine ⟨vs, (r5.rsv _ List.mem_cons_self).1, by omega, src.xs.length - (i + 1), by omega, rfl, hlt, ι5, F5, M5, ds ++ [y5], vs ++ [v5], w.mono lt ok2, by rw [List.length_append]; simp; omega, r5.rewr hp, (RepL.le lt rv2).append (.one rv5), rS2.le lt, ?_⟩
                refine Post.le lt ?_
                simp only at p2
                cases ec : compV src.chk γ τ φ (wipeD s own) (List.drop (i + 1) src.xs) M5 with
                | er x M => rw [ec] at p2; exact p2
                | bad => rw [ec] at p2; exact p2
                | ok ys M6 =>
                  rw [ec] at p2
                  simp only [R.bind_ok, List.append_assoc, List.singleton_append] at p2 ⊢
                  exact p2
    · have ei : i = src.xs.length := by omega
      subst ei
      rw [List.drop_length, compV] at p2
      cases hch : src.chk M2 with
      | false => rw [hch, if_neg Bool.false_ne_true] at p2; exact p2.elim
      | true =>
        rw [hch, if_pos rfl, R.bind_ok, List.append_nil] at p2
        exact .inl ⟨w.stop (hrq _) ok2 r2 hch, finL_at r2 hp rv2 p2⟩
  · exact p1.elim
theorem PG.ex {tg : Expr} {f : List (Addr × HO) → TG} (h : ∀ rs, PG X tg (f rs)) : PG X tg (fun v σ H Q => ∃ rs, f rs v σ H Q) := ⟨fun pins s σ H v u Q I r ⟨rs, q⟩ => (h rs).run pins s σ H v u Q I r q⟩
theorem PE.ex {e : Expr} {f : List (Addr × HO) → TE} (h : ∀ rs, PE X e (f rs)) : PE X e (fun σ H Q => ∃ rs, f rs σ H Q) := ⟨fun pins s σ H Q I ⟨rs, q⟩ => (h rs).run pins s σ H Q I q⟩
theorem PTs.ex {e : List Expr} {f : List (Addr × HO) → TT} (h : ∀ rs, PTs X e (f rs)) : PTs X e (fun σ H Q => ∃ rs, f rs σ H Q) := ⟨fun pins s σ H Q I ⟨rs, q⟩ => (h rs).run pins s σ H Q I q⟩
variable {elt tg iter : Expr} {ifs : List Expr} {scope : Scope} {own : List (Str × Nat)} {pos spos : Pos} {χ : Sem1 Src} {γ : GSem} {idx : List Nat} {τ : Sem1 Bool} {φ : Sem1 LD.D} {mu : Bool}
theorem d_comp (hc : X.calm = true) (hN : X.N.Nodup) (ok : BlkOk X.N X.env.scope scope own) (hsub : ∀ i ∈ idx, i ∈ own.map (·.2)) (hi : KI X T W tg iter χ)
    (hg : ∀ (s : Shared) (H : Hp) (C : Addr) (cl : List (Str × Addr)) (fp : List Addr), KG (X.blk s H scope (compEnvC scope cl C X.env) fp) T tg γ idx)
    (ht : ∀ (s : Shared) (H : Hp) (C : Addr) (cl : List (Str × Addr)) (fp : List Addr), KTs (X.blk s H scope (compEnvC scope cl C X.env) fp) T WN ifs τ)
    (he : ∀ (s : Shared) (H : Hp) (C : Addr) (cl : List (Str × Addr)) (fp : List Addr), KE (X.blk s H scope (compEnvC scope cl C X.env) fp) T WN elt φ) (hs : ∀ x, foldedSetIterable iter X.env x = pure x) :
    KE X T W (.ListComp elt [⟨tg, iter, ifs, 0⟩] scope pos) (eComp mu χ γ τ φ (own.map (·.2))) := fun rs =>
  PE.imp (pe_lc hc hN (hi.pi rs) ok (fun s H C cl fp => PG.ex (hg s H C cl fp).pg) (fun s H C cl fp => PTs.ex (ht s H C cl fp).pt) (fun s H C cl fp => PE.ex (f := fun rs => LE (kx X T) rs WN φ) (he s H C cl fp)) hs) fun σ H Q h => lc_sem (K := kx X T) hsub h
theorem s_setLc {i : Nat} {y : Str} {py : Pos} (hc : X.calm = true) (hN : X.N.Nodup) (ok : BlkOk X.N X.env.scope scope own) (hsub : ∀ i ∈ idx, i ∈ own.map (·.2)) (hy : X.N[i]? = some y) (hyl : X.env.scope.names.lookup y = some .local)
    (hsw : swapsWith (.ListComp elt [⟨tg, iter, ifs, 0⟩] scope pos) (some (.Name y py)) spos.line X.env = pure true) (hi : KI X T W tg iter χ)
    (hg : ∀ (s : Shared) (H : Hp) (C : Addr) (cl : List (Str × Addr)) (fp : List Addr), KG (X.blk s H scope (compEnvC scope cl C X.env) fp) T tg γ idx)
    (ht : ∀ (s : Shared) (H : Hp) (C : Addr) (cl : List (Str × Addr)) (fp : List Addr), KTs (X.blk s H scope (compEnvC scope cl C X.env) fp) T WN ifs τ)
    (he : ∀ (s : Shared) (H : Hp) (C : Addr) (cl : List (Str × Addr)) (fp : List Addr), KE (X.blk s H scope (compEnvC scope cl C X.env) fp) T WN elt φ) (hs : ∀ x, foldedSetIterable iter X.env x = pure x) :
    KS X T W (.Assign [.Name y py] (.ListComp elt [⟨tg, iter, ifs, 0⟩] scope pos) spos) (sAsg (gNm i) (eComp mu χ γ τ φ (own.map (·.2)))) := ⟨fun rs =>
  PS.imp (ps_setLc hc hN hy hyl hsw (hi.pi rs) ok (fun s H C cl fp => PG.ex (hg s H C cl fp).pg) (fun s H C cl fp => PTs.ex (ht s H C cl fp).pt) (fun s H C cl fp => PE.ex (f := fun rs => LE (kx X T) rs WN φ) (he s H C cl fp)) hs) fun D σ H h => by
    refine lc_sem (K := kx X T) hsub (LG.imp (asg_core (idx := [i]) h) fun v H1 q => ?_)
    obtain ⟨ι, F, s, M, d, s', r, rS, rd, e, q⟩ := q
    cases e
    exact q _ (rS.set rd) fun vs hv => wipe_set (hv i (List.mem_singleton.mpr rfl))⟩
end
end LD
namespace LD
open PySem PySem.Spec PyProof.Rows L2

/-! ### stores -/
theorem nodup_inj {α : Type} : ∀ {l : List α} {i j : Nat} {x : α}, l.Nodup → l[i]? = some x → l[j]? = some x → i = j
  | [], i, j, x, _, h, _ => by simp at h
  | a :: l, 0, 0, x, _, _, _ => rfl
  | a :: l, 0, j + 1, x, n, h, h' => by
    have e : a = x := by simpa using h
    have m : x ∈ l := List.mem_of_getElem? (i := j) (by simpa using h')
    exact absurd (by rw [e]; exact m) (List.nodup_cons.mp n).1
  | a :: l, i + 1, 0, x, n, h, h' => by
    have e : a = x := by simpa using h'
    have m : x ∈ l := List.mem_of_getElem? (i := i) (by simpa using h)
    exact absurd (by rw [e]; exact m) (List.nodup_cons.mp n).1
  | a :: l, i + 1, j + 1, x, n, h, h' => by
    rw [nodup_inj (l := l) (i := i) (j := j) (List.nodup_cons.mp n).2 (by simpa using h) (by simpa using h')]
theorem nodup_len {α : Type} [DecidableEq α] : ∀ {xs ys : List α}, xs.Nodup → (∀ x ∈ xs, x ∈ ys) → xs.length ≤ ys.length
  | [], ys, _, _ => Nat.zero_le _
  | x :: xs, ys, h, s => by
    have hx := s x List.mem_cons_self
    obtain ⟨h1, h2⟩ := List.nodup_cons.mp h
    have q := nodup_len (ys := ys.erase x) h2 fun y hy => (List.mem_erase_of_ne (fun e => h1 (by rw [← e]; exact hy))).mpr (s y (List.mem_cons_of_mem _ hy))
    rw [List.length_erase_of_mem hx] at q
    have : 0 < ys.length := List.length_pos_of_mem hx
    rw [List.length_cons]
    omega
theorem keys_putF' (f : Str) (v : V) : ∀ fs : List (Str × V), (putF f v fs).map (·.1) = if f ∈ fs.map (·.1) then fs.map (·.1) else fs.map (·.1) ++ [f]
  | [] => by rfl
  | (g, x) :: r => by
    have ih := keys_putF' f v r
    rw [show putF f v ((g, x) :: r) = (if g = f then (g, v) :: r else (g, x) :: putF f v r) from rfl]
    by_cases h : g = f
    · subst h
      rw [if_pos rfl, if_pos (by simp)] <;> rfl
    · rw [if_neg h, List.map_cons, List.map_cons, ih]
      by_cases hr : f ∈ r.map (·.1)
      · rw [if_pos hr, if_pos (List.mem_cons_of_mem _ hr)]
      · rw [if_neg hr, if_neg (fun z => (List.mem_cons.mp z).elim (fun e => h e.symm) hr)] <;> rfl
def setD (x y d : D) (M : Mem) : Option Mem := match x with
  | .ref i => match M[i]? with
    | some (.lst xs) => match y with
      | .int k => match ixN xs.length k with
        | some j => some (M.set i (.lst (xs.set j d)))
        | none => none
      | _ => none
    | some (.dic kvs) => match keyOf y with
      | some k => if kvs.length < LINE then some (M.set i (.dic (putK' kvs k d))) else none
      | none => none
    | _ => none
  | _ => none
where putK' (kvs : List (Key × D)) (k : Key) (d : D) : List (Key × D) := if (kvs.any fun kv => decide (kv.1 = k)) = true then kvs.map (fun kv => if kv.1 = k then (kv.1, d) else kv) else kvs ++ [(k, d)]
def delD (x y : D) (M : Mem) : Option Mem := match x with
  | .ref i => match M[i]? with
    | some (.dic kvs) => match keyOf y with
      | some k => if (getK kvs k).isSome then some (M.set i (.dic (kvs.filter fun kv => decide (kv.1 ≠ k)))) else none
      | none => none
    | _ => none
  | _ => none
def sSub (o i a : Sem1 D) : SSem := fun s M => bindS (a s M) s fun d M1 => bindS (o s M1) s fun x M2 => bindS (i s M2) s fun y M3 => match setD x y d M3 with
  | some M4 => .nx s M4
  | none => .bad
def sDel (o i : Sem1 D) : SSem := fun s M => bindS (o s M) s fun x M2 => bindS (i s M2) s fun y M3 => match delD x y M3 with
  | some M4 => .nx s M4
  | none => .bad
def sFldD (tf : List (Nat × Nat)) (o a : Sem1 D) : SSem := fun s M => bindS (a s M) s fun d M1 => bindS (o s M1) s fun x M2 => match x with
  | .ref i => match M2[i]? with
    | some (.ins c fs) => match tf.lookup c with
      | some j => .nx s (M2.set i (.ins c (fs.set j (some d))))
      | none => .bad
    | _ => .bad
  | _ => .bad
/-- a new dict -/
def eDic0 (mu : Bool) : Sem1 D := fun _ M => .ok (newK mu [] M).1 (newK mu [] M).2
section
variable {X : Cx} {T : Tab} {W : WX} {K : KX} {ι ι' : List Addr} {F F' H : Hp} {M M' : Mem} {rs : List (Addr × HO)} {s : DS} {σ : L2.St} {o i a : Expr} {φ ψ χ : Sem1 LD.D} {pos pos' tpos : Pos} {x y d : LD.D}
theorem PSet.or {t t' : TSet} (h : PSet X t) (h' : PSet X t') : PSet X (fun o i v H Q => t o i v H Q ∨ t' o i v H Q) := fun pins s σ H o i v ov iv u Q I a b c q => q.elim (h pins s σ H o i v ov iv u Q I a b c) (h' pins s σ H o i v ov iv u Q I a b c)
theorem PSet.imp {t t' : TSet} (h : PSet X t) (f : ∀ o i v H Q, t' o i v H Q → t o i v H Q) : PSet X t' := fun pins s σ H o i v ov iv u Q I a b c q => h pins s σ H o i v ov iv u Q I a b c (f _ _ _ _ _ q)
theorem putK_rep {k : Key} {v : V} : ∀ {kvs : List (Key × LD.D)} {vs : List (Key × V)}, vs.map (·.1) = kvs.map (·.1) → RepL K ι F (kvs.map (·.2)) (vs.map (·.2)) → Rep K ι F d v →
    (vs.any fun kv => decide (kv.1 = k)) = (kvs.any fun kv => decide (kv.1 = k)) ∧ (vs.map (fun kv => if kv.1 = k then (kv.1, v) else kv)).map (·.1) = (kvs.map (fun kv => if kv.1 = k then (kv.1, d) else kv)).map (·.1) ∧
    RepL K ι F ((kvs.map (fun kv => if kv.1 = k then (kv.1, d) else kv)).map (·.2)) ((vs.map (fun kv => if kv.1 = k then (kv.1, v) else kv)).map (·.2))
  | [], [], _, _, _ => ⟨rfl, rfl, rfl⟩
  | [], _ :: _, e, _, _ => by cases e
  | _ :: _, [], e, _, _ => by cases e
  | (k1, d1) :: kvs, (k2, v2) :: vs, e, h, h' => by
    obtain ⟨v3, r, e1, h1, h2⟩ := h
    have e' : k2 = k1 ∧ vs.map (·.1) = kvs.map (·.1) := List.cons.inj e
    obtain ⟨rfl, e2⟩ := e'
    have e3 : v2 = v3 ∧ vs.map (·.2) = r := List.cons.inj e1
    obtain ⟨rfl, rfl⟩ := e3
    obtain ⟨a1, a2, a3⟩ := putK_rep e2 h2 h'
    refine ⟨by rw [List.any_cons, List.any_cons, a1], ?_, ?_⟩
    · simp only [List.map_cons]
      rw [a2]
      by_cases hk : k2 = k
      · rw [if_pos hk, if_pos hk]
      · rw [if_neg hk, if_neg hk]
    · simp only [List.map_cons]
      by_cases hk : k2 = k
      · rw [if_pos hk, if_pos hk]; exact ⟨v, _, rfl, h', a3⟩
      · rw [if_neg hk, if_neg hk]; exact ⟨v2, _, rfl, h1, a3⟩
theorem dropK_rep {k : Key} : ∀ {kvs : List (Key × LD.D)} {vs : List (Key × V)}, vs.map (·.1) = kvs.map (·.1) → RepL K ι F (kvs.map (·.2)) (vs.map (·.2)) →
    (vs.filter fun kv => decide (kv.1 ≠ k)).map (·.1) = (kvs.filter fun kv => decide (kv.1 ≠ k)).map (·.1) ∧ RepL K ι F ((kvs.filter fun kv => decide (kv.1 ≠ k)).map (·.2)) ((vs.filter fun kv => decide (kv.1 ≠ k)).map (·.2))
  | [], [], _, _ => ⟨rfl, rfl⟩
  | [], _ :: _, e, _ => by cases e
  | _ :: _, [], e, _ => by cases e
  | (k1, d1) :: kvs, (k2, v2) :: vs, e, h => by
    obtain ⟨v3, r, e1, h1, h2⟩ := h
    have e' : k2 = k1 ∧ vs.map (·.1) = kvs.map (·.1) := List.cons.inj e
    obtain ⟨rfl, e2⟩ := e'
    have e3 : v2 = v3 ∧ vs.map (·.2) = r := List.cons.inj e1
    obtain ⟨rfl, rfl⟩ := e3
    obtain ⟨a2, a3⟩ := dropK_rep (k := k) e2 h2
    by_cases hk : k2 = k
    · rw [List.filter_cons_of_neg (by simpa using hk), List.filter_cons_of_neg (by simpa using hk)]
      exact ⟨a2, a3⟩
    · rw [List.filter_cons_of_pos (by simpa using hk), List.filter_cons_of_pos (by simpa using hk)]
      exact ⟨by rw [List.map_cons, List.map_cons, a2], v2, _, rfl, h1, a3⟩
def RSt (K : KX) (rs : List (Addr × HO)) : TSet := fun o i v H Q => ∃ ι F M x y d M', Rel K ι F rs H M ∧ Rep K ι F x o ∧ Rep K ι F y i ∧ Rep K ι F d v ∧ setD x y d M = some M' ∧ ∀ H', Rel K ι F rs H' M' → Q H'
theorem set_d (hu : X.A.units + 1 < cLine) : PSet X (RSt (kx X T) rs) := PSet.imp (PSet.or set_list (set_dict hu)) fun o i v H Q h => by
  obtain ⟨ι, F, M, x, y, d, M', r, rx, ry, rd, e, q⟩ := h
  cases x with
  | ref j =>
    obtain ⟨a, rfl, hj⟩ := rx
    simp only [setD] at e
    split at e
    · rename_i xs hM
      obtain ⟨f0, vs, h2, h3⟩ := r.obj j _ a hM hj rfl
      split at e
      · rename_i k
        split at e
        · rename_i n hn
          cases e
          cases ry
          refine .inl ⟨a, vs, k, n, rfl, rfl, h2, by rw [RepL.length h3]; exact hn, q _ (r.write hM hj rfl ⟨_, upd_same, h3.set rd⟩)⟩
        · cases e
      · cases e
    · rename_i kvs hM
      obtain ⟨f0, vs, h2, h3, h4⟩ := r.obj j _ a hM hj rfl
      split at e
      · rename_i k hk
        split at e
        · rename_i hl
          cases e
          have ey := keyOf_rep hk ry
          subst ey
          have hlen : vs.length = kvs.length := by
            have := congrArg List.length h3
            rwa [List.length_map, List.length_map] at this
          refine .inr ⟨a, _, rfl, .inl ⟨vs, k, h2, rfl, by rw [hlen, ← line_eq]; exact hl, rfl⟩, q _ (r.write hM hj rfl ?_)⟩
          obtain ⟨a1, a2, a3⟩ := putK_rep (k := k) h3 h4 rd
          refine ⟨putK vs k v, upd_same, ?_⟩
          unfold putK setD.putK'
          rw [a1]
          split
          · exact ⟨a2, a3⟩
          · refine ⟨by rw [List.map_append, List.map_append, h3] <;> rfl, ?_⟩
            rw [List.map_append, List.map_append]
            exact h4.append (.one rd)
        · cases e
      · cases e
    · cases e
  | _ => cases e
theorem s_sub (hu : X.A.units + 1 < cLine) (ha : KE X T W a φ) (ho : KE X T W o ψ) (hi : KE X T W i χ) (hs : swapsWithSole [.Subscript o i pos'] a pos.line X.env = pure false) (hw : swappedStores [.Subscript o i pos'] a X.env = pure none)
    (h1 : (assignEach [.Subscript o i pos'] X.env).map (·.2) = [assign (.Subscript o i pos') X.env])
    (h2 : ∀ v, assign (.Subscript o i pos') X.env v = (do
      let ov ← holding [v] (eval o X.env)
      let iv ← holding [v, ov] (eval i X.env)
      standAt pos'
      holding [v, ov, iv] (setItem ov iv v)
      release [v, ov, iv] [])) : KS X T W (.Assign [.Subscript o i pos'] a pos) (sSub ψ χ φ) := ⟨fun rs =>
  PS.imp (ps_asg (ha rs) (pg_sub (ho rs) (hi rs) (set_d (T := T) (rs := rs) hu) h2) hs hw h1) fun D σ H h => by
    obtain ⟨ι, F, s, M, r, rS, p⟩ := h
    refine ⟨ι, F, s, M, r, rS, p.step rS fun v H1 ι1 F1 M1 d _ l1 r1 rv p1 => ?_⟩
    refine ⟨ι1, F1, s, M1, r1, rS.le l1, SPost.step p1 (rS.le l1) fun ov H2 ι2 F2 M2 x _ l2 r2 ro p2 => ?_⟩
    refine ⟨ι2, F2, s, M2, r2, (rS.le l1).le l2, SPost.step p2 ((rS.le l1).le l2) fun iv H3 ι3 F3 M3 y _ l3 r3 ri p3 => ?_⟩
    split at p3
    · rename_i M4 e
      exact ⟨ι3, F3, M3, x, y, d, M4, r3, l3 _ _ ro, ri, l3 _ _ (l2 _ _ rv), e, fun H' r' => p3 ι3 F3 H' σ Le.refl r' (((rS.le l1).le l2).le l3)⟩
    · exact p3.elim⟩
theorem s_del (ho : KE X T W o ψ) (hi : KE X T W i χ) : KS X T W (.Delete [.Subscript o i tpos] pos) (sDel ψ χ) := ⟨fun rs => PS.imp (ps_ddel (ho rs) (hi rs)) fun D σ H h => by
  obtain ⟨ι, F, s, M, r, rS, p⟩ := h
  refine ⟨ι, F, s, M, r, rS, p.step rS fun ov H2 ι2 F2 M2 x _ l2 r2 ro p2 => ?_⟩
  refine ⟨ι2, F2, s, M2, r2, rS.le l2, SPost.step p2 (rS.le l2) fun iv H3 ι3 F3 M3 y _ l3 r3 ri p3 => ?_⟩
  split at p3
  · rename_i M4 e
    have ro := l3 _ _ ro
    cases x with
    | ref j =>
      obtain ⟨a, rfl, hj⟩ := ro
      simp only [delD] at e
      split at e
      · rename_i kvs hM
        obtain ⟨f0, vs, h2, h3, h4⟩ := r3.obj j _ a hM hj rfl
        split at e
        · rename_i k hk
          split at e
          · rename_i hg
            cases e
            have ey := keyOf_rep hk ri
            subst ey
            have q := valV_rep (k := k) h3 h4
            cases hg' : getK kvs k with
            | none => rw [hg'] at hg; cases hg
            | some d =>
              rw [hg'] at q
              obtain ⟨u, q1, q2⟩ := q
              obtain ⟨a2, a3⟩ := dropK_rep (k := k) h3 h4
              exact ⟨a, vs, k, rfl, h2, rfl, by rw [q1] <;> rfl, p3 ι3 F3 _ σ Le.refl (r3.write hM hj rfl ⟨_, upd_same, a2, a3⟩) ((rS.le l2).le l3)⟩
          · cases e
        · cases e
      · cases e
    | _ => cases e
  · exact p3.elim⟩
theorem d_dic0 {mu : Bool} : KE X T W (.Dict [] [] pos) (eDic0 mu) := fun rs => PE.imp pe_dnewK fun σ H Q h p hp => by
  obtain ⟨ι, F, s, M, r, rS, q⟩ := h
  cases mu with
  | true => exact q (ι ++ [p]) F _ _ Le.push (r.fresh hp rfl (u := .dic []) ⟨[], upd_same, rfl, rfl⟩) ⟨p, rfl, by rw [← r.len]; simp⟩
  | false => exact q ι (upd F p (.dK [])) _ _ (Le.new (r.free hp)) (r.frozen hp) ⟨p, [], rfl, .inl upd_same, rfl, rfl⟩
theorem s_fld {tf : List (Nat × Nat)} {m : Str} (hf : ∀ c j, tf.lookup c = some j → ∃ C ly, T.ct[c]? = some (C, ly) ∧ Cls X.K C ∧ NoAttr X.K C m ∧ ly[j]? = some m ∧ ly.length < 1000 ∧ ly.Nodup)
    (ha : KE X T W a φ) (ho : KE X T W o ψ) (hs : swapsWith a (some (.Attribute o m pos')) pos.line X.env = pure false) : KS X T W (.Assign [.Attribute o m pos'] a pos) (sFldD tf ψ φ) := ⟨fun rs => PS.imp (ps_fld (ho rs) (ha rs) hs) fun D σ H h => by
  obtain ⟨ι, F, s, M, r, rS, p⟩ := h
  refine ⟨ι, F, s, M, r, rS, p.step rS fun v H1 ι1 F1 M1 d _ l1 r1 rv p1 => ?_⟩
  refine ⟨ι1, F1, s, M1, r1, rS.le l1, SPost.step p1 (rS.le l1) fun ov H2 ι2 F2 M2 x _ l2 r2 ro p2 => ?_⟩
  cases x with
  | ref i =>
    simp only at p2
    split at p2
    · rename_i c fs hM
      split at p2
      · rename_i j hj
        obtain ⟨a, rfl, hi⟩ := ro
        obtain ⟨C, ly, hc, cl, na, hl, hz, hn⟩ := hf c j hj
        obtain ⟨f0, C', ly', dx, vs, hc', hH, hnd, hsub, hlen, hg⟩ := r2.obj i _ a hM hi rfl
        have e2 : (C, ly) = (C', ly') := Option.some.inj (hc.symm.trans hc')
        cases e2
        have hvl : vs.length ≤ ly.length := by
          have := nodup_len hnd hsub
          rwa [List.length_map] at this
        refine ⟨a, C, dx, vs, rfl, hH, cl, na, by omega, p2 ι2 F2 _ σ Le.refl (r2.write hM hi rfl ?_) ((rS.le l1).le l2)⟩
        have hm : m ∈ ly := List.mem_of_getElem? hl
        refine ⟨C, ly, dx, putF m v vs, hc, upd_same, ?_, ?_, by rw [List.length_set]; exact hlen, fun j' f e1 d' e2 => ?_⟩
        · rw [keys_putF']
          split
          · exact hnd
          · rename_i hnm
            rw [List.nodup_append]
            refine ⟨hnd, List.nodup_cons.mpr ⟨by simp, List.nodup_nil⟩, fun x hx y hy e => ?_⟩
            rw [List.mem_singleton.mp hy] at e
            exact hnm (by rw [← e]; exact hx)
        · intro f hf'
          rw [keys_putF'] at hf'
          split at hf'
          · exact hsub f hf'
          · rcases List.mem_append.mp hf' with h | h
            · exact hsub f h
            · rw [List.mem_singleton.mp h]; exact hm
        · rw [lookup_putF]
          by_cases hjj : j = j'
          · subst hjj
            rw [hl] at e1
            cases e1
            have hlt : j < fs.length := by rw [hlen]; exact (List.getElem?_eq_some_iff.mp hl).1
            rw [List.getElem?_set_self hlt] at e2
            cases e2
            exact ⟨v, if_pos rfl, l2 _ _ rv⟩
          · rw [List.getElem?_set_ne hjj] at e2
            have hff : f ≠ m := fun e => by
              subst e
              exact hjj (nodup_inj hn hl e1)
            rw [if_neg hff]
            exact hg j' f e1 d' e2
      · exact p2.elim
    · exact p2.elim
  | _ => exact p2.elim⟩
end

/-! ### defs -/
def startD (n : Nat) (ds : List D) : DS := ds.map some ++ List.replicate (n - ds.length) none
def defD (n np : Nat) (ψ : SSem) : FnD := fun ds M => if ds.length = np then (match ψ (startD n ds) M with
  | .nx _ M' => .ok .non M'
  | .rt d M' => .ok d M'
  | .er x _ M' => .er x M'
  | _ => .bad) else .bad
def spX (K : KX) (φ : FnD) : Sp := fun vs H Q E => ∃ rs, spD K rs φ vs H Q E
section
variable {P : Program} {w : World} {K : PySem.W.Frag} {mg : Str → Option Value} {base : Heap} {T : Tab}
theorem start_rep {KK : KX} {ι : List Addr} {F : Hp} {N : List Str} : ∀ {ds : List D} {vs : List V}, RepL KK ι F ds vs → RepS KK ι F (startD N.length ds) (L2.start N vs) := fun {ds vs} h => by
  have hl := RepL.length h
  refine ⟨by unfold L2.start startD; rw [List.length_append, List.length_append, List.length_map, List.length_map, List.length_replicate, List.length_replicate, hl], fun i d e => ?_⟩
  unfold startD at e
  unfold L2.start
  by_cases hi : i < ds.length
  · rw [List.getElem?_append_left (by rw [List.length_map]; exact hi), List.getElem?_map] at e
    obtain ⟨d', e1, e2⟩ := Option.map_eq_some_iff.mp e
    cases e2
    obtain ⟨v, h1, h2⟩ := RepL.get h e1
    exact ⟨v, by rw [List.getElem?_append_left (by rw [List.length_map, hl]; exact hi), List.getElem?_map, h1] <;> rfl, h2⟩
  · rw [List.getElem?_append_right (by rw [List.length_map]; omega), List.getElem?_replicate] at e
    split at e <;> cases e
/-- what a def promises at a call, at room k -/
structure FnX (P : Program) (w : World) (K : PySem.W.Frag) (mg : Str → Option Value) (base : Heap) (T : Tab) (k : Nat) (f : Addr) (fd : FuncData) (ps : List Str) (φ : FnD) : Prop where
  run : ∀ (rs : List (Addr × HO)) (A : Around) (outer : List Env) (s : Shared) (H : Hp) (args : Args) (us : List Value) (vs : List V) (Q : VK) (E : XK), Room k A → Env0 P w K mg base A outer s H → BindsTo s fd args (ps.zip us) → Vals vs us →
    spD ⟨K, T⟩ rs φ vs H Q E → codeAny (model P w) A (.call (.ref f) args) (CR (L2.CX P w) outer P w H s Q E) s
/-- one call of a def, by its body at this very state -/
theorem fn_at {x qual : Str} {st : Stmt} {f : Addr} {fd : FuncData} {N ps : List Str} {k : Nat} {A : Around} {outer : List Env} {s : Shared} {H : Hp} {args : Args} {us : List Value} {vs : List V} {Q : VK} {E : XK} (F : L2.Fun K x qual st f fd) (S : FnScope N ps (defScope st))
    (hr : Room (k + 1) A) (e0 : Env0 P w K mg base A outer s H) (hb : BindsTo s fd args (ps.zip us)) (r : Vals vs us) (hl : vs.length = ps.length)
    (ht : ∀ cdv, Room k (A.deeper (envOfC qual (defScope st) s.heap.objs.size f cdv)) → ∃ t, PSs (cxOf (L2.CX P w) P w K mg base N qual (defScope st) f cdv A outer s H E) (defBody st) t ∧ t { nx := fun _ H' => Q .non H', rt := Q } (L2.start N vs) H) :
    codeAny (model P w) A (.call (.ref f) args) (CR (L2.CX P w) outer P w H s Q E) s := by
  obtain ⟨oc, od, kV, doc, pm, an, cdv, ct, osl, rfl, lk, hcd⟩ := F.ex
  have KX : K.In s.heap := e0.mod.kin.keeps fun b o e => (e0.bs b o e).1
  have lim : s.heap.NoLimit := e0.mod.nolimit.keeps fun b o e => (e0.bs b o e).1
  refine Att.call_fn KX lim lk hcd hr.l2.depth hb (List.all_eq_true.mpr fun y hy => ?_) (fun s1 x => ?_) S.co S.gen S.kind
  · rcases S.par y.1 (List.of_mem_zip hy).1 with q | q <;> rw [q] <;> rfl
  · obtain ⟨t, h1, h2⟩ := ht cdv (hr.deeper _)
    have I : Inv (cxOf (L2.CX P w) P w K mg base N qual (defScope st) f cdv A outer s H E) [] (L2.start N vs) H s1 := inv_start S hr.hd e0 hl r x
    refine wpAny_mono (h1.run [] s1 (L2.start N vs) H _ I h2) (fun fl s' hs => ?_) fun e s' hs => hs
    have fin : ∀ {σ' : L2.St} {H' : Hp} {v : V} {u : Value}, Inv (cxOf (L2.CX P w) P w K mg base N qual (defScope st) f cdv A outer s H E) [] σ' H' s' → RelV v u → Q v H' → CE outer P w H s Q u s' :=
      fun {σ' H' v u} J rv q => ⟨v, H', J.os, J.bare, J.base, J.hok, rv, q⟩
    cases fl with
    | ret u =>
      obtain ⟨v, σ', H', J, rv, q⟩ := hs
      exact fin J rv q
    | next =>
      obtain ⟨σ', H', J, q⟩ := hs
      exact fin (v := V.non) (u := Value.none) J rfl q
    | brk => exact (hs.choose_spec.choose_spec.2 : False).elim
    | cont => exact (hs.choose_spec.choose_spec.2 : False).elim
theorem kfn {x qual : Str} {st : Stmt} {f : Addr} {fd : FuncData} {N ps : List Str} {k : Nat} {ψ : SSem} (F : L2.Fun K x qual st f fd) (S : FnScope N ps (defScope st))
    (hbody : ∀ (cdv : Value) (A : Around) (outer : List Env) (s : Shared) (H : Hp) (E : XK), Room k (A.deeper (envOfC qual (defScope st) s.heap.objs.size f cdv)) →
      KB (cxOf (L2.CX P w) P w K mg base N qual (defScope st) f cdv A outer s H E) T (fun c d _ H => E c d H) (defBody st) ψ) :
    FnX P w K mg base T (k + 1) f fd ps (defD N.length ps.length ψ) := by
  refine ⟨fun rs A outer s H args us vs Q E hr e0 hb hv h => ?_⟩
  obtain ⟨ι, F', ds, M, r, rd, p⟩ := h
  unfold defD at p
  split at p
  · rename_i hl
    refine fn_at F S hr e0 hb hv (by rw [RepL.length rd, hl]) fun cdv hr' => ⟨_, (hbody cdv A outer s H E hr').ps rs, ι, F', startD N.length ds, M, r, start_rep rd, ?_⟩
    cases e : ψ (startD N.length ds) M with
    | nx s' M' => rw [e] at p; exact fun ι' F' H' σ' l r' _ => p ι' F' H' .non l r' rfl
    | rt d M' => rw [e] at p; exact p
    | er x s' M' => rw [e] at p; exact fun ι' F' H' σ' c dx l r' _ rx => p ι' F' H' c dx l r' rx
    | bk s' M' => rw [e] at p; exact p.elim
    | ct s' M' => rw [e] at p; exact p.elim
    | bad => rw [e] at p; exact p.elim
  · exact p.elim
theorem callee_of {f : Addr} {fd : FuncData} {ps ks : List Str} {k n : Nat} {φ : FnD} (F : FnX P w K mg base T k f fd ps φ)
    (hb : ∀ (s : Shared) (us ws : List Value), us.length = n → ws.length = ks.length → BindsTo s fd ⟨us, ks.zip ws⟩ (ps.zip (us ++ ws))) : Callee P w K mg base T k f n ks φ := ⟨fun rs A outer s H us ws vs zs Q E hr e0 h1 h2 r1 r2 h =>
  F.run rs A outer s H _ (us ++ ws) (vs ++ zs) Q E hr e0 (hb s us ws h1 h2) (r1.append r2) h⟩
theorem takes_k {N : List Str} {qual : Str} {scope : Scope} {f : Addr} {cd : Value} {A : Around} {outer : List Env} {s : Shared} {H : Hp} {E : XK} : Takes (cxOf (L2.CX P w) P w K mg base N qual scope f cd A outer s H E) (fun c d _ H => E c d H) :=
  takes_of rfl rfl rfl rfl
theorem passes_k {N : List Str} {qual : Str} {scope : Scope} {f : Addr} {cd : Value} {A : Around} {outer : List Env} {s : Shared} {H : Hp} {E : XK} : PassesOwn (model P w) (cxOf (L2.CX P w) P w K mg base N qual scope f cd A outer s H E).A (cxOf (L2.CX P w) P w K mg base N qual scope f cd A outer s H E).env (cxOf (L2.CX P w) P w K mg base N qual scope f cd A outer s H E).xe :=
  PassesOwn.leaving
def intsD (ns : List Int) : D := .lst (ns.map D.int)
def LawD (n : Nat) (φ : FnD) : Prop := ∀ ns : List Int, ns.length ≤ n → ∃ M, φ [intsD ns] [] = .ok (.bl true) M
theorem intsD_rep {KK : KX} {ι : List Addr} {F : Hp} : ∀ (ns : List Int), RepL KK ι F (ns.map D.int) (ns.map V.int)
  | [] => rfl
  | n :: ns => ⟨_, _, rfl, rfl, intsD_rep ns⟩
end
end LD
namespace LD
open PySem PySem.Spec PyProof.Rows L2

/-- x in y, also by an own __contains__ -/
def inO (tbl : List (Nat × FnD)) (neg : Bool) : O2 := fun x y M => match y with
  | .ref i => match M[i]? with
    | some (.ins c _) => match tbl.lookup c with
      | some φ => match φ [.ref i, x] M with
        | .ok (.bl k) M' => some (.bl (k != neg), M')
        | _ => none
      | none => none
    | _ => (inD M x y).map fun k => (.bl (k != neg), M)
  | _ => (inD M x y).map fun k => (.bl (k != neg), M)
section
variable {X : Cx} {T : Tab} {W : WX} {rs : List (Addr × HO)}
theorem own_in {tbl : List (Nat × FnD)} {neg : Bool} (ht : ∀ c φ, tbl.lookup c = some φ → ∃ C ly g k, T.ct[c]? = some (C, ly) ∧ PySem.W.findIn X.K (.ref C) "__contains__" = some (some (.ref g)) ∧ PySem.W.isFn X.K (.ref g) = true ∧
      Callee X.prog X.w X.K X.mg X.base T k g 2 [] φ ∧ Room k X.A)
    {pins : List (Addr × Obj)} {s : Shared} {σ : L2.St} {H : Hp} {x : V} {u : Value} {a : Addr} {Q : VK} {ι : List Addr} {F : Hp} {M M' : Mem} {i c : Nat} {fs : List (Option D)} {d : D} {φ : FnD} {k : Bool}
    (I : Inv X pins σ H s) (rx : RelV x u) (r : Rel (kx X T) ι F rs H M) (rd : Rep (kx X T) ι F d x) (hi : ι[i]? = some a) (hM : M[i]? = some (.ins c fs)) (hφ : tbl.lookup c = some φ) (e : φ [.ref i, d] M = .ok (.bl k) M')
    (q : ∀ ι' F' H' u, Le (kx X T) ι F ι' F' → Rel (kx X T) ι' F' rs H' M' → Rep (kx X T) ι' F' (.bl (k != neg)) u → Q u H') :
    wpAny (model X.prog X.w) X.A (compareOp (if neg then .NotIn else .In) u (.ref a)) (EP X pins σ Q) X.xe s := by
  obtain ⟨C, ly, g, kk, hc, hs, hf, ce, hr⟩ := ht c φ hφ
  obtain ⟨_, C', ly', dx, vs, hc', hH, _, _, _, _⟩ := r.obj i _ a hM hi rfl
  have e2 : (C, ly) = (C', ly') := Option.some.inj (hc.symm.trans hc')
  cases e2
  obtain ⟨mA, J, _⟩ := ins_get I.hok hH
  obtain ⟨od, J, _⟩ := J.look
  obtain ⟨m, hF⟩ := I.fr
  have go : ∀ {Q' : Value → Shared → Prop}, (∀ k' s', (∃ H', Inv X pins σ H' s' ∧ ∃ ι' F', Le (kx X T) ι F ι' F' ∧ Rel (kx X T) ι' F' rs H' M') → k' = k → Q' (.bool k') s') → wpAny (model X.prog X.w) X.A (call (.ref g) [.ref a, u]) Q' X.xe s := by
    intro Q' hq'
    refine wpAny_call (codeAny_mono (ce.run rs X.A X.stack s H [.ref a, u] [] [.ref a, x] [] (fun v H' => v = .bl k ∧ ∃ ι' F', Le (kx X T) ι F ι' F' ∧ Rel (kx X T) ι' F' rs H' M') (fun _ _ _ => False) hr I.env0 rfl rfl (.cons rfl (.cons rx .nil)) .nil
      ⟨ι, F, [.ref i, d], M, r, ⟨_, _, rfl, ⟨a, rfl, hi⟩, .one rd⟩, by rw [e]; exact fun ι' F' H' v l r' rv => ⟨rv, ι', F', l, r'⟩⟩) fun r s' hq => ?_)
    cases r with
    | error er =>
      obtain ⟨a, B, H', cls, d, _, _, _, _, _, _, _, z⟩ := hq
      exact z.elim
    | ok fl =>
      cases fl with
      | ret w =>
        obtain ⟨z, H', I', rz, ez, ι', F', l, r'⟩ := I.after hq
        subst ez
        cases rz
        exact hq' _ _ ⟨H', I', ι', F', l, r'⟩ rfl
      | next => exact False.elim hq
      | brk => exact False.elim hq
      | cont => exact False.elim hq
  cases neg with
  | false =>
    refine PySem.W.in_K hF I.ok.mod.kin J hs hf (go fun k' s' ⟨H', I', ι', F', l, r'⟩ ek => wpAny_truthy_bool ⟨.bl k', H', I', rfl, ?_⟩)
    subst ek
    exact q ι' F' H' _ l r' (by cases k' <;> rfl)
  | true =>
    refine PySem.W.notIn_K hF I.ok.mod.kin J hs hf (go fun k' s' ⟨H', I', ι', F', l, r'⟩ ek => wpAny_truthy_bool ⟨.bl (!k'), H', I', rfl, ?_⟩)
    subst ek
    exact q ι' F' H' _ l r' (by cases k' <;> rfl)
theorem inO_split {tbl : List (Nat × FnD)} {neg : Bool} {x y : V} {H : Hp} {Q : VK} (h : RO2 (kx X T) rs (inO tbl neg) x y H Q) : RO2 (kx X T) rs (boD (if neg then notB inD else inD)) x y H Q ∨
    ∃ a ι F M M' i c fs d φ k, y = .ref a ∧ Rel (kx X T) ι F rs H M ∧ Rep (kx X T) ι F d x ∧ ι[i]? = some a ∧ M[i]? = some (.ins c fs) ∧ tbl.lookup c = some φ ∧ φ [.ref i, d] M = .ok (.bl k) M' ∧
      ∀ ι' F' H' u, Le (kx X T) ι F ι' F' → Rel (kx X T) ι' F' rs H' M' → Rep (kx X T) ι' F' (.bl (k != neg)) u → Q u H' := by
  obtain ⟨ι, F, M, d, e, z, M', r, r1, r2, g, q⟩ := h
  have plain : (inD M d e).map (fun k => (D.bl (k != neg), M)) = some (z, M') → RO2 (kx X T) rs (boD (if neg then notB inD else inD)) x y H Q := fun g => by
    refine ⟨ι, F, M, d, e, z, M', r, r1, r2, ?_, q⟩
    obtain ⟨k, h1, h2⟩ := Option.map_eq_some_iff.mp g
    unfold boD
    cases neg with
    | false => rw [if_neg Bool.false_ne_true, h1, ← h2]; cases k <;> rfl
    | true => rw [if_pos rfl]; unfold notB; rw [h1, ← h2]; cases k <;> rfl
  cases e with
  | ref i =>
    simp only [inO] at g
    split at g
    · rename_i c fs hM
      split at g
      · rename_i φ hφ
        split at g
        · rename_i k M2 he
          cases g
          obtain ⟨a, rfl, hi⟩ := r2
          exact .inr ⟨a, ι, F, M, _, i, c, fs, d, φ, k, rfl, r, r1, hi, hM, hφ, he, q⟩
        · cases g
      · cases g
    · exact .inl (plain g)
  | _ => exact .inl (plain g)
theorem o_inO {tbl : List (Nat × FnD)} (hu : X.A.units + 65 < cLine) (ht : ∀ c φ, tbl.lookup c = some φ → ∃ C ly g k, T.ct[c]? = some (C, ly) ∧ PySem.W.findIn X.K (.ref C) "__contains__" = some (some (.ref g)) ∧ PySem.W.isFn X.K (.ref g) = true ∧
      Callee X.prog X.w X.K X.mg X.base T k g 2 [] φ ∧ Room k X.A) : OpR X (compareOp .In) (RO2 (kx X T) rs (inO tbl false)) := by
  intro pins s σ H x y v u Q I rx ry h
  rcases inO_split h with h | ⟨a, ι, F, M, M', i, c, fs, d, φ, k, rfl, r, rd, hi, hM, hφ, e, q⟩
  · exact o_in hu pins s σ H x y v u Q I rx ry h
  · cases ry
    exact own_in (neg := false) ht I rx r rd hi hM hφ e q
theorem o_notinO {tbl : List (Nat × FnD)} (hu : X.A.units + 65 < cLine) (ht : ∀ c φ, tbl.lookup c = some φ → ∃ C ly g k, T.ct[c]? = some (C, ly) ∧ PySem.W.findIn X.K (.ref C) "__contains__" = some (some (.ref g)) ∧ PySem.W.isFn X.K (.ref g) = true ∧
      Callee X.prog X.w X.K X.mg X.base T k g 2 [] φ ∧ Room k X.A) : OpR X (compareOp .NotIn) (RO2 (kx X T) rs (inO tbl true)) := by
  intro pins s σ H x y v u Q I rx ry h
  rcases inO_split h with h | ⟨a, ι, F, M, M', i, c, fs, d, φ, k, rfl, r, rd, hi, hM, hφ, e, q⟩
  · exact o_notin hu pins s σ H x y v u Q I rx ry h
  · cases ry
    exact own_in (neg := true) ht I rx r rd hi hM hφ e q
end
end LD
namespace LD
open PySem PySem.Spec PyProof.Rows L2

/-! ### short words for derivations -/
theorem u1 {A : Around} {k : Nat} (hr : Room k A) : A.units + 1 < cLine := by have := hr.un; omega
theorem u64 {A : Around} {k : Nat} (hr : Room k A) : A.units + 64 < cLine := hr.units
theorem u65 {A : Around} {k : Nat} (hr : Room k A) : A.units + 65 < cLine := by have := hr.un; omega
theorem u0 {A : Around} {k : Nat} (hr : Room k A) : A.units < cLine := by have := hr.un; omega
theorem tblN {β : Type} {P : Nat → β → Prop} : ∀ c φ, ([] : List (Nat × β)).lookup c = some φ → P c φ := fun c φ h => by cases h
theorem tblC {β : Type} {P : Nat → β → Prop} {c0 : Nat} {φ0 : β} {l : List (Nat × β)} (h : P c0 φ0) (r : ∀ c φ, l.lookup c = some φ → P c φ) : ∀ c φ, ((c0, φ0) :: l).lookup c = some φ → P c φ := fun c φ e => by
  rw [List.lookup_cons] at e
  split at e
  · rename_i hc
    cases beq_iff_eq.mp hc
    cases e
    exact h
  · exact r c φ e
/-- a method that may be called -/
def MetD (P : Program) (w : World) (K : PySem.W.Frag) (mg : Str → Option Value) (base : Heap) (T : Tab) (k c : Nat) (m : Str) (n : Nat) (ks : List Str) (φ : FnD) : Prop :=
  ∃ C ly g, T.ct[c]? = some (C, ly) ∧ m ∉ ly ∧ Cls K C ∧ Meth K C m g ∧ Callee P w K mg base T k g (n + 1) ks φ
/-- a field -/
def FldD (K : PySem.W.Frag) (T : Tab) (c : Nat) (m : Str) (j : Nat) : Prop := ∃ C ly, T.ct[c]? = some (C, ly) ∧ Cls K C ∧ NoAttr K C m ∧ ly[j]? = some m ∧ ly.length < 1000 ∧ ly.Nodup
/-- a property -/
def PrpD (P : Program) (w : World) (K : PySem.W.Frag) (mg : Str → Option Value) (base : Heap) (T : Tab) (k c : Nat) (m : Str) (φ : FnD) : Prop :=
  ∃ C ly pp g, T.ct[c]? = some (C, ly) ∧ Cls K C ∧ PropOf K C m pp g ∧ Callee P w K mg base T k g 1 [] φ
/-- an own __contains__ -/
def ConD (P : Program) (w : World) (K : PySem.W.Frag) (mg : Str → Option Value) (base : Heap) (T : Tab) (k c : Nat) (φ : FnD) : Prop :=
  ∃ C ly g, T.ct[c]? = some (C, ly) ∧ PySem.W.findIn K (.ref C) "__contains__" = some (some (.ref g)) ∧ PySem.W.isFn K (.ref g) = true ∧ Callee P w K mg base T k g 2 [] φ
section
variable {X : Cx} {T : Tab} {W : WX} {a b e o : Expr} {es : List Expr} {kws : List Keyword} {φ ψ χ : Sem1 D} {α κ : Sem1 (List D)} {pos p pos' apos p2 tpos : Pos} {x m : Str} {k k' : Nat}
theorem Vr (i : Nat) (hN : X.N[i]? = some x := by rfl) (hv : Vis X.env.scope x := by first | exact Or.inl rfl | exact Or.inr (Or.inl rfl) | exact Or.inr (Or.inr rfl)) (hd : (x == ("__debug__" : Str)) = false := by decide) (hcd : (x == ("__classdict__" : Str)) = false := by decide) :
    KE X T W (.Name x pos) (eVar i) := d_var hN hv hd hcd
theorem A1 (ha : KE X T W a φ) (hr : KA X T W es α) (hs : isStar a = false := by rfl) : KA X T W (a :: es) (aCons φ α) := a_cons ha hr (star_cons hs)
theorem Cq {op : CmpOp} {g : O2} (ho : ∀ rs, OpR X (compareOp op) (RO2 (kx X T) rs g)) (ha : KE X T W a φ) (hb : KE X T W b ψ) (hm : behindInMarks op b = false := by first | exact nobehind _ (by decide) (by decide) | rfl) : KE X T W (.Compare a [op] [b] pos) (eBin g φ ψ) := d_cmp ho ha hb hm
theorem Tq {op : CmpOp} {g : O2} (ho : ∀ rs, OpR X (compareOp op) (RO2 (kx X T) rs g)) (ha : KE X T W a φ) (hb : KE X T W b ψ) (hm : behindInMarks op b = false := by first | exact nobehind _ (by decide) (by decide) | rfl) : KT X T W (.Compare a [op] [b] pos) (tCmp g φ ψ) := t_cmp ho ha hb hm
theorem Tv (ha : KE X T W a φ) (he : ∀ whole, isTrue a X.env whole = (do let v ← whole; standAt a.pos; holding [v] (truthy v)) := by intro _; rfl) : KT X T W a (tOf φ) := t_val ha he
theorem Tw {τ : Sem1 Bool} (h : KWt X T W a τ) : KT X T W a τ := fun rs => (h rs).pt
theorem Ix (hu : X.A.units + 1 < cLine) (ha : KE X T W a φ) (hb : KE X T W b ψ) (hs : PlainIx b := by intro _ _; rfl) : KE X T W (.Subscript a b pos) (eBin ixD φ ψ) := d_sub hu ha hb hs
theorem Call {f : Addr} {φf : FnD} (c : Callee X.prog X.w X.K X.mg X.base T k' f es.length (kws.filterMap kwN) φf) (hr : Room k X.A) (tk : Takes X W) (hm : X.mg x = some (.ref f)) (hk : PySem.W.keepIn X.K (.ref f) = true) (ha : KA X T W es α) (hkw : KK X T W kws κ)
    (hl : k' ≤ k := by first | decide | omega) (hg : Gl X x := by rfl) (hdb : (x == ("__debug__" : Str)) = false := by decide) (hα : es = [] → α = aNil := by first | exact (fun _ => rfl) | exact (fun h => nomatch h)) (h2 : es.any isStar = false := by rfl) (h3 : kws.all (fun k => (kwN k).isSome) = true := by rfl) :
    KE X T W (.Call (.Name x p) es kws pos) (eCall φf α κ) := d_call c (hr.mono hl) tk hg hm hk hdb hα h2 h3 ha hkw
theorem Mke {f C : Addr} {φf : FnD} {c n : Nat} {ly : List Str} (hc : T.ct[c]? = some (C, ly)) (hn : n = ly.length) (M : Mk X.K C f) (cl : Callee X.prog X.w X.K X.mg X.base T k' f (es.length + 1) (kws.filterMap kwN) φf) (hr : Room k X.A) (tk : Takes X W) (hm : X.mg x = some (.ref C))
    (ha : KA X T W es α) (hkw : KK X T W kws κ) (hl : k' + 1 ≤ k := by first | decide | omega) (hg : Gl X x := by rfl) (hdb : (x == ("__debug__" : Str)) = false := by decide) (hα : es = [] → α = aNil := by first | exact (fun _ => rfl) | exact (fun h => nomatch h)) (h2 : es.any isStar = false := by rfl)
    (h3 : kws.all (fun k => (kwN k).isSome) = true := by rfl) : KE X T W (.Call (.Name x p) es kws pos) (eCall (mkF c n φf) α κ) := d_make hc hn M cl (hr.mono hl) tk hg hm hdb hα h2 h3 ha hkw
theorem Met {tbl : List (Nat × FnD)} (ht : ∀ c φ, tbl.lookup c = some φ → MetD X.prog X.w X.K X.mg X.base T k' c m es.length (kws.filterMap kwN) φ) (hr : Room k X.A) (tk : Takes X W) (ho : KE X T W o ψ) (ha : KA X T W es α) (hkw : KK X T W kws κ) (hl : k' ≤ k := by first | decide | omega) (h1 : isSup o = false := by rfl)
    (h4 : decide (es.length + kws.length < 29) = true := by rfl) (h5 : (apos.endLine == pos.line) = true := by rfl) (hα : es = [] → α = aNil := by first | exact (fun _ => rfl) | exact (fun h => nomatch h)) (h2 : es.any isStar = false := by rfl) (h3 : kws.all (fun k => (kwN k).isSome) = true := by rfl) :
    KE X T W (.Call (.Attribute o m apos) es kws pos) (eMeth tbl ψ α κ) := d_meth (fun c φ h => by
  obtain ⟨C, ly, g, a1, a2, a3, a4, a5⟩ := ht c φ h
  exact ⟨C, ly, g, k', a1, a2, a3, a4, a5, hr.mono hl⟩) tk ho h1 h4 h5 hα h2 h3 ha hkw
theorem Att {tp : List (Nat × FnD)} {tf : List (Nat × Nat)} (ht : ∀ c φ, tp.lookup c = some φ → PrpD X.prog X.w X.K X.mg X.base T k' c m φ) (hf : ∀ c j, tf.lookup c = some j → FldD X.K T c m j) (hr : Room k X.A) (ho : KE X T W o ψ) (hl : k' + 1 ≤ k := by first | decide | omega) (h1 : isSup o = false := by rfl) :
    KE X T W (.Attribute o m pos) (eAttr tp tf ψ) := d_attr (fun c φ h => by
  obtain ⟨C, ly, pp, g, a1, a2, a3, a4⟩ := ht c φ h
  exact ⟨C, ly, pp, g, k', a1, a2, a3, a4, hr.mono hl⟩) (fun c j _ h => by
  obtain ⟨C, ly, a1, a2, a3, a4, _⟩ := hf c j h
  exact ⟨C, ly, a1, a2, a3, a4⟩) ho h1
theorem Fld {tf : List (Nat × Nat)} (hf : ∀ c j, tf.lookup c = some j → FldD X.K T c m j) (ho : KE X T W o ψ) (h1 : isSup o = false := by rfl) : KE X T W (.Attribute o m pos) (eAttr [] tf ψ) := d_attr tblN (fun c j _ h => by
  obtain ⟨C, ly, a1, a2, a3, a4, _⟩ := hf c j h
  exact ⟨C, ly, a1, a2, a3, a4⟩) ho h1
theorem Con {C : Addr} {mc : Value} {v : V} {u : Value} {d : D} (hm : X.mg x = some (.ref C)) (cr : ClX.CRead X.K C mc) (cv : ClX.CVal X.K C mc m v u) (hr : ∀ ι F, Rep (kx X T) ι F d v) (hg : Gl X x := by rfl) (hdb : (x == ("__debug__" : Str)) = false := by decide) :
    KE X T W (.Attribute (.Name x p2) m pos) (eC d) := d_ccon hg hm hdb cr cv hr
theorem Blt {id : String} {g : OL} (hc : ∀ rs, CallR X (.builtin id) (RC (kx X T) rs g)) (hm : X.mg x = none) (ha : KA X T W (e :: es) α) (hv : bootBuiltins x = some (.builtin id) := by rfl) (hg : Gl X x := by rfl) (hn : x ≠ "__name__" := by decide) (hdb : (x == ("__debug__" : Str)) = false := by decide)
    (h2 : (e :: es).any isStar = false := by rfl) : KE X T W (.Call (.Name x p) (e :: es) [] pos) (eBlt g α) := by
  first
  | exact d_blt hc hg hm hv hn hdb ha h2
  | exact d_blt hc hg hm hv hn hdb h2 ha
theorem Bty {id : String} {g : OL} (hc : ∀ rs, CallR X (.type id) (RC (kx X T) rs g)) (hm : X.mg x = none) (ha : KA X T W (e :: es) α) (hv : bootBuiltins x = some (.type id) := by rfl) (hg : Gl X x := by rfl) (hn : x ≠ "__name__" := by decide) (hdb : (x == ("__debug__" : Str)) = false := by decide)
    (h2 : (e :: es).any isStar = false := by rfl) : KE X T W (.Call (.Name x p) (e :: es) [] pos) (eBlt g α) := by
  first
  | exact d_bty hc hg hm hv hn hdb ha h2
  | exact d_bty hc hg hm hv hn hdb h2 ha
end
end LD
namespace LD
open PySem PySem.Spec PyProof.Rows L2
/-- the def at f as the text has it -/
def FnAt (K : PySem.W.Frag) (x qual : Str) (st : Stmt) (f : Addr) : Prop := ∃ (oc : Value) (od : Option Addr) (kV doc pm : Value) (an : Option Addr) (cdv ct : Value) (osl : Array (Option Value)),
  K.lookup f = some ⟨oc, od, .func (PySem.W.fnOf x qual (defArgs st) (defBody st) (defScope st) .none kV doc pm an cdv ct), osl⟩ ∧ PySem.W.codeIn K cdv qual = true ∧ PySem.W.keepIn K (.ref f) = true
theorem fnAt_mk {K : PySem.W.Frag} {x qual : Str} {st : Stmt} {f : Addr} {oc : Value} {od : Option Addr} {kV doc pm : Value} {an : Option Addr} {cdv ct : Value} {osl : Array (Option Value)}
    (l : K.lookup f = some ⟨oc, od, .func (PySem.W.fnOf x qual (defArgs st) (defBody st) (defScope st) .none kV doc pm an cdv ct), osl⟩) (c : PySem.W.codeIn K cdv qual = true) (k : PySem.W.keepIn K (.ref f) = true) : FnAt K x qual st f := ⟨_, _, _, _, _, _, _, _, _, l, c, k⟩
theorem ownC {X : Cx} {T : Tab} {k k' : Nat} {tbl : List (Nat × FnD)} (ht : ∀ c φ, tbl.lookup c = some φ → ConD X.prog X.w X.K X.mg X.base T k' c φ) (hr : Room k X.A) (hl : k' ≤ k) :
    ∀ c φ, tbl.lookup c = some φ → ∃ C ly g k, T.ct[c]? = some (C, ly) ∧ PySem.W.findIn X.K (.ref C) "__contains__" = some (some (.ref g)) ∧ PySem.W.isFn X.K (.ref g) = true ∧ Callee X.prog X.w X.K X.mg X.base T k g 2 [] φ ∧ Room k X.A := fun c φ h => by
  obtain ⟨C, ly, g, a1, a2, a3, a4⟩ := ht c φ h
  exact ⟨C, ly, g, k', a1, a2, a3, a4, hr.mono hl⟩
theorem tup_const {K : PySem.W.Frag} {F : Hp} {a : Addr} {dd : Option Addr} {n : Nat} {sl : Array (Option Value)} {its : Array Value} {vs : List V} (l : K.lookup a = some ⟨.type "tuple", dd, .seq its n, sl⟩) (z : its.size ≤ sizeLine) (h : Vals vs its.toList) : SqT K F a vs :=
  .inr ⟨_, its, n, l, rfl, rfl, z, h⟩
end LD
namespace LD
open PySem PySem.Spec PyProof.Rows L2
/-- the law's def is called on the script behind the top: nothing but the script is known, and it stays -/
theorem law_at {P : Program} {w : World} {K : PySem.W.Frag} {mg mb : Str → Option Value} {T : Tab} {k : Nat} {fa a : Addr} {fd : FuncData} {x : Str} {φ : FnD} {s₁ : Shared} {vs : List Value} {ns : List Int}
    (KX : K.In s₁.heap) (hns : s₁.heap.Ns mainGlobals mg) (hb : s₁.heap.Ns builtinsNs mb) (hbb : ∀ x : Str, x ≠ "__name__" → mb x = bootBuiltins x) (hlim : s₁.heap.NoLimit) (hg : s₁.gens = #[])
    (ha : s₁.heap.get? a = some { cls := .type "list", data := .seq vs.toArray }) (hi : IntsAre vs ns) (hl : ns.length ≤ 63) (hr : Room k callerA)
    (F : ∀ base : Heap, K.In base → base.Ns mainGlobals mg → FnX P w K mg base T k fa fd [x] φ) (hbind : ∀ (s : Shared) (u : Value), BindsTo s fd ⟨[u], []⟩ [(x, u)]) (L : LawD 63 φ) :
    codeAny (model P w) callerA (.call (.ref fa) ⟨[.ref a], []⟩) (fun r s' => r = .ok (.ret (.bool true)) ∧ OldK s₁.heap s'.heap ∧ s'.os = s₁.os ∧ AllBare s'.gens) s₁ := by
  have rv := vals_ints hi
  have lenV := hi.length
  have h63 : (63 : Nat) ≤ sizeLine := by rw [sizeLine_eq]; decide
  obtain ⟨M, hM⟩ := L ns hl
  have go : ∀ H : Hp, SqL K H a (ns.map V.int) → HOk P w H s₁.heap → (∀ b u, H b = some u → b = a ∧ K.lookup a = none ∧ u = .frz { cls := .type "list", data := .seq vs.toArray } (.lst (ns.map V.int))) →
      codeAny (model P w) callerA (.call (.ref fa) ⟨[.ref a], []⟩) (fun r s' => r = .ok (.ret (.bool true)) ∧ OldK s₁.heap s'.heap ∧ s'.os = s₁.os ∧ AllBare s'.gens) s₁ := by
    intro H hS hok hA
    have noD : ∀ {b : Addr} {o : Obj} {es : Array DictEntry} {ep : Nat}, s₁.heap.get? b = some o → o.data = .dict es ep → H b = none := fun {b o es ep} e d => by
      cases q : H b with
      | none => rfl
      | some u =>
        obtain ⟨e1, _, _⟩ := hA b u q
        rw [e1, ha] at e
        cases e
        cases d
    have hid : ∀ {b : Addr} {m : Str → Option Value}, s₁.heap.Ns b m → (hidT s₁.heap H).Ns b m := fun {b m} ⟨o, es, ep, e, d, r⟩ => ⟨o, es, ep, hidT_get e (noD e d), d, r⟩
    have hKb : K.In (hidT s₁.heap H) := fun b o e => hidT_get (KX b o e) (by
      cases q : H b with
      | none => rfl
      | some u =>
        obtain ⟨e1, e2, _⟩ := hA b u q
        rw [e1, e2] at e
        cases e)
    obtain ⟨mc, l1, l2⟩ := hlim
    have e0 : Env0 P w K mg (hidT s₁.heap H) callerA [] s₁ H := ⟨rfl, ⟨hKb, hid hns, ⟨mb, hid hb, hbb⟩, ⟨mc, hid l1, l2⟩⟩, fun b o e => of_hidT e, Nat.le_of_eq (hidT_size _ _), trivial, fun b hb => (nomatch hb), hok, .of_eq hg⟩
    refine codeAny_mono ((F _ hKb (hid hns)).run [] callerA [] s₁ H ⟨[.ref a], []⟩ [.ref a] [.ref a] (fun v _ => v = .bl true) (fun _ _ _ => False) hr e0 (hbind s₁ (.ref a)) (.cons rfl .nil)
      ⟨[], H, [intsD ns], [], ⟨rfl, fun _ _ h => h, fun i o a e => by simp at e, fun i j a e => by simp at e, fun i a e => by simp at e, fun p hp => by simp at hp, fun i a k e => by simp at e⟩, ⟨_, _, rfl, ⟨a, _, rfl, hS, intsD_rep ns⟩, rfl⟩, by
        rw [hM]
        intro ι' F' H' v _ _ rv
        exact rv⟩) fun r s' h => ?_
    cases r with
    | error e =>
      obtain ⟨_, _, _, _, _, _, _, _, _, _, _, _, z⟩ := h
      exact z.elim
    | ok fl =>
      cases fl with
      | next => exact False.elim h
      | brk => exact False.elim h
      | cont => exact False.elim h
      | ret u =>
        obtain ⟨v, H', os, bare, un, hok', r', q⟩ := h
        have q' : v = .bl true := q
        subst q'
        obtain rfl : u = Value.bool true := r'
        refine ⟨rfl, OldK.of_keep fun b o e => ?_, os, bare⟩
        cases q : H b with
        | none => exact un.keep b o e q (fun z => nomatch z) (fun z => nomatch z)
        | some u =>
          obtain ⟨e1, _, e3⟩ := hA b u q
          subst e3
          obtain ⟨f1, _⟩ := hok b _ q
          obtain ⟨f2, _⟩ := hok' b _ (un.frzs b _ _ q)
          exact f2.trans (f1.symm.trans e)
  cases hk : K.lookup a with
  | some o =>
    have e := KX a o hk
    rw [ha] at e
    cases e
    exact go (fun _ => none) (.inr ⟨_, vs.toArray, _, hk, rfl, rfl, rfl, by rw [List.size_toArray, lenV]; omega, by simpa using rv⟩) (fun b u z => nomatch z) fun b u z => nomatch z
  | none =>
    have at_ : ∀ b u, (if b = a then some (HO.frz { cls := .type "list", data := .seq vs.toArray } (.lst (ns.map V.int))) else none) = some u → b = a ∧ u = .frz { cls := .type "list", data := .seq vs.toArray } (.lst (ns.map V.int)) := fun b u z => by
      split at z
      · rename_i hb
        cases z
        exact ⟨hb, rfl⟩
      · cases z
    refine go (fun b => if b = a then some (.frz { cls := .type "list", data := .seq vs.toArray } (.lst (ns.map V.int))) else none) (.inl (.inr ⟨_, if_pos rfl⟩)) (fun b u z => ?_) fun b u z => ⟨(at_ b u z).1, hk, (at_ b u z).2⟩
    obtain ⟨e1, e2⟩ := at_ b u z
    subst e1 e2
    exact ⟨ha, by rw [List.length_map]; omega, vs, _, rv, ha⟩
theorem walk_d {l : PySem.W.OpenLaw} {k : Nat} {q : Program} {loose : List Str} {XP : (Str → Option Value) → Heap → Prop} {YP : World → Heap → Prop} {d : DefRec} {K : Params → PySem.W.Frag} {x : Str} {φ : FnD} (hn : l.most = some 63) (hdf : d.params.defaults = [])
    (hY : ∀ (w : World) (h : Heap), YP w h → (K w.params).In h) (hr : L2.Room k callerA) (L : LawD 63 φ)
    (F : ∀ (w : World) (mg : Str → Option Value) (fa : Addr) (h : Heap), (K w.params).In h → h.Ns mainGlobals mg → mg d.name = some (.ref fa) →
      ∃ (T : Tab) (fd : FuncData), (∀ (s : Shared) (u : Value), BindsTo s fd ⟨[u], []⟩ [(x, u)]) ∧ ∀ base : Heap, (K w.params).In base → base.Ns mainGlobals mg → FnX l.prog w (K w.params) mg base T k fa fd [x] φ) :
    PySem.W.WalkO q loose XP YP l.row.toRowW d [] (fun f vs => PySem.call f vs) := by
  refine Att.attach_call hn hdf fun w s₀ s₁ mg mb fa o pm cd doc a vs ns G Y ho hd hcd hmg hobj hints hlen hg => ?_
  have KX := hY w _ Y
  obtain ⟨T, fd, hb, hF⟩ := F w mg fa _ KX G.T.g hmg
  exact law_at KX G.T.g G.T.b G.T.builtins G.T.nolimit hg hobj hints hlen ⟨hr, rfl⟩ hF hb L
end LD
namespace LD
open PySem PySem.Spec PyProof.Rows L2

/-! ### evaluation, step by step: every row holds by computation -/
/-- what is not looked into before its turn -/
inductive Tg {α : Type} (a : α) : Type
  | mk
def pick {α : Type} (k : Bool) (a b : α) (_ : Tg a) (_ : Tg b) : α := if k then a else b
theorem pick_t {α : Type} {a b : α} {t : Tg a} {u : Tg b} : pick true a b t u = a := rfl
theorem pick_f {α : Type} {a b : α} {t : Tg a} {u : Tg b} : pick false a b t u = b := rfl
def bnd {α β : Type} (r : R α) (f : α → Mem → R β) (_ : Tg f) : R β := r.bind f
theorem bind_k {α β : Type} {a : α} {M : Mem} {f : α → Mem → R β} {t : Tg f} : bnd (R.ok a M) f t = f a M := rfl
theorem bind_b {α β : Type} {f : α → Mem → R β} {t : Tg f} : bnd (R.bad : R α) f t = .bad := rfl
theorem bind_e {α β : Type} {x : Exn} {M : Mem} {f : α → Mem → R β} {t : Tg f} : bnd (R.er x M : R α) f t = .er x M := rfl
def bndS {α : Type} (r : R α) (s : DS) (f : α → Mem → RS) (_ : Tg f) : RS := bindS r s f
theorem bindS_k {α : Type} {a : α} {M : Mem} {s : DS} {k : α → Mem → RS} {t : Tg k} : bndS (.ok a M) s k t = k a M := rfl
theorem bindS_e {α : Type} {x : Exn} {M : Mem} {s : DS} {k : α → Mem → RS} {t : Tg k} : bndS (.er x M : R α) s k t = .er x s M := rfl
theorem ofO_s {α : Type} {a : α} {M : Mem} : ofO (some (a, M)) = .ok a M := rfl
def getV (o : Option (Option D)) (M : Mem) : R D := match o with
  | some (some d) => .ok d M
  | _ => .bad
theorem getV_s {d : D} {M : Mem} : getV (some (some d)) M = .ok d M := rfl
def truK (o : Option Bool) (k : Bool → R α) (_ : Tg k) : R α := match o with
  | some b => k b
  | none => .bad
theorem truK_s {α : Type} {b : Bool} {k : Bool → R α} {t : Tg k} : truK (some b) k t = k b := rfl
def blK (z : D) (k : Bool → R α) (_ : Tg k) : R α := match z with
  | .bl b => k b
  | _ => .bad
theorem blK_b {α : Type} {b : Bool} {k : Bool → R α} {t : Tg k} : blK (.bl b) k t = k b := rfl
section
variable {s : DS} {M : Mem} {d x y : D} {i j : Nat} {a b c : Sem1 D} {τ υ : Sem1 Bool} {g g' : O2} {u : O1} {α κ : Sem1 (List D)} {φ : FnD} {ψ χ : SSem} {γ : GSem}
theorem q_C : eC d s M = .ok d M := rfl
theorem q_Var : eVar i s M = getV s[i]? M := rfl
theorem q_Bin : eBin g a b s M = bnd (a s M) (fun x M1 => bnd (b s M1) (fun y M2 => ofO (g x y M2)) .mk) .mk := rfl
theorem q_Un : eUn u a s M = bnd (a s M) (fun x M1 => ofO (u x M1)) .mk := rfl
theorem q_tOf : tOf a s M = bnd (a s M) (fun x M1 => truK (truD M1 x) (fun b => .ok b M1) .mk) .mk := by
  show (a s M).bind _ = (a s M).bind _
  congr 1
theorem q_tCmp : tCmp g a b s M = bnd (eBin g a b s M) (fun z M1 => blK z (fun k => .ok k M1) .mk) .mk := by
  show (eBin g a b s M).bind _ = (eBin g a b s M).bind _
  congr 1
theorem q_tAnd : tAnd τ υ s M = bnd (τ s M) (fun k M1 => pick k (υ s M1) (.ok false M1) .mk .mk) .mk := rfl
theorem q_tOr : tOr τ υ s M = bnd (τ s M) (fun k M1 => pick k (.ok true M1) (υ s M1) .mk .mk) .mk := rfl
theorem q_tNot : tNot τ s M = bnd (τ s M) (fun k M1 => .ok (!k) M1) .mk := rfl
theorem q_And : eAnd a b s M = bnd (a s M) (fun x M1 => truK (truD M1 x) (fun k => pick k (b s M1) (.ok x M1) .mk .mk) .mk) .mk := by
  show (a s M).bind _ = (a s M).bind _
  congr 1
theorem q_Or : eOr a b s M = bnd (a s M) (fun x M1 => truK (truD M1 x) (fun k => pick k (.ok x M1) (b s M1) .mk .mk) .mk) .mk := by
  show (a s M).bind _ = (a s M).bind _
  congr 1
theorem q_Not : eNot a s M = bnd (a s M) (fun x M1 => truK (truD M1 x) (fun k => .ok (.bl (!k)) M1) .mk) .mk := by
  show (a s M).bind _ = (a s M).bind _
  congr 1
theorem q_If : eIf τ a b s M = bnd (τ s M) (fun k M1 => pick k (a s M1) (b s M1) .mk .mk) .mk := rfl
theorem q_Nil : aNil s M = .ok [] M := rfl
theorem q_Cons : aCons a α s M = bnd (a s M) (fun x M1 => bnd (α s M1) (fun xs M2 => .ok (x :: xs) M2) .mk) .mk := rfl
theorem q_Tup : eTup α s M = bnd (α s M) (fun xs M1 => if xs.length ≤ LINE then .ok (.tup xs) M1 else .bad) .mk := rfl
theorem q_Lst : eLst false α s M = bnd (α s M) (fun xs M1 => if xs.length ≤ LINE then .ok (.lst xs) M1 else .bad) .mk := rfl
theorem q_LstM : eLst true α s M = bnd (α s M) (fun xs M1 => if xs.length ≤ LINE then .ok (.ref M1.length) (M1 ++ [.lst xs]) else .bad) .mk := rfl
theorem q_Call : eCall φ α κ s M = bnd (α s M) (fun ds M1 => bnd (κ s M1) (fun zs M2 => φ (ds ++ zs) M2) .mk) .mk := rfl
def nonK (z r : D) (M : Mem) : R D := match z with
  | .non => .ok r M
  | _ => .bad
theorem nonK_n {r : D} : nonK .non r M = .ok r M := rfl
theorem q_mkF {c n : Nat} {xs : List D} : mkF c n φ xs M = bnd (φ (.ref M.length :: xs) (M ++ [.ins c (List.replicate n none)])) (fun v M' => nonK v (.ref M.length) M') .mk := by
  show R.bind _ _ = R.bind _ _
  congr 1
def okK (r : R D) : R D := match r with
  | .ok d M1 => .ok d M1
  | _ => .bad
theorem okK_o : okK (.ok d M) = .ok d M := rfl
def insK (o : Option DO) (k : Nat → List (Option D) → R D) (_ : Tg k) : R D := match o with
  | some (.ins c fs) => k c fs
  | _ => .bad
def refK (x : D) (k : Nat → R D) (_ : Tg k) : R D := match x with
  | .ref i => k i
  | _ => .bad
def lookK {β : Type} (o : Option β) (k : β → R D) (e : R D) (_ : Tg k) (_ : Tg e) : R D := match o with
  | some φ => k φ
  | none => e
theorem refK_r {k : Nat → R D} {t : Tg k} : refK (.ref i) k t = k i := rfl
theorem insK_i {c : Nat} {fs : List (Option D)} {k : Nat → List (Option D) → R D} {t : Tg k} : insK (some (.ins c fs)) k t = k c fs := rfl
theorem lookK_s {β : Type} {p : β} {k : β → R D} {e : R D} {t : Tg k} {u : Tg e} : lookK (some p) k e t u = k p := rfl
theorem lookK_n {β : Type} {k : β → R D} {e : R D} {t : Tg k} {u : Tg e} : lookK none k e t u = e := rfl
theorem q_Meth {tbl : List (Nat × FnD)} : eMeth tbl a α κ s M = bnd (a s M) (fun x M0 => refK x (fun i => insK M0[i]? (fun c _ => lookK (tbl.lookup c) (fun φ => bnd (α s M0) (fun ds M1 => bnd (κ s M1) (fun zs M2 => φ ([.ref i] ++ ds ++ zs) M2) .mk) .mk) .bad .mk .mk) .mk) .mk) .mk := by
  show R.bind _ _ = R.bind _ _
  congr 1
  funext x M0
  cases x <;> try rfl
  rename_i i
  simp only [refK]
  cases M0[i]? with
  | none => rfl
  | some o =>
    cases o <;> try rfl
    rename_i c fs
    simp only [insK]
    cases tbl.lookup c <;> rfl
theorem q_Attr {tp : List (Nat × FnD)} {tf : List (Nat × Nat)} : eAttr tp tf a s M = bnd (a s M) (fun x M0 => refK x (fun i => insK M0[i]? (fun c fs => lookK (tp.lookup c) (fun φ => okK (φ [.ref i] M0)) (lookK (tf.lookup c) (fun j => getV fs[j]? M0) .bad .mk .mk) .mk .mk) .mk) .mk) .mk := by
  show R.bind _ _ = R.bind _ _
  congr 1
  funext x M0
  cases x <;> try rfl
  rename_i i
  simp only [refK]
  cases M0[i]? with
  | none => rfl
  | some o =>
    cases o <;> try rfl
    rename_i c fs
    simp only [insK]
    cases tp.lookup c with
    | some φ => rfl
    | none =>
      simp only [lookK]
      cases tf.lookup c with
      | none => rfl
      | some j =>
        simp only
        cases fs[j]? with
        | none => rfl
        | some o => cases o <;> rfl
theorem q_Blt {h : OL} : eBlt h α s M = bnd (α s M) (fun ds M1 => ofO (h ds M1)) .mk := rfl
def cmpK (mu : Bool) (src : Src) (γ : GSem) (τ : Sem1 Bool) (a : Sem1 D) (s : DS) (M : Mem) : R D := if src.xs.length ≤ LINE then bnd (compV src.chk γ τ a s src.xs M) (fun ys M2 => finL mu ys M2) .mk else .bad
theorem cmpK_l {mu : Bool} {xs : List D} {chk : Mem → Bool} (h : xs.length ≤ LINE) : cmpK mu ⟨xs, chk⟩ γ τ a s M = bnd (compV chk γ τ a s xs M) (fun ys M2 => finL mu ys M2) .mk := if_pos h
theorem q_Comp {mu : Bool} {χ : Sem1 Src} {own : List Nat} : eComp mu χ γ τ a own s M = bnd (χ s M) (fun src M1 => cmpK mu src γ τ a (wipeD s own) M1) .mk := rfl
theorem finL_f {xs : List D} : finL false xs M = .ok (.lst xs) M := rfl
theorem finL_t {xs : List D} : finL true xs M = .ok (.ref M.length) (M ++ [.lst xs]) := rfl
def srcK (o : Option Src) (M : Mem) : R Src := match o with
  | some src => .ok src M
  | none => .bad
theorem srcK_s {c : Src} : srcK (some c) M = .ok c M := rfl
theorem q_iOf : iOf a s M = bnd (a s M) (fun x M1 => srcK (srcOf M1 x) M1) .mk := by
  unfold iOf srcK ; rfl
def rngK (xs : List D) (M : Mem) : R Src := match xs with
  | [.int n] => if mid n then .ok ⟨rangeL 0 n.toNat 1, fun _ => true⟩ M else .bad
  | [.int m, .int n] => if mid m && mid n then .ok ⟨rangeL m (n - m).toNat 1, fun _ => true⟩ M else .bad
  | _ => .bad
theorem q_iRange : iRange α s M = bnd (α s M) (fun xs M1 => rngK xs M1) .mk := rfl
theorem rngK_1 {n : Int} (h : mid n = true) : rngK [.int n] M = .ok ⟨rangeL 0 n.toNat 1, fun _ => true⟩ M := by
  show (if mid n = true then _ else _) = _
  rw [if_pos h]
/-! statements -/
def RS.seq (r : RS) (k : DS → Mem → RS) (_ : Tg k) : RS := match r with
  | .nx s M => k s M
  | r => r
theorem seq_n {k : DS → Mem → RS} {t : Tg k} : (RS.nx s M).seq k t = k s M := rfl
theorem seq_r {k : DS → Mem → RS} {t : Tg k} : (RS.rt d M).seq k t = .rt d M := rfl
theorem seq_b {k : DS → Mem → RS} {t : Tg k} : (RS.bk s M).seq k t = .bk s M := rfl
theorem seq_c {k : DS → Mem → RS} {t : Tg k} : (RS.ct s M).seq k t = .ct s M := rfl
theorem seq_e {e : Exn} {k : DS → Mem → RS} {t : Tg k} : (RS.er e s M).seq k t = .er e s M := rfl
theorem q_Next : sNext s M = .nx s M := rfl
theorem q_Seq : sSeq ψ χ s M = (ψ s M).seq χ .mk := by
  unfold sSeq RS.seq
  cases ψ s M <;> rfl
theorem q_Expr : sExpr a s M = bndS (a s M) s (fun _ M' => .nx s M') .mk := rfl
theorem q_Ret : sRet a s M = bndS (a s M) s (fun d M' => .rt d M') .mk := rfl
theorem q_RetN : sRetN s M = .rt .non M := rfl
theorem q_SIf : sIf τ ψ χ s M = bndS (τ s M) s (fun k M' => pick k (ψ s M') (χ s M') .mk .mk) .mk := rfl
theorem q_Bk : sBk s M = .bk s M := rfl
theorem q_Ct : sCt s M = .ct s M := rfl
def storeK (o : Option DS) (M : Mem) : RS := match o with
  | some s' => .nx s' M
  | none => .bad
theorem storeK_s : storeK (some s) M = .nx s M := rfl
theorem q_Asg : sAsg γ a s M = bndS (a s M) s (fun d M' => storeK (γ d M' s) M') .mk := by
  unfold sAsg storeK ; rfl
theorem q_Nm : gNm i d M s = some (s.set i (some d)) := rfl
def memK (o : Option Mem) (s : DS) : RS := match o with
  | some M => .nx s M
  | none => .bad
theorem memK_s : memK (some M) s = .nx s M := rfl
theorem q_Sub : sSub a b c s M = bndS (c s M) s (fun d M1 => bndS (a s M1) s (fun x M2 => bndS (b s M2) s (fun y M3 => memK (setD x y d M3) s) .mk) .mk) .mk := by
  unfold sSub memK ; rfl
theorem q_Del : sDel a b s M = bndS (a s M) s (fun x M2 => bndS (b s M2) s (fun y M3 => memK (delD x y M3) s) .mk) .mk := by
  unfold sDel memK ; rfl
def refS (x : D) (k : Nat → RS) (_ : Tg k) : RS := match x with
  | .ref i => k i
  | _ => .bad
def insS (o : Option DO) (k : Nat → List (Option D) → RS) (_ : Tg k) : RS := match o with
  | some (.ins c fs) => k c fs
  | _ => .bad
def lookS {β : Type} (o : Option β) (k : β → RS) (_ : Tg k) : RS := match o with
  | some φ => k φ
  | none => .bad
theorem refS_r {k : Nat → RS} {t : Tg k} : refS (.ref i) k t = k i := rfl
theorem insS_i {c : Nat} {fs : List (Option D)} {k : Nat → List (Option D) → RS} {t : Tg k} : insS (some (.ins c fs)) k t = k c fs := rfl
theorem lookS_s {β : Type} {p : β} {k : β → RS} {t : Tg k} : lookS (some p) k t = k p := rfl
theorem q_Fld {tf : List (Nat × Nat)} : sFldD tf a b s M = bndS (b s M) s (fun d M1 => bndS (a s M1) s (fun x M2 => refS x (fun i => insS M2[i]? (fun c fs => lookS (tf.lookup c) (fun j => .nx s (M2.set i (.ins c (fs.set j (some d))))) .mk) .mk) .mk) .mk) .mk := by
  show bindS _ _ _ = bindS _ _ _
  congr 1
  funext d M1
  show bindS _ _ _ = bindS _ _ _
  congr 1
  funext x M2
  cases x <;> try rfl
  rename_i i
  simp only [refS]
  cases M2[i]? with
  | none => rfl
  | some o =>
    cases o <;> try rfl
    rename_i c fs
    simp only [insS]
    cases tf.lookup c <;> rfl
theorem q_Dic : eDic0 true s M = .ok (.ref M.length) (M ++ [.dic []]) := rfl
theorem q_For {χ : Sem1 Src} : sFor χ γ ψ s M = bndS (χ s M) s (fun src M1 => forV src.chk γ ψ src.xs s M1) .mk := rfl
def endF (r : RS) : R D := match r with
  | .nx _ M' => .ok .non M'
  | .rt d M' => .ok d M'
  | .er x _ M' => .er x M'
  | _ => .bad
theorem endF_n : endF (.nx s M) = .ok .non M := rfl
theorem endF_r : endF (.rt d M) = .ok d M := rfl
theorem endF_e {e : Exn} : endF (.er e s M) = .er e M := rfl
theorem q_def {n np : Nat} {ds : List D} (h : ds.length = np) : defD n np ψ ds M = endF (ψ (startD n ds) M) := by
  unfold defD
  exact (if_pos h).trans (by cases ψ (startD n ds) M <;> rfl)
theorem run_def {n np : Nat} {ds : List D} {r : R D} (h : ds.length = np) (e : endF (ψ (startD n ds) M) = r) : defD n np ψ ds M = r := (q_def h).trans e
/-! operators -/
theorem ifT {α : Type} {h : Decidable True} {a b : α} : (@ite α True h a b) = a := if_pos trivial
theorem le0 : (0 ≤ LINE) = True := eq_true (by decide)
theorem le1 : (1 ≤ LINE) = True := eq_true (by decide)
theorem le2 : (2 ≤ LINE) = True := eq_true (by decide)
theorem le3 : (3 ≤ LINE) = True := eq_true (by decide)
theorem le4 : (4 ≤ LINE) = True := eq_true (by decide)
theorem le5 : (5 ≤ LINE) = True := eq_true (by decide)
theorem le6 : (6 ≤ LINE) = True := eq_true (by decide)
variable {p q : Int}
theorem v_add : addD (.int p) (.int q) M = some (.int (p + q), M) := rfl
theorem v_sub : subD (.int p) (.int q) M = some (.int (p - q), M) := rfl
theorem v_mul (h : (small p || small q) = true) : mulD (.int p) (.int q) M = some (.int (p * q), M) := if_pos h
theorem v_fdiv (h : 0 < q) (h2 : q < 1073741824) : fdivD (.int p) (.int q) M = some (.int (p / q), M) := if_pos (fdok_iff.mpr ⟨h, h2⟩)
theorem v_mulR (h : -18446744073709551616 < q) (h2 : q < 18446744073709551616) : mulD (.int p) (.int q) M = some (.int (p * q), M) := v_mul (by
  have : small q = true := small_iff.mpr ⟨h, h2⟩
  rw [this, Bool.or_true])
theorem v_mulL (h : -18446744073709551616 < p) (h2 : p < 18446744073709551616) : mulD (.int p) (.int q) M = some (.int (p * q), M) := v_mul (by
  have : small p = true := small_iff.mpr ⟨h, h2⟩
  rw [this, Bool.true_or])
theorem v_mod (h : 0 < q) : modD (.int p) (.int q) M = some (.int (p % q), M) := if_pos (decide_eq_true h)
theorem v_int : intC [.int p] M = some (.int p, M) := rfl
theorem v_lt : boD ltB (.int p) (.int q) M = some (.bl (decide (p < q)), M) := rfl
theorem v_le : boD leB (.int p) (.int q) M = some (.bl (decide (p ≤ q)), M) := rfl
theorem v_gt : boD gtB (.int p) (.int q) M = some (.bl (decide (q < p)), M) := rfl
theorem v_ge : boD geB (.int p) (.int q) M = some (.bl (decide (q ≤ p)), M) := rfl
theorem v_eq : boD eqD (.int p) (.int q) M = some (.bl (p == q), M) := rfl
theorem v_ne : boD (notB eqD) (.int p) (.int q) M = some (.bl (!(p == q)), M) := rfl
theorem v_len {xs : List D} : lenC [.lst xs] M = some (.int xs.length, M) := rfl
theorem v_tix {xs : List D} : ixD (.tup xs) (.int p) M = (atI xs p).map fun d => (d, M) := rfl
theorem v_lix {xs : List D} : ixD (.lst xs) (.int p) M = (atI xs p).map fun d => (d, M) := rfl
def rixK (o : Option DO) (y : D) (M : Mem) : Option (D × Mem) := match o with
  | some (.lst xs) => (match y with
    | .int i => (atI xs i).map fun d => (d, M)
    | _ => none)
  | some (.dic kvs) => (keyOf y).bind fun k => (getK kvs k).map fun d => (d, M)
  | some (.fdc kvs) => (keyOf y).bind fun k => (getK kvs k).map fun d => (d, M)
  | _ => none
theorem v_rix : ixD (.ref i) y M = rixK M[i]? y M := by
  unfold ixD rixK
  simp only [dcOf, lsOf]
  cases M[i]? with
  | none => rfl
  | some o => cases o <;> rfl
theorem rixK_l {xs : List D} : rixK (some (.lst xs)) (.int p) M = (atI xs p).map fun d => (d, M) := rfl
theorem rixK_d {kvs : List (Key × D)} : rixK (some (.dic kvs)) (.int p) M = (getK kvs (.inl p)).map fun d => (d, M) := rfl
theorem v_truB {b : Bool} : truD M (.bl b) = some b := rfl
theorem v_truL {xs : List D} : truD M (.lst xs) = some (!xs.isEmpty) := rfl
theorem v_truN : truD M .non = some false := rfl
theorem v_srcL {xs : List D} : srcOf M (.lst xs) = some ⟨xs, fun _ => true⟩ := rfl
theorem v_neg : negD (.int p) M = some (.int (-p), M) := rfl
theorem nn_n : isNon .non = true := rfl
theorem nn_i : isNon (.int p) = false := rfl
theorem nn_t {xs : List D} : isNon (.tup xs) = false := rfl
theorem nn_l {xs : List D} : isNon (.lst xs) = false := rfl
theorem nn_r : isNon (.ref i) = false := rfl
theorem nn_b {b : Bool} : isNon (.bl b) = false := rfl
theorem nn_s {x : Str} : isNon (.str x) = false := rfl
theorem v_isN {b : Bool} : boD isB (.bl b) (.bl c') M = some (.bl (b == c'), M) := rfl
theorem v_isnN {b : Bool} : boD (notB isB) (.bl b) (.bl c') M = some (.bl (!(b == c')), M) := rfl
theorem v_isNone : boD isB x .non M = some (.bl (isNon x), M) := rfl
theorem v_isNoneN : boD (notB isB) x .non M = some (.bl (!isNon x), M) := rfl
end
end LD
namespace LD
open PySem PySem.Spec PyProof.Rows L2

/-! ### equal to itself -/
mutual
def okD : Nat → D → Bool
  | _, .non => true
  | _, .bl _ => true
  | _, .int _ => true
  | _, .str x => (PyData.str x).canLay0
  | n + 1, .lst xs => okL n xs
  | n + 1, .tup xs => okL n xs
  | _, _ => false
def okL : Nat → List D → Bool
  | _, [] => true
  | n, x :: xs => okD n x && okL n xs
end
mutual
theorem okD_py : ∀ (n : Nat) (d : D), okD n d = true → ∃ p, pyD d = some p ∧ p.canLay0 = true ∧ p.depth ≤ n
  | n, .non, _ => ⟨_, rfl, by simp [PyData.canLay0], by simp [PyData.depth]⟩
  | n, .bl b, _ => ⟨_, rfl, by simp [PyData.canLay0], by simp [PyData.depth]⟩
  | n, .int b, _ => ⟨_, rfl, by simp [PyData.canLay0], by simp [PyData.depth]⟩
  | n + 1, .lst xs, h => by
    rw [okD] at h
    obtain ⟨ps, h1, h2, h3⟩ := okL_py n xs h
    exact ⟨.list ps, by rw [pyD, h1] <;> rfl, by rw [PyData.canLay0]; exact h2, by rw [PyData.depth]; omega⟩
  | n + 1, .tup xs, h => by
    rw [okD] at h
    obtain ⟨ps, h1, h2, h3⟩ := okL_py n xs h
    exact ⟨.tuple ps, by rw [pyD, h1] <;> rfl, by rw [PyData.canLay0]; exact h2, by rw [PyData.depth]; omega⟩
  | n, .str x, h => ⟨.str x, rfl, by simpa only [okD] using h, by simp [PyData.depth]⟩
  | n, .ty _, h => by simp [okD] at h
  | n, .dic _ _, h => by simp [okD] at h
  | n, .ref _, h => by simp [okD] at h
  | n, .glb _, h => by simp [okD] at h
  | 0, .lst _, h => by simp [okD] at h
  | 0, .tup _, h => by simp [okD] at h
theorem okL_py : ∀ (n : Nat) (ds : List D), okL n ds = true → ∃ ps, pyL ds = some ps ∧ PyData.canLayAll0 ps = true ∧ PyData.depthAll ps ≤ n
  | n, [], _ => ⟨[], rfl, rfl, by simp [PyData.depthAll]⟩
  | n, x :: xs, h => by
    rw [okL, Bool.and_eq_true] at h
    obtain ⟨p, h1, h2, h3⟩ := okD_py n x h.1
    obtain ⟨ps, h4, h5, h6⟩ := okL_py n xs h.2
    exact ⟨p :: ps, by rw [pyL, h1, h4] <;> rfl, by rw [PyData.canLayAll0, h2, h5] <;> rfl, by rw [PyData.depthAll]; omega⟩
end
theorem okL_map {α : Type} {n : Nat} {e : α → D} : ∀ {as : List α}, (∀ a ∈ as, okD n (e a) = true) → okL n (as.map e) = true
  | [], _ => by simp [okL]
  | a :: as, h => by
    rw [List.map_cons, okL, h a List.mem_cons_self, okL_map fun b hb => h b (List.mem_cons_of_mem _ hb)] <;> rfl
theorem eqD_self {n : Nat} {d : D} {M : Mem} (h : okD n d = true) (hn : n ≤ 64) : eqD M d d = some true := by
  obtain ⟨p, h1, h2, h3⟩ := okD_py n d h
  have hp : pyOf M d = some p := by
    cases d <;> first | exact h1 | (simp [okD] at h)
  unfold eqD
  split
  · rename_i hf
    cases d <;> first | rfl | (simp [eqF]; done) | (simp [isF] at hf)
  · rw [hp]
    show (if (SeqAt.shaped p && SeqAt.shaped p) = true then some (PyData.eqv p p) else none) = some true
    have hs : SeqAt.shaped p = true := by
      unfold SeqAt.shaped
      rw [h2, decide_eq_true (by omega)] <;> rfl
    rw [hs, SeqAt.eqv_refl p h2] <;> rfl
theorem v_eqS {n : Nat} {d : D} {M : Mem} (h : okD n d = true) (hn : n ≤ 64) : boD eqD d d M = some (.bl true, M) := by
  unfold boD
  rw [eqD_self h hn] <;> rfl
theorem v_neS {n : Nat} {d : D} {M : Mem} (h : okD n d = true) (hn : n ≤ 64) : boD (notB eqD) d d M = some (.bl false, M) := by
  unfold boD notB
  rw [eqD_self h hn] <;> rfl

/-! ### comprehensions and loops -/
theorem compV_map {α : Type} {chk : Mem → Bool} {γ : GSem} {τ : Sem1 Bool} {φ : Sem1 D} {s : DS} {M : Mem} {e g : α → D} {p : α → Bool} (hc : chk M = true) : ∀ {as : List α},
    (∀ a ∈ as, ∃ s1, γ (e a) M s = some s1 ∧ τ s1 M = .ok (p a) M ∧ (p a = true → φ s1 M = .ok (g a) M)) → compV chk γ τ φ s (as.map e) M = .ok ((as.filter p).map g) M
  | [], _ => by
    show (if chk M then _ else _) = _
    rw [if_pos hc] <;> rfl
  | a :: as, h => by
    obtain ⟨s1, h1, h2, h3⟩ := h a List.mem_cons_self
    have ih := compV_map (chk := chk) (γ := γ) (τ := τ) (φ := φ) (s := s) (M := M) (e := e) (g := g) (p := p) hc (as := as) fun b hb => h b (List.mem_cons_of_mem _ hb)
    rw [List.map_cons, compV, if_pos hc, h1]
    simp only [h2]
    by_cases hp : p a = true
    · rw [if_pos hp, h3 hp, List.filter_cons_of_pos hp, List.map_cons]
      simp only [ih, R.bind_ok]
    · rw [if_neg hp, List.filter_cons_of_neg hp, ih]
theorem forV_ind {chk : Mem → Bool} {γ : GSem} {ψ : SSem} (P : Nat → DS → Mem → Prop) : ∀ (xs : List D) (k : Nat) (s : DS) (M : Mem), P k s M → (∀ i x s M, xs[i]? = some x → P (k + i) s M → chk M = true ∧ ∃ s1, γ x M s = some s1 ∧ ∃ s2 M2, (ψ s1 M = .nx s2 M2 ∨ ψ s1 M = .ct s2 M2) ∧ P (k + i + 1) s2 M2) →
    (∀ s M, P (k + xs.length) s M → chk M = true) → ∃ s' M', forV chk γ ψ xs s M = .nx s' M' ∧ P (k + xs.length) s' M'
  | [], k, s, M, h, _, e => by
    refine ⟨s, M, ?_, h⟩
    rw [forV, if_pos (e s M h)]
  | x :: xs, k, s, M, h, t, e => by
    obtain ⟨c, s1, h1, s2, M2, h2, h3⟩ := t 0 x s M rfl h
    obtain ⟨s', M', a1, a2⟩ := forV_ind (chk := chk) (γ := γ) (ψ := ψ) P xs (k + 1) s2 M2 h3 (fun i y s M hy hp => by
      have z := t (i + 1) y s M hy (by rw [show k + (i + 1) = k + 1 + i by omega]; exact hp)
      rw [show k + (i + 1) = k + 1 + i by omega] at z
      exact z) (fun s M hp => e s M (by rw [List.length_cons, show k + (xs.length + 1) = k + 1 + xs.length by omega]; exact hp))
    refine ⟨s', M', ?_, by rw [List.length_cons, show k + (xs.length + 1) = k + 1 + xs.length by omega]; exact a2⟩
    rw [forV, if_pos c, h1]
    rcases h2 with h2 | h2
    · simp only [h2, a1]
    · simp only [h2, a1]
theorem forV_n {chk : Mem → Bool} {γ : GSem} {ψ : SSem} {s : DS} {M : Mem} (hc : chk M = true) : forV chk γ ψ [] s M = .nx s M := if_pos hc
theorem forV_c {chk : Mem → Bool} {γ : GSem} {ψ : SSem} {s s1 s2 : DS} {M M2 : Mem} {x : D} {xs : List D} (hc : chk M = true) (hg : γ x M s = some s1) (h : ψ s1 M = .nx s2 M2) : forV chk γ ψ (x :: xs) s M = forV chk γ ψ xs s2 M2 := by
  rw [forV, if_pos hc, hg]
  simp only [h]
theorem forV_r {chk : Mem → Bool} {γ : GSem} {ψ : SSem} {s s1 : DS} {M M2 : Mem} {x d : D} {xs : List D} (hc : chk M = true) (hg : γ x M s = some s1) (h : ψ s1 M = .rt d M2) : forV chk γ ψ (x :: xs) s M = .rt d M2 := by
  rw [forV, if_pos hc, hg]
  simp only [h]
theorem rangeL_mem {n : Nat} {x : D} (h : x ∈ rangeL 0 n 1) : ∃ k : Nat, x = .int (k : Int) ∧ k < n := by
  unfold rangeL at h
  obtain ⟨k, h1, rfl⟩ := List.mem_map.mp h
  exact ⟨k, by rw [Int.mul_one, Int.zero_add], List.mem_range.mp h1⟩
theorem rangeL_map (n : Nat) : rangeL 0 n 1 = ((List.range n).map fun i : Nat => (i : Int)).map D.int := by
  unfold rangeL
  rw [List.map_map]
  apply List.map_congr_left
  intro i _
  show D.int (0 + (i : Int) * 1) = D.int (i : Int)
  congr 1
  omega
theorem rng4 : rangeL 0 4 1 = [(0 : Int), 1, 2, 3].map D.int := rfl
theorem at0 {α : Type} {x : α} {xs : List α} : atI (x :: xs) 0 = some x := by
  unfold atI ixN
  simp
theorem atN {α : Type} {xs : List α} {n : Nat} {x : α} (h : xs[n]? = some x) : atI xs (n : Int) = some x := by
  have hl := (List.getElem?_eq_some_iff.mp h).1
  unfold atI ixN
  rw [if_pos (by omega), if_pos (by omega)]
  show xs[((n : Int)).toNat]? = _
  rw [Int.toNat_natCast, h]
theorem at1 {α : Type} {x y : α} {xs : List α} : atI (x :: y :: xs) 1 = some y := atN (n := 1) rfl
theorem atL {α : Type} {xs : List α} {x : α} (h : xs.getLast? = some x) : atI xs (-1) = some x := by
  have hne : xs ≠ [] := fun e => by rw [e] at h; cases h
  have hp : 0 < xs.length := List.length_pos_iff.mpr hne
  unfold atI ixN
  rw [if_neg (by omega), if_pos (by omega)]
  show xs[(-1 + (xs.length : Int)).toNat]? = _
  rw [List.getLast?_eq_getElem?] at h
  rw [← h]
  congr 1
  omega
theorem rngN {n : Int} {M : Mem} (h0 : -1000000 < n) (h : n < 1000000) : rngK [.int n] M = .ok ⟨rangeL 0 n.toNat 1, fun _ => true⟩ M := rngK_1 (mid_iff.mpr ⟨by omega, by omega⟩)
theorem rangeL_len {a : Int} {n : Nat} {c : Int} : (rangeL a n c).length = n := by
  unfold rangeL
  rw [List.length_map, List.length_range]
theorem gTp2 {i j : Nat} {x y : D} {M : Mem} {s : DS} : gTp [i, j] (.tup [x, y]) M s = some ((s.set i (some x)).set j (some y)) := rfl
/-- a text in lists of ints -/
theorem eqb_mut {i : Nat} {xs : List D} {M : Mem} (h : M[i]? = some (.lst xs)) : mutChk i xs M = true := by
  unfold mutChk
  rw [h]
  exact eqbL_refl xs
theorem v_addL {a b : List D} {M : Mem} (h : a.length + b.length ≤ LINE) : addD (.lst a) (.lst b) M = some (.lst (a ++ b), M) := if_pos h
theorem pyL_map {α : Type} {e : α → D} {f : α → PyData} (h : ∀ a, pyD (e a) = some (f a)) : ∀ as : List α, pyL (as.map e) = some (as.map f)
  | [] => rfl
  | a :: as => by
    rw [List.map_cons, pyL, h a, pyL_map h as] <;> rfl
theorem eqF_int {a b : Int} : eqF (.int a) (.int b) = (a == b) := rfl
theorem any_int {k : Int} : ∀ ls : List Int, ((ls.map D.int).any fun z => eqF z (.int k)) = decide (k ∈ ls)
  | [] => rfl
  | a :: r => by
    rw [List.map_cons, List.any_cons, any_int r, eqF_int]
    by_cases h : a = k
    · subst h
      simp
    · have h' : ¬ k = a := fun e => h e.symm
      simp [h, h']
theorem all_int : ∀ ls : List Int, (ls.map D.int).all isF = true
  | [] => rfl
  | a :: r => by rw [List.map_cons, List.all_cons, all_int r] <;> rfl
theorem v_inI {k : Int} {ls : List Int} {M : Mem} : inD M (.int k) (.lst (ls.map D.int)) = some (decide (k ∈ ls)) := by
  show (if (isF (.int k) && (ls.map D.int).all isF) = true then some ((ls.map D.int).any fun z => eqF z (.int k)) else _) = _
  rw [all_int, show (isF (.int k) && true) = true from rfl, if_pos rfl, any_int]
def pr2 (p : Int × Int) : D := .tup [.int p.1, .int p.2]
theorem v_inP {p : Int × Int} {ps : List (Int × Int)} {M : Mem} : inD M (pr2 p) (.lst (ps.map pr2)) = some (decide (p ∈ ps)) := by
  have e1 : pyL (ps.map pr2) = some (ps.map fun q => PyData.tuple [.int q.1, .int q.2]) := pyL_map (fun _ => rfl) ps
  have cl : ∀ qs : List (Int × Int), PyData.canLayAll0 (qs.map fun q => PyData.tuple [.int q.1, .int q.2]) = true := fun qs => by
    induction qs with
    | nil => rfl
    | cons q qs ih => rw [List.map_cons, PyData.canLayAll0, ih]; simp [PyData.canLay0, PyData.canLayAll0]
  have dp : ∀ qs : List (Int × Int), PyData.depthAll (qs.map fun q => PyData.tuple [.int q.1, .int q.2]) ≤ 1 := fun qs => by
    induction qs with
    | nil => simp [PyData.depthAll]
    | cons q qs ih =>
      rw [List.map_cons, PyData.depthAll]
      have : (PyData.tuple [.int q.1, .int q.2]).depth ≤ 1 := by simp [PyData.depth, PyData.depthAll]
      omega
  have h1 : SeqAt.shaped (PyData.tuple [.int p.1, .int p.2]) = true := by
    unfold SeqAt.shaped
    rw [show (PyData.tuple [.int p.1, .int p.2]).canLay0 = true by simp [PyData.canLay0, PyData.canLayAll0], decide_eq_true (show (PyData.tuple [.int p.1, .int p.2]).depth ≤ 64 by simp [PyData.depth, PyData.depthAll])] <;> rfl
  have h2 : SeqAt.shaped (PyData.list (ps.map fun q => PyData.tuple [.int q.1, .int q.2])) = true := by
    unfold SeqAt.shaped
    rw [show (PyData.list (ps.map fun q => PyData.tuple [.int q.1, .int q.2])).canLay0 = true by rw [PyData.canLay0]; exact cl ps, decide_eq_true (show (PyData.list (ps.map fun q => PyData.tuple [.int q.1, .int q.2])).depth ≤ 64 by rw [PyData.depth]; have := dp ps; omega)] <;> rfl
  have a : ∀ qs : List (Int × Int), ((qs.map fun q => PyData.tuple [.int q.1, .int q.2]).any fun z => PyData.eqv z (.tuple [.int p.1, .int p.2])) = decide (p ∈ qs) := fun qs => by
    induction qs with
    | nil => rfl
    | cons q qs ih =>
      rw [List.map_cons, List.any_cons, ih]
      have e : PyData.eqv (.tuple [.int q.1, .int q.2]) (.tuple [.int p.1, .int p.2]) = decide (p = q) := by
        simp only [PyData.eqv, PyData.eqvAll, Bool.and_true]
        obtain ⟨a, b⟩ := p
        obtain ⟨c, d⟩ := q
        dsimp only
        by_cases h1 : c = a
        · by_cases h2 : d = b
          · subst h1; subst h2; simp
          · have : ¬ b = d := fun e => h2 e.symm
            simp [h1, h2, this]
        · have : ¬ a = c := fun e => h1 e.symm
          simp [h1, this]
      rw [e]
      by_cases h : p = q
      · subst h; simp
      · simp [h]
  show (pyOf M (pr2 p)).bind (fun x => (pyL (ps.map pr2)).bind fun xs => if (SeqAt.shaped x && SeqAt.shaped (.list xs)) = true then some (xs.any fun z => PyData.eqv z x) else none) = _
  rw [e1]
  show (if (SeqAt.shaped (PyData.tuple [.int p.1, .int p.2]) && SeqAt.shaped (.list (ps.map fun q => PyData.tuple [.int q.1, .int q.2]))) = true then some ((ps.map fun q => PyData.tuple [.int q.1, .int q.2]).any fun z => PyData.eqv z (.tuple [.int p.1, .int p.2])) else none) = _
  rw [h1, h2, a] <;> rfl
theorem v_min {ks : List Int} {kvs : List (Key × D)} {M : Mem} {i : Nat} (h : M[i]? = some (.dic kvs)) (h2 : kvs.map (·.1) = ks.map Sum.inl) (h3 : ks ≠ []) : minC [.ref i] M = some (.int (minI ks), M) := by
  have hk : ∀ ns : List Int, intK (ns.map Sum.inl) = some ns := fun ns => by
    induction ns with
    | nil => rfl
    | cons n ns ih => rw [List.map_cons, intK, ih] <;> rfl
  unfold minC
  simp only [h, h2, hk]
  show (if ks.isEmpty = true then none else _) = _
  rw [if_neg]
  cases ks with
  | nil => exact absurd rfl h3
  | cons k ks => simp
end LD
namespace LD
open PySem PySem.Spec PyProof.Rows L2

/-! ### isinstance -/
def tyD (M : Mem) : D → Option String
  | .non => some "NoneType"
  | .bl _ => some "bool"
  | .int _ => some "int"
  | .str _ => some "str"
  | .lst _ => some "list"
  | .tup _ => some "tuple"
  | .dic _ _ => some "dict"
  | .ref i => match M[i]? with
    | some (.lst _) => some "list"
    | some (.dic _) => some "dict"
    | some (.fdc _) => some "dict"
    | _ => none
  | _ => none
def isiC : OL := fun ds M => match ds with
  | [x, .ty t] => (tyD M x).bind fun a => (kitB a t).map fun b => (.bl b, M)
  | _ => none
section
variable {X : Cx} {T : Tab} {W : WX} {K : KX} {ι : List Addr} {F H : Hp} {M : Mem} {rs : List (Addr × HO)} {pos : Pos} {x : Str}
theorem tyL {a : Addr} {vs : List V} (h : SqL K.fr H a vs) : TyX K.fr H (.ref a) (.type "list") := by
  rcases h with (h | ⟨o, h⟩) | ⟨o, its, n, h1, h2, _⟩
  · exact .base (.lst h)
  · exact .base (.frz h)
  · exact .kList h1 h2
theorem tyT {a : Addr} {vs : List V} (h : SqT K.fr H a vs) : TyX K.fr H (.ref a) (.type "tuple") := by
  rcases h with (h | ⟨o, h⟩) | ⟨o, its, n, h1, h2, _⟩
  · exact .base (.tup h)
  · exact .fTuple h
  · exact .kTuple h1 h2
theorem tyDd {a : Addr} {vs : List (Key × V)} (h : Rd H a (.dK vs)) : TyX K.fr H (.ref a) (.type "dict") := by
  rcases h with h | ⟨o, h⟩
  · exact .base (.dK h)
  · exact .fDict h
theorem tyD_at {d : D} {v : V} {t : String} (r : Rel K ι F rs H M) (h : Rep K ι F d v) (e : tyD M d = some t) : TyX K.fr H v (.type t) := by
  cases d with
  | non => cases h; cases e; exact .base .non
  | bl b => cases h; cases e; exact .base (.bl b)
  | int b => cases h; cases e; exact .base (.int b)
  | str b => cases h; cases e; exact .base (.str b)
  | lst xs => obtain ⟨a, vs, rfl, h1, h2⟩ := h; cases e; exact tyL (sql_sub r h1)
  | tup xs => obtain ⟨a, vs, rfl, h1, h2⟩ := h; cases e; exact tyT (sqt_sub r h1)
  | dic ks xs => obtain ⟨a, vs, rfl, h1, h2⟩ := h; cases e; exact tyDd (rd_sub r h1)
  | ref i =>
    obtain ⟨a, rfl, h1⟩ := h
    simp only [tyD] at e
    split at e
    · rename_i xs hM
      cases e
      obtain ⟨_, vs, h2, h3⟩ := r.obj i _ a hM h1 rfl
      exact .base (.lst h2)
    · rename_i kvs hM
      cases e
      obtain ⟨_, vs, h2, h3⟩ := r.obj i _ a hM h1 rfl
      exact .base (.dK h2)
    · rename_i kvs hM
      cases e
      obtain ⟨_, od, vs, h2, h3⟩ := r.obj i _ a hM h1 rfl
      exact .fDict h2
    · cases e
  | _ => cases e
theorem c_isi : CallR X (.builtin "isinstance") (RC (kx X T) rs isiC) := CallR.imp call_isi fun vs H Q h => by
  obtain ⟨ι, F, M, ds, z, M', r, rv, e, q⟩ := h
  unfold isiC at e
  split at e
  · rename_i x t
    obtain ⟨a, h1, e⟩ := Option.bind_eq_some_iff.mp e
    obtain ⟨b, h2, e⟩ := Option.map_eq_some_iff.mp e
    cases e
    obtain ⟨v, w, rfl, r1, r2⟩ := two_of rv
    cases r2
    exact ⟨v, _, .type a, .type t, b, rfl, .ty t, tyD_at r r1 h1, kit_ty h2, q ι F H _ Le.refl r rfl⟩
  · cases e
theorem Ty {t : String} (hm : X.mg x = none) (hv : bootBuiltins x = some (.type t) := by rfl) (hg : Gl X x := by rfl) (hn : x ≠ "__name__" := by decide) (hd : (x == ("__debug__" : Str)) = false := by decide) : KE X T W (.Name x pos) (eC (.ty t)) := fun rs => PE.imp (pe_bltn hg hm hv (v := .ty t) rfl hn hd) fun σ H Q h => by
  obtain ⟨ι, F, s, M, r, rS, p⟩ := h
  exact p.fin r rfl
theorem kit_ii : kitB "int" "int" = some true := by decide +kernel
theorem kit_ib : kitB "int" "bool" = some false := by decide +kernel
theorem kit_bi : kitB "bool" "int" = some true := by decide +kernel
theorem kit_bb : kitB "bool" "bool" = some true := by decide +kernel
theorem v_isiI {i : Int} : isiC [.int i, .ty "int"] M = some (.bl true, M) := by
  simp only [isiC, tyD, Option.bind_some, kit_ii, Option.map_some]
theorem v_isiB {i : Int} : isiC [.int i, .ty "bool"] M = some (.bl false, M) := by
  simp only [isiC, tyD, Option.bind_some, kit_ib, Option.map_some]
end
end LD
namespace LD
open PySem PySem.Spec PyProof.Rows L2

/-! ### methods of built-in values -/
abbrev OMt := D → List D → Mem → Option (D × Mem)
def eBm (ok : Mem → D → Bool) (g : OMt) (o : Sem1 D) (α : Sem1 (List D)) : Sem1 D := fun s M => (o s M).bind fun x M1 => if ok M1 x then (α s M1).bind fun ds M2 => ofO (g x ds M2) else .bad
def RM (K : KX) (rs : List (Addr × HO)) (g : OMt) : V → List V → Hp → VK → Prop := fun v ws H Q => ∃ ι F M x ds z M', Rel K ι F rs H M ∧ Rep K ι F x v ∧ RepL K ι F ds ws ∧ g x ds M = some (z, M') ∧ ∀ ι' F' H' u, Le K ι F ι' F' → Rel K ι' F' rs H' M' → Rep K ι' F' z u → Q u H'
def isLst (M : Mem) (x : D) : Bool := (lsOf M x).isSome
def isStrD (_ : Mem) : D → Bool
  | .str _ => true
  | _ => false
def isDcM (M : Mem) : D → Bool
  | .ref i => match M[i]? with
    | some (.dic _) => true
    | _ => false
  | _ => false
def appG : OMt := fun x ds M => match x, ds with
  | .ref i, [d] => match M[i]? with
    | some (.lst xs) => if xs.length < LINE then some (.non, M.set i (.lst (xs ++ [d]))) else none
    | _ => none
  | _, _ => none
def popG : OMt := fun x ds M => match x, ds with
  | .ref i, [] => match M[i]? with
    | some (.lst xs) => (xs[xs.length - 1]?).map fun d => (d, M.set i (.lst xs.dropLast))
    | _ => none
  | _, _ => none
section
variable {X : Cx} {T : Tab} {W : WX} {K : KX} {ι : List Addr} {F H : Hp} {M : Mem} {rs : List (Addr × HO)} {o e : Expr} {es : List Expr} {φ : Sem1 D} {α : Sem1 (List D)} {name : Str} {apos pos : Pos}
theorem ty_lst {x : D} {v : V} (r : Rel K ι F rs H M) (h : Rep K ι F x v) (e : isLst M x = true) : tyV K.fr "list" v H := by
  obtain ⟨xs, hx⟩ := Option.isSome_iff_exists.mp e
  obtain ⟨a, vs, rfl, h1, h2⟩ := lsOf_at r hx h
  exact .inl ⟨rfl, vs, h1⟩
theorem ty_str {x : D} {v : V} (r : Rel K ι F rs H M) (h : Rep K ι F x v) (e : isStrD M x = true) : tyV K.fr "str" v H := by
  cases x with
  | str z => cases h; rfl
  | _ => cases e
theorem ty_dcm {x : D} {v : V} (r : Rel K ι F rs H M) (h : Rep K ι F x v) (e : isDcM M x = true) : tyV K.fr "dict" v H := by
  cases x with
  | ref i =>
    obtain ⟨a, rfl, h1⟩ := h
    simp only [isDcM] at e
    split at e
    · rename_i kvs hM
      obtain ⟨_, vs, h2, _⟩ := r.obj i _ a hM h1 rfl
      exact .inr (.inr (.inl ⟨rfl, .inl ⟨vs, h2⟩⟩))
    · cases e
  | _ => cases e
theorem d_bm {ok : Mem → D → Bool} {g : OMt} {Ty id : String} (pa : PlainAttrs Ty) (slot : Slot Ty name id) (hty : typeOf (.builtin id) = pure (.type "method_descriptor")) (hm : ∀ rs, MtR X id (RM (kx X T) rs g))
    (tyo : ∀ {ι F rs H M x v}, Rel (kx X T) ι F rs H M → Rep (kx X T) ι F x v → ok M x = true → tyV X.K Ty v H) (ho : KE X T W o φ) (ha : KA X T W (e :: es) α)
    (h1 : isSup o = false := by rfl) (hfew : ((backTo pos (starEach (e :: es) X.env)).all (fun x => !x.1) && (backToKw pos (keywordEach [] X.env)).all (fun x => x.1.isSome)
      && decide ((e :: es).length + ([] : List Keyword).length + (if ([] : List Keyword).isEmpty then 0 else 1) < 30)) = true := by rfl)
    (hline : (apos.endLine == pos.line) = true := by rfl) (h2 : (e :: es).any isStar = false := by rfl) : KE X T W (.Call (.Attribute o name apos) (e :: es) [] pos) (eBm ok g φ α) := fun rs => by
  have h2' := h2
  rw [List.any_cons, Bool.or_eq_false_iff] at h2'
  refine PE.imp (pe_bm pa slot hty (hm rs) (ho rs) (ha.pa rs) (noSup h1) hfew hline (star_cons h2'.1) (star_any h2'.2)) fun σ H Q h => ?_
  obtain ⟨ι, F, s, M, r, rS, p⟩ := h
  refine ⟨ι, F, s, M, r, rS, p.step fun v H1 ι1 F1 M1 x l1 r1 rv p1 => ?_⟩
  split at p1
  · rename_i hok
    refine ⟨tyo r1 rv hok, ι1, F1, s, M1, r1, rS.le l1, p1.step fun ws H2 ι2 F2 M2 ds l2 r2 rw2 p2 => ?_⟩
    cases eg : g x ds M2 with
    | none => rw [eg] at p2; exact p2.elim
    | some z =>
      obtain ⟨z, M'⟩ := z
      rw [eg] at p2
      exact ⟨ι2, F2, M2, x, ds, z, M', r2, l2 _ _ rv, rw2, eg, p2⟩
  · exact p1.elim
theorem d_bm0 {ok : Mem → D → Bool} {g : OMt} {Ty id : String} (pa : PlainAttrs Ty) (slot : Slot Ty name id) (hty : typeOf (.builtin id) = pure (.type "method_descriptor")) (hm : ∀ rs, MtR X id (RM (kx X T) rs g))
    (tyo : ∀ {ι F rs H M x v}, Rel (kx X T) ι F rs H M → Rep (kx X T) ι F x v → ok M x = true → tyV X.K Ty v H) (ho : KE X T W o φ)
    (h1 : isSup o = false := by rfl) (hline : (apos.endLine == pos.line) = true := by rfl) : KE X T W (.Call (.Attribute o name apos) [] [] pos) (eBm ok g φ aNil) := fun rs => by
  refine PE.imp (pe_bm0 pa slot hty (hm rs) (ho rs) (noSup h1) hline) fun σ H Q h => ?_
  obtain ⟨ι, F, s, M, r, rS, p⟩ := h
  refine ⟨ι, F, s, M, r, rS, p.step fun v H1 ι1 F1 M1 x l1 r1 rv p1 => ?_⟩
  split at p1
  · rename_i hok
    refine ⟨tyo r1 rv hok, ?_⟩
    unfold aNil at p1
    rw [R.bind_ok] at p1
    cases eg : g x [] M1 with
    | none => rw [eg] at p1; exact p1.elim
    | some z =>
      obtain ⟨z, M'⟩ := z
      rw [eg] at p1
      exact ⟨ι1, F1, M1, x, [], z, M', r1, rv, rfl, eg, p1⟩
  · exact p1.elim
theorem m_append : MtR X "list.append" (RM (kx X T) rs appG) := fun pins s σ H x xs v us Q I rx rxs h => by
  refine mt_append pins s σ H x xs v us Q I rx rxs ?_
  obtain ⟨ι, F, M, d, ds, z, M', r, rd, rds, e, q⟩ := h
  unfold appG at e
  split at e
  · rename_i i y
    obtain ⟨a, rfl, hi⟩ := rd
    obtain ⟨w, rfl, hw⟩ := one_of rds
    split at e
    · rename_i ys hM
      split at e
      · rename_i hl
        cases e
        obtain ⟨f0, vs, h2, h3⟩ := r.obj i _ a hM hi rfl
        refine ⟨a, vs, w, rfl, rfl, h2, by rw [RepL.length h3, ← line_eq]; exact hl, ?_⟩
        exact q ι F _ _ Le.refl (r.write hM hi rfl ⟨_, upd_same, h3.append (.one hw)⟩) rfl
      · cases e
    · cases e
  · cases e
theorem Glob {x : Str} {v : V} {u : Value} {d : D} (hm : X.mg x = some u) (rv : RelV v u) (hr : ∀ ι F, Rep (kx X T) ι F d v) (hg : Gl X x := by rfl) (hd : (x == ("__debug__" : Str)) = false := by decide) : KE X T W (.Name x pos) (eC d) := d_glob hg hm rv hd hr
theorem Append (ho : KE X T W o φ) (ha : KA X T W [e] α) (h1 : isSup o = false := by rfl) (hfew : ((backTo pos (starEach [e] X.env)).all (fun x => !x.1) && (backToKw pos (keywordEach [] X.env)).all (fun x => x.1.isSome)
      && decide (([e] : List Expr).length + ([] : List Keyword).length + (if ([] : List Keyword).isEmpty then 0 else 1) < 30)) = true := by rfl) (hline : (apos.endLine == pos.line) = true := by rfl) (h2 : [e].any isStar = false := by rfl) :
    KE X T W (.Call (.Attribute o "append" apos) [e] [] pos) (eBm isLst appG φ α) := d_bm PySem.F.plainAttrs_list PySem.F.slot_list_append PySem.F.type_list_append (fun _ => m_append) (fun r h e => ty_lst r h e) ho ha h1 hfew hline h2
end
end LD
namespace LD
open PySem PySem.Spec PyProof.Rows L2

/-! ### raise, try -/
def sRaise (c : Nat) (α : Sem1 (List D)) : SSem := fun s M => bindS (α s M) s fun ds M1 => if ds.length ≤ LINE then .er ⟨c, none⟩ s M1 else .bad
/-- which exceptions a clause takes -/
abbrev Hit := List (Nat × Bool)
def sTryAs (hit : Hit) (i : Nat) (ψ χ : SSem) : SSem := fun s M => match ψ s M with
  | .er x s1 M1 => match hit.lookup x.cls with
    | some true => match χ (s1.set i none) M1 with
      | .nx s2 M2 => .nx (s2.set i none) M2
      | .bk s2 M2 => .bk (s2.set i none) M2
      | .ct s2 M2 => .ct (s2.set i none) M2
      | .rt d M2 => .rt d M2
      | _ => .bad
    | some false => .er x s1 M1
    | none => .bad
  | r => r
def sTryOnly (hit : Hit) (ψ χ : SSem) : SSem := fun s M => match ψ s M with
  | .er x s1 M1 => match hit.lookup x.cls with
    | some true => match χ s1 M1 with
      | .er _ _ _ => .bad
      | r => r
    | some false => .er x s1 M1
    | none => .bad
  | r => r
section
variable {X : Cx} {T : Tab} {W : WX} {K : KX} {ι : List Addr} {F H : Hp} {M : Mem} {rs : List (Addr × HO)} {s : DS} {σ : L2.St} {e : Expr} {es : List Expr} {α : Sem1 (List LD.D)} {pos pos' p np : Pos} {x n : Str} {i : Nat} {body suite : List Stmt} {b₀ : Stmt} {ψ χ : SSem} {c : Value}
theorem RepS.blur {v : Option V} (h : RepS K ι F s σ) : RepS K ι F (s.set i none) (σ.set i v) :=
  ⟨by rw [List.length_set, List.length_set]; exact h.1, fun j e q => by
    by_cases hj : i = j
    · subst hj
      have hl : i < s.length := by
        have := (List.getElem?_eq_some_iff.mp q).1
        rwa [List.length_set] at this
      rw [List.getElem?_set_self hl] at q
      cases q
    · rw [List.getElem?_set_ne hj] at q
      obtain ⟨u, h1, h2⟩ := h.2 j e q
      exact ⟨u, by rw [List.getElem?_set_ne hj]; exact h1, h2⟩⟩
theorem s_raise {C : Addr} {bmB : List Value} {B newId initId : String} {ci : Nat} (F : ExcBaseFacts B newId initId bmB) (q : PySem.W.excIn X.K C bmB newId = true) (gC : X.mg x = some (.ref C)) (kC : PySem.W.keepIn X.K (.ref C) = true) (r : Raises X (.ref C))
    (hT : T.et[ci]? = some (.ref C)) (tk : Takes X W) (ha : KA X T W (e :: es) α) (hc : X.calm = true := by rfl) (hg : Gl X x := by rfl) (hdb : (x == ("__debug__" : Str)) = false := by decide) (h2 : (e :: es).any isStar = false := by rfl) :
    KS X T W (.Raise (some (.Call (.Name x p) (e :: es) [] pos')) none pos) (sRaise ci α) := ⟨fun rs => by
  have h2' := h2
  rw [List.any_cons, Bool.or_eq_false_iff] at h2'
  refine PS.imp (ps_raise hc tk (pmk_ownA F q gC kC r hg (ha.pa rs) hdb (star_cons h2'.1) (star_any h2'.2))) fun D σ H h => ?_
  obtain ⟨ι, F, s, M, r, rS, p⟩ := h
  refine ⟨ι, F, s, M, r, rS, p.step rS fun vs H1 ι1 F1 M1 ds _ l1 r1 rv p1 => ?_⟩
  split at p1
  · rename_i hl
    exact ⟨by rw [RepL.length rv, ← line_eq]; exact hl, p1 ι1 F1 H1 σ (.ref C) none Le.refl r1 (rS.le l1) ⟨hT, trivial⟩⟩
  · exact p1.elim⟩
theorem s_try_as {hit : Hit} (hs : X.stack = X.env :: X.outer) (hf : X.env.frame = some X.env.locals) (hN : X.N.Nodup) (hi : X.N[i]? = some n) (hln : X.env.kindOf n = some .local) (hc : Names X x c) (tk : Takes X W)
    (hh : ∀ j b, hit.lookup j = some b → ∃ cls, T.et[j]? = some cls ∧ PySem.W.exmOne X.K cls c = some b)
    (hb : ∀ (W : WX) (pn : List (Addr × Obj)) (xe : Value → Shared → Prop), Takes (X.tr pn xe) W → PassesOwn (model X.prog X.w) X.A X.env xe → KB (X.tr pn xe) T W body ψ)
    (hsu : ∀ (a : Addr) (oe : Obj) (pn : List (Addr × Obj)), (∃ vs, oe.data = .fields vs) → KB (X.suite a ((a, oe) :: pn)) T WN (b₀ :: suite) χ) :
    KS X T W (.Try body [.ExceptHandler (some (.Name x np)) (some n) (b₀ :: suite) pos'] [] [] pos) (sTryAs hit i ψ χ) := ⟨fun rs =>
  PS.imp (ps_try_as (tb := fun W => LS (kx X T) rs W ψ) (ts := fun _ _ _ => LS (kx X T) rs WN χ) (Wout := W) hs hf hN hi hln hc tk (fun W pn xe t ho => (hb W pn xe t ho).ps rs) fun a oe cls d pn _ hfl => (hsu a oe pn hfl).ps rs) fun D σ H h => by
    obtain ⟨ι, F, s, M, r, rS, p⟩ := h
    refine ⟨ι, F, s, M, r, rS, ?_⟩
    unfold sTryAs at p
    cases ep : ψ s M with
    | nx s' M' => rw [ep] at p; exact p
    | rt d M' => rw [ep] at p; exact p
    | bk s' M' => rw [ep] at p; exact p
    | ct s' M' => rw [ep] at p; exact p
    | bad => rw [ep] at p; exact p
    | er x s1 M1 =>
      rw [ep] at p
      intro ι1 F1 H1 σ1 cls dx l1 r1 rs1 rx
      simp only at p
      cases eh : hit.lookup x.cls with
      | none => rw [eh] at p; exact p.elim
      | some b =>
        rw [eh] at p
        obtain ⟨cls', h1, h2⟩ := hh _ _ eh
        have ec : cls' = cls := Option.some.inj (h1.symm.trans rx.1)
        subst ec
        refine ⟨b, h2, fun hb a ha => ?_, fun hb => ?_⟩
        · subst hb
          simp only at p
          refine ⟨ι1, F1, s1.set i none, M1, r1, rs1.blur, ?_⟩
          cases ex : χ (s1.set i none) M1 with
          | nx s' M' => rw [ex] at p; exact fun ι2 F2 H2 σ2 l2 r2 rs2 => p ι2 F2 H2 _ (l1.trans l2) r2 rs2.unset
          | bk s' M' => rw [ex] at p; exact fun ι2 F2 H2 σ2 l2 r2 rs2 => p ι2 F2 H2 _ (l1.trans l2) r2 rs2.unset
          | ct s' M' => rw [ex] at p; exact fun ι2 F2 H2 σ2 l2 r2 rs2 => p ι2 F2 H2 _ (l1.trans l2) r2 rs2.unset
          | rt d M' => rw [ex] at p; exact fun ι2 F2 H2 v l2 r2 rv => p ι2 F2 H2 v (l1.trans l2) r2 rv
          | er y s' M' => rw [ex] at p; exact p.elim
          | bad => rw [ex] at p; exact p.elim
        · subst hb
          simp only at p
          exact p ι1 F1 H1 σ1 _ dx l1 r1 rs1 rx⟩
theorem s_try_only {hit : Hit} (hs : X.stack = X.env :: X.outer) (hf : X.env.frame = some X.env.locals) (hc : Names X x c) (tk : Takes X W)
    (hh : ∀ j b, hit.lookup j = some b → ∃ cls, T.et[j]? = some cls ∧ PySem.W.exmOne X.K cls c = some b)
    (hb : ∀ (W : WX) (pn : List (Addr × Obj)) (xe : Value → Shared → Prop), Takes (X.tr pn xe) W → PassesOwn (model X.prog X.w) X.A X.env xe → KB (X.tr pn xe) T W body ψ)
    (hsu : ∀ (a : Addr) (oe : Obj) (pn : List (Addr × Obj)), (∃ vs, oe.data = .fields vs) → KB (X.suite a ((a, oe) :: pn)) T WN (b₀ :: suite) χ) :
    KS X T W (.Try body [.ExceptHandler (some (.Name x np)) none (b₀ :: suite) pos'] [] [] pos) (sTryOnly hit ψ χ) := ⟨fun rs =>
  PS.imp (ps_try_only (tb := fun W => LS (kx X T) rs W ψ) (ts := fun _ _ _ => LS (kx X T) rs WN χ) (Wout := W) hs hf hc tk (fun W pn xe t ho => (hb W pn xe t ho).ps rs) fun a oe cls d pn _ hfl => (hsu a oe pn hfl).ps rs) fun D σ H h => by
    obtain ⟨ι, F, s, M, r, rS, p⟩ := h
    refine ⟨ι, F, s, M, r, rS, ?_⟩
    unfold sTryOnly at p
    cases ep : ψ s M with
    | nx s' M' => rw [ep] at p; exact p
    | rt d M' => rw [ep] at p; exact p
    | bk s' M' => rw [ep] at p; exact p
    | ct s' M' => rw [ep] at p; exact p
    | bad => rw [ep] at p; exact p
    | er x s1 M1 =>
      rw [ep] at p
      intro ι1 F1 H1 σ1 cls dx l1 r1 rs1 rx
      simp only at p
      cases eh : hit.lookup x.cls with
      | none => rw [eh] at p; exact p.elim
      | some b =>
        rw [eh] at p
        obtain ⟨cls', h1, h2⟩ := hh _ _ eh
        have ec : cls' = cls := Option.some.inj (h1.symm.trans rx.1)
        subst ec
        refine ⟨b, h2, fun hb a ha => ?_, fun hb => ?_⟩
        · subst hb
          simp only at p
          refine ⟨ι1, F1, s1, M1, r1, rs1, ?_⟩
          cases ex : χ s1 M1 with
          | nx s' M' => rw [ex] at p; exact fun ι2 F2 H2 σ2 l2 r2 rs2 => p ι2 F2 H2 _ (l1.trans l2) r2 rs2
          | bk s' M' => rw [ex] at p; exact fun ι2 F2 H2 σ2 l2 r2 rs2 => p ι2 F2 H2 _ (l1.trans l2) r2 rs2
          | ct s' M' => rw [ex] at p; exact fun ι2 F2 H2 σ2 l2 r2 rs2 => p ι2 F2 H2 _ (l1.trans l2) r2 rs2
          | rt d M' => rw [ex] at p; exact fun ι2 F2 H2 v l2 r2 rv => p ι2 F2 H2 v (l1.trans l2) r2 rv
          | er y s' M' => rw [ex] at p; exact p.elim
          | bad => rw [ex] at p; exact p.elim
        · subst hb
          simp only at p
          exact p ι1 F1 H1 σ1 _ dx l1 r1 rs1 rx⟩
end
end LD
namespace LD
open PySem PySem.Spec PyProof.Rows L2

/-! ### try .. except X as e, where the suite asks isinstance(e, C) -/
def blurS (i : Nat) : RS → RS
  | .nx s M => .nx (s.set i none) M
  | .bk s M => .bk (s.set i none) M
  | .ct s M => .ct (s.set i none) M
  | .rt d M => .rt d M
  | _ => .bad
def sTryE (j i : Nat) (ψ : SSem) (χ : Addr → SSem) : SSem := fun s M => match ψ s M with
  | .er x s1 M1 => if x.cls = j ∧ x.fs.isNone = true then blurS i (χ 0 (s1.set i (some (.glb 0))) M1) else .bad
  | r => r
def eIsE (i : Nat) (a : Addr) (b : Bool) : Sem1 D := fun s M => match s[i]? with
  | some (some (.glb a')) => if a' = a then .ok (.bl b) M else .bad
  | _ => .bad
section
variable {X : Cx} {T : Tab} {W : WX} {pos pos' p np p2 p3 : Pos} {x n y z : Str} {i j : Nat} {body suite : List Stmt} {b₀ : Stmt} {ψ : SSem} {χ : Addr → SSem} {C : Addr}
theorem s_try_e (hs : X.stack = X.env :: X.outer) (hf : X.env.frame = some X.env.locals) (hN : X.N.Nodup) (hi : X.N[i]? = some n) (hln : X.env.kindOf n = some .local) (hc : Names X x (.ref C)) (tk : Takes X W)
    (D0 : Addr) (hj : T.et[j]? = some (.ref D0)) (hx : PySem.W.exmOne X.K (.ref D0) (.ref C) = some true)
    (hb : ∀ (W : WX) (pn : List (Addr × Obj)) (xe : Value → Shared → Prop), Takes (X.tr pn xe) W → PassesOwn (model X.prog X.w) X.A X.env xe → KB (X.tr pn xe) T W body ψ)
    (hsu : ∀ (a : Addr) (oe : Obj) (pn : List (Addr × Obj)), Zc (.ref D0) none oe → (∃ vs, oe.data = .fields vs) → KB (X.suite a ((a, oe) :: pn)) T WN (b₀ :: suite) (χ a))
    (hχ : ∀ (a : Addr) (s : DS) (M : Mem), blurS i (χ a (s.set i (some (.glb a))) M) = blurS i (χ 0 (s.set i (some (.glb 0))) M)) :
    KS X T W (.Try body [.ExceptHandler (some (.Name x np)) (some n) (b₀ :: suite) pos'] [] [] pos) (sTryE j i ψ χ) := ⟨fun rs =>
  PS.imp (ps_try_as (tb := fun W => LS (kx X T) rs W ψ) (ts := fun a cls d D σ H => cls = .ref D0 ∧ d = none ∧ LS (kx X T) rs WN (χ a) D σ H) (Wout := W) hs hf hN hi hln hc tk (fun W pn xe t ho => (hb W pn xe t ho).ps rs)
    fun a oe cls d pn hz hfl => ⟨fun pins s σ H Q I q => by
      obtain ⟨rfl, rfl, q⟩ := q
      exact ((hsu a oe pn hz hfl).ps rs).run pins s σ H Q I q⟩) fun D σ H h => by
    obtain ⟨ι, F, s, M, r, rS, p⟩ := h
    refine ⟨ι, F, s, M, r, rS, ?_⟩
    unfold sTryE at p
    cases ep : ψ s M with
    | nx s' M' => rw [ep] at p; exact p
    | rt d M' => rw [ep] at p; exact p
    | bk s' M' => rw [ep] at p; exact p
    | ct s' M' => rw [ep] at p; exact p
    | bad => rw [ep] at p; exact p
    | er x s1 M1 =>
      rw [ep] at p
      intro ι1 F1 H1 σ1 cls dx l1 r1 rs1 rx
      simp only at p
      by_cases hcl : x.cls = j ∧ x.fs.isNone = true
      · rw [if_pos hcl] at p
        have ec : cls = .ref D0 := by
          have := rx.1
          rw [hcl.1, hj] at this
          exact (Option.some.inj this).symm
        have ed : dx = none := by
          have h2 := rx.2
          have h3 : x.fs = none := Option.isNone_iff_eq_none.mp hcl.2
          rw [h3] at h2
          cases dx with
          | none => rfl
          | some d => exact h2.elim
        subst ec; subst ed
        refine ⟨true, hx, fun _ a ha => ⟨rfl, rfl, ι1, F1, s1.set i (some (.glb a)), M1, r1, rs1.set rfl, ?_⟩, fun h => by cases h⟩
        rw [← hχ a] at p
        cases ex : χ a (s1.set i (some (.glb a))) M1 with
        | nx s' M' => rw [ex] at p; exact fun ι2 F2 H2 σ2 l2 r2 rs2 => p ι2 F2 H2 _ (l1.trans l2) r2 rs2.unset
        | bk s' M' => rw [ex] at p; exact fun ι2 F2 H2 σ2 l2 r2 rs2 => p ι2 F2 H2 _ (l1.trans l2) r2 rs2.unset
        | ct s' M' => rw [ex] at p; exact fun ι2 F2 H2 σ2 l2 r2 rs2 => p ι2 F2 H2 _ (l1.trans l2) r2 rs2.unset
        | rt d M' => rw [ex] at p; exact fun ι2 F2 H2 v l2 r2 rv => p ι2 F2 H2 v (l1.trans l2) r2 rv
        | er y s' M' => rw [ex] at p; exact p.elim
        | bad => rw [ex] at p; exact p.elim
      · rw [if_neg hcl] at p
        exact p.elim⟩
/-- isinstance(e, C) in the suite -/
theorem d_isE {a D0 B : Addr} {oe : Obj} {pn : List (Addr × Obj)} {b : Bool} (ec : ExcC X.K D0) (hz : Zc (.ref D0) none oe) (hfl : ∃ vs, oe.data = .fields vs) (hi : X.N[i]? = some y) (hln : Vis X.env.scope y) (gB : X.mg z = some (.ref B)) (hk : PySem.W.kitOne X.K (.ref D0) (.ref B) = some b) (hm : X.mg "isinstance" = none)
    (hg : Gl X "isinstance" := by rfl) (hgz : Gl X z := by rfl) (hdb : (z == ("__debug__" : Str)) = false := by decide) (hdy : (y == ("__debug__" : Str)) = false := by decide) (hcy : (y == ("__classdict__" : Str)) = false := by decide) :
    KE (X.suite a ((a, oe) :: pn)) T WN (.Call (.Name "isinstance" p) [.Name y p2, .Name z p3] [] pos) (eIsE i a b) := fun rs =>
  PE.imp (pe_callB (X := X.suite a ((a, oe) :: pn)) (call_isE ec hz hfl) hg hm (by rfl) (pa_cons (pe_var (i := i) hi hln hdy hcy) (pa_cons (pe_glob (v := .ref B) hgz gB rfl hdb) pa_nil (by rfl)) (by rfl)) (by decide) (by decide) (by rfl) (by rfl)) fun σ H Q h => by
    obtain ⟨ι, F, s, M, r, rS, q⟩ := h
    unfold eIsE at q
    split at q
    · rename_i a' e
      split at q
      · rename_i ea
        subst ea
        obtain ⟨v, h1, h2⟩ := rS.2 _ _ e
        cases h2
        exact ⟨_, h1, V.ref B, Value.ref B, b, rfl, fun u hu => hu, hk, q.fin r rfl⟩
      · exact q.elim
    · exact q.elim
end
end LD
namespace LD
open PySem PySem.Spec PyProof.Rows L2

/-! ### texts: upper; a class's tuple of texts: index -/
def upperG : OMt := fun x ds M => match x, ds with
  | .str a, [] => if a.length ≤ 5592405 then some (.str (Txt.upper a), M) else none
  | _, _ => none
def strsOf : List D → Option (List Str)
  | [] => some []
  | .str x :: r => (strsOf r).map fun ys => x :: ys
  | _ => none
def idxS (z : Str) : List Str → Option Nat
  | [] => none
  | y :: ys => if y = z then some 0 else (idxS z ys).map (· + 1)
def eCIdx (ys : List Str) (α : Sem1 (List D)) : Sem1 D := fun s M => (α s M).bind fun ds M1 => match ds with
  | [.str z] => match idxS z ys with
    | some j => .ok (.int (j : Nat)) M1
    | none => .bad
  | _ => .bad
theorem idxS_at {z : Str} : ∀ {ys : List Str} {j : Nat}, idxS z ys = some j → ys[j]? = some z ∧ ∀ m, m < j → ys[m]? ≠ some z
  | [], j, h => by cases h
  | y :: ys, j, h => by
    unfold idxS at h
    split at h
    · rename_i e
      cases h
      exact ⟨by rw [e] <;> rfl, fun m hm => absurd hm (Nat.not_lt_zero _)⟩
    · rename_i hn
      obtain ⟨k, h1, rfl⟩ := Option.map_eq_some_iff.mp h
      obtain ⟨a1, a2⟩ := idxS_at h1
      refine ⟨by simpa using a1, fun m hm => ?_⟩
      cases m with
      | zero => intro q; exact hn (by simpa using q)
      | succ m => intro q; exact a2 m (by omega) (by simpa using q)
section
variable {X : Cx} {T : Tab} {W : WX} {K : KX} {rs : List (Addr × HO)} {o e : Expr} {φ : Sem1 D} {α : Sem1 (List D)} {apos pos p2 : Pos} {x m : Str} {C : Addr}
theorem m_upper : MtR X "str.upper" (RM (kx X T) rs upperG) := fun pins s σ H x xs v us Q I rx rxs h => by
  refine mt_upper pins s σ H x xs v us Q I rx rxs ?_
  obtain ⟨ι, F, M, d, ds, z, M', r, rd, rds, e, q⟩ := h
  unfold upperG at e
  split at e
  · rename_i a
    cases rd
    have hx : xs = [] := rds
    split at e
    · rename_i hl
      cases e
      exact ⟨a, rfl, hx, hl, q ι F H _ Le.refl r rfl⟩
    · cases e
  · cases e
theorem Upper (ho : KE X T W o φ) (h1 : isSup o = false := by rfl) (hline : (apos.endLine == pos.line) = true := by rfl) : KE X T W (.Call (.Attribute o "upper" apos) [] [] pos) (eBm isStrD upperG φ aNil) :=
  d_bm0 PySem.F.plainAttrs_str PySem.F.slot_str_upper PySem.F.type_str_upper (fun _ => m_upper) (fun r h e => ty_str r h e) ho h1 hline
theorem CIdx {mc : Value} {a : Addr} {ys : List Str} {p3 : Pos} (hm : X.mg x = some (.ref C)) (cr : ClX.CRead X.K C mc) (cv : ClX.CVal X.K C mc m (.ref a) (.ref a)) (hk : ∃ ob, X.K.lookup a = some ob ∧ ob.cls = .type "tuple" ∧ ob.dict = none) (hq : ∀ H, SqT X.K H a (ys.map V.str)) (ha : KA X T W [e] α)
    (hg : Gl X x := by rfl) (hdb : (x == ("__debug__" : Str)) = false := by decide) (hfew : ((backTo pos (starEach [e] X.env)).all (fun x => !x.1) && (backToKw pos (keywordEach [] X.env)).all (fun x => x.1.isSome)
      && decide (([e] : List Expr).length + ([] : List Keyword).length + (if ([] : List Keyword).isEmpty then 0 else 1) < 30)) = true := by rfl) (hline : (apos.endLine == pos.line) = true := by rfl) (h2 : [e].any isStar = false := by rfl) :
    KE X T W (.Call (.Attribute (.Attribute (.Name x p2) m p3) "index" apos) [e] [] pos) (eCIdx ys α) := fun rs => by
  have h2' := h2
  rw [List.any_cons, Bool.or_eq_false_iff] at h2'
  refine PE.imp (pe_bm PySem.F.plainAttrs_tuple PySem.F.slot_tuple_index PySem.F.type_tuple_index mt_tup_index (ClX.pe_cval (pe_glob (v := .ref C) hg hm rfl hdb) (noSup rfl)) (ha.pa rs) (noSup rfl) hfew hline (star_cons h2'.1) (star_any h2'.2)) fun σ H Q h => ?_
  obtain ⟨ι, F, s, M, r, rS, p⟩ := h
  refine ⟨C, mc, .ref a, .ref a, rfl, cr, cv, .inr (.inl ⟨rfl, hk⟩), ι, F, s, M, r, rS, p.step fun vs H1 ι1 F1 M1 ds l1 r1 rv p1 => ?_⟩
  split at p1
  · rename_i z
    split at p1
    · rename_i j hj
      obtain ⟨v, rfl, hv⟩ := one_of rv
      cases hv
      obtain ⟨a1, a2⟩ := idxS_at hj
      exact ⟨a, ys, z, j, rfl, rfl, hq H1, a1, a2, p1.fin r1 rfl⟩
    · exact p1.elim
  · exact p1.elim
end

theorem kit_of_sub {K : PySem.W.Frag} {D C : Addr} {b : Bool} (hd : PySem.W.hasDictIn K C = true) (ht : PySem.W.typeIn K (.ref C) = some (.type "type")) (h4 : PySem.W.subIn K (.ref D) (.ref C) = some b) (h5 : PySem.W.subIn K (.ref D) (.ref D) = some true) : PySem.W.kitOne K (.ref D) (.ref C) = some b := by
  obtain ⟨cd, hc, _⟩ := PySem.W.any_some hd
  have e2 : ((PySem.W.clsIn K C).isSome && PySem.W.typeIn K (.ref C) == some (.type "type")) = true := by rw [hc, ht] <;> rfl
  unfold PySem.W.kitOne PySem.W.kitCls
  by_cases h : (Value.ref D == Value.ref C) = true
  · rw [if_pos h]
    have e : D = C := Value.ref.inj (beq_iff_eq.mp h)
    subst e
    rw [h4] at h5
    exact h5.symm
  · rw [if_neg h]
    simp only
    rw [if_pos e2]
    exact h4
end LD
namespace LD
open PySem PySem.Spec PyProof.Rows L2

/-! ### own __len__ -/
def LenD (P : Program) (w : World) (K : PySem.W.Frag) (mg : Str → Option Value) (base : Heap) (T : Tab) (k c : Nat) (φ : FnD) : Prop :=
  ∃ C ly g, T.ct[c]? = some (C, ly) ∧ PySem.W.findIn K (.ref C) "__len__" = some (some (.ref g)) ∧ PySem.W.isFn K (.ref g) = true ∧ Callee P w K mg base T k g 1 [] φ
def lenO (tbl : List (Nat × FnD)) : OL := fun ds M => match ds with
  | [.ref i] => match M[i]? with
    | some (.ins c _) => match tbl.lookup c with
      | some φ => match φ [.ref i] M with
        | .ok (.int n) M' => if 0 ≤ n ∧ n < 2 ^ 63 then some (.int n, M') else none
        | _ => none
      | none => none
    | _ => lenC ds M
  | _ => lenC ds M
section
variable {X : Cx} {T : Tab} {W : WX} {rs : List (Addr × HO)}
theorem c_lenO {k k' : Nat} {tbl : List (Nat × FnD)} (ht : ∀ c φ, tbl.lookup c = some φ → LenD X.prog X.w X.K X.mg X.base T k' c φ) (hr : Room k X.A) (hl : k' + 1 ≤ k := by first | decide | omega) : CallR X (.builtin "len") (RC (kx X T) rs (lenO tbl)) := by
  intro pins s σ H vs us Q I rv h
  obtain ⟨ι, F, M, ds, z, M', r, rd, e, q⟩ := h
  have plain : lenC ds M = some (z, M') → wpAny (model X.prog X.w) X.A (call (.builtin "len") us) (EP X pins σ Q) X.xe s := fun e => c_len pins s σ H vs us Q I rv ⟨ι, F, M, ds, z, M', r, rd, e, q⟩
  unfold lenO at e
  split at e
  · rename_i i
    split at e
    · rename_i c fs hM
      split at e
      · rename_i φ hφ
        split at e
        · rename_i n M2 he
          split at e
          · rename_i hn
            cases e
            obtain ⟨v, rfl, a, rfl, hi⟩ := one_of rd
            obtain ⟨u, rfl, ru⟩ := vals1 rv
            cases ru
            obtain ⟨C, ly, g, hc, hs, hf, ce⟩ := ht c φ hφ
            obtain ⟨_, C', ly', dx, ws, hc', hH, _, _, _, _⟩ := r.obj i _ a hM hi rfl
            have e2 : (C, ly) = (C', ly') := Option.some.inj (hc.symm.trans hc')
            cases e2
            obtain ⟨mA, J, _⟩ := ins_get I.hok hH
            obtain ⟨od, J, _⟩ := J.look
            have hr1 : Room k' X.A.in1 := (hr.mono hl).in1
            refine Calls.call_function_entry PySem.kind_len PySem.plain_len PySem.entry_len (PySem.args_len1 _) ?_
            unfold Builtin.«len»
            refine wpAny_bind (m := oneArg "len" _) (wpAny_pure ?_)
            refine wpAny_bind (m := callSpecial? (.ref a) (PySem.Str.ofString "__len__")) (PySem.W.special_fn (name := "__len__") (args := []) I.kIn J hs (beq_iff_eq.mp hf) (wpAny_call (codeAny_mono (ce.run rs X.A.in1 X.stack s H [.ref a] [] [.ref a] [] (fun v H' => v = .int n ∧ ∃ ι' F', Le (kx X T) ι F ι' F' ∧ Rel (kx X T) ι' F' rs H' M') (fun _ _ _ => False) hr1 I.env0.in1 rfl rfl (.cons rfl .nil) .nil
              ⟨ι, F, [.ref i], M, r, .one ⟨a, rfl, hi⟩, by rw [he]; exact fun ι' F' H' v l r' rv => ⟨rv, ι', F', l, r'⟩⟩) fun r s' hq => ?_)))
            cases r with
            | error er =>
              obtain ⟨a, B, H', cls, d, _, _, _, _, _, _, _, z⟩ := hq
              exact z.elim
            | ok fl =>
              cases fl with
              | next => exact False.elim hq
              | brk => exact False.elim hq
              | cont => exact False.elim hq
              | ret w =>
                obtain ⟨z, H', I', rz, ez, ι', F', l, r'⟩ := I.after hq
                subst ez
                obtain ⟨t, rfl⟩ := rz
                refine wpAny_bind (wpAny_holding (wpAny_pure ?_))
                refine wpAny_bind (wpAny_letGo ?_)
                show wpAny _ _ (if (n : Int) < 0 then _ else _) _ _ _
                rw [if_neg (by omega)]
                show wpAny _ _ (if (n : Int) ≥ 2 ^ 63 then _ else _) _ _ _
                rw [if_neg (by omega)]
                exact wpAny_bind (wpAny_mkInt (wpAny_pure ⟨_, rfl, ⟨.int n, H', I'.tok _, ⟨_, rfl⟩, q ι' F' H' _ l r' rfl⟩⟩))
          · cases e
        · cases e
      · cases e
    · exact plain e
  · exact plain e
end

end LD
namespace LD
open PySem PySem.Spec PyProof.Rows L2

/-! ### repr -/
def mapO {α β : Type} (f : α → Option β) : List α → Option (List β)
  | [] => some []
  | a :: r => (f a).bind fun b => (mapO f r).map fun bs => b :: bs
def keyP : Key → PyData
  | .inl i => .int i
  | .inr x => .str x
def pyR : Nat → Mem → D → Option PyData
  | 0, _, _ => none
  | n + 1, M, d => match d with
    | .non => some .none
    | .bl b => some (.bool b)
    | .int i => some (.int i)
    | .str x => some (.str x)
    | .tup xs => (mapO (pyR n M) xs).map .tuple
    | d => match dcOf M d with
      | some kvs => (mapO (pyR n M) (kvs.map (·.2))).map fun ps => .dict ((kvs.map fun kv => keyP kv.1).zip ps)
      | none => match lsOf M d with
        | some xs => (mapO (pyR n M) xs).map .list
        | none => none
def reprC : OL := fun ds M => match ds with
  | [d] => match pyR 40 M d with
    | some p => if p.showable && decide (p.depth ≤ 60) && decide (p.shown.length ≤ LINE) then some (.str p.shown, M) else none
    | none => none
  | _ => none
/-- what is known of a value that may be shown -/
structure Rpr (prog : Program) (w : World) (h : Heap) (u : Value) (p : PyData) : Prop where
  rd : ∃ as, Reads h u p as
  rp : ∃ bs, ReadAtMost h p.depth bs ∧ ReprK prog w bs h p.depth u p.shown
  top : ∀ a, u = .ref a → ∃ T idr, ShowsBy prog w h a p T idr
theorem mapO_len {α β : Type} {f : α → Option β} : ∀ {xs : List α} {ys : List β}, mapO f xs = some ys → ys.length = xs.length
  | [], ys, e => by cases e; rfl
  | x :: xs, ys, e => by
    obtain ⟨b, _, e2⟩ := Option.bind_eq_some_iff.mp e
    obtain ⟨bs, e3, rfl⟩ := Option.map_eq_some_iff.mp e2
    rw [List.length_cons, List.length_cons, mapO_len e3]
section
variable {X : Cx} {T : Tab} {ι : List Addr} {F H : Hp} {M : Mem} {rs : List (Addr × HO)} {pins : List (Addr × Obj)} {σ : L2.St} {s : Shared}
theorem rpr_all {h : Heap} {prog : Program} {w : World} {f : D → Option PyData} (ih : ∀ d v u p, f d = some p → Rep (kx X T) ι F d v → RelV v u → p.showable = true → p.shown.length ≤ sizeLine → Rpr prog w h u p) :
    ∀ (ds : List D) (vs : List V) (us : List Value) (ps : List PyData), mapO f ds = some ps → RepL (kx X T) ι F ds vs → Vals vs us → PyData.showableAll ps = true → (∀ t ∈ PyData.shownAll ps, t.length ≤ sizeLine) →
      (∃ as, ReadsAll h us ps as) ∧ ∃ bs, ReadAtMost h (PyData.depthAll ps) bs ∧ ReprAllK prog w bs h (PyData.depthAll ps) us (PyData.shownAll ps)
  | [], vs, us, ps, e, r, rv, hs, hz => by
    cases e
    have e : vs = [] := r
    subst e
    cases rv
    exact ⟨⟨[], .nil⟩, [], (fun _ h => nomatch h), by simp only [PyData.shownAll]; exact .nil⟩
  | d :: ds, vs, us, ps, e, r, rv, hs, hz => by
    obtain ⟨p, e1, e2⟩ := Option.bind_eq_some_iff.mp e
    obtain ⟨ps', e3, rfl⟩ := Option.map_eq_some_iff.mp e2
    obtain ⟨v, vr, rfl, r1, r2⟩ := r
    cases rv with
    | cons rv1 rv2 =>
      have hs' : p.showable = true ∧ PyData.showableAll ps' = true := by simpa [PyData.showableAll] using hs
      obtain ⟨⟨a1, x1⟩, ⟨b1, hb1, k1⟩, _⟩ := ih d v _ p e1 r1 rv1 hs'.1 (hz _ (by simp only [PyData.shownAll]; exact List.mem_cons_self ..))
      obtain ⟨⟨a2, x2⟩, b2, hb2, k2⟩ := rpr_all ih ds vr _ ps' e3 r2 rv2 hs'.2 (fun t ht => hz t (by simp only [PyData.shownAll]; exact List.mem_cons_of_mem _ ht))
      refine ⟨⟨_, .cons x1 x2⟩, b1 ++ b2, ?_, ?_⟩
      · simp only [PyData.depthAll]
        exact (hb1.mono (Nat.le_max_left _ _)).append (hb2.mono (Nat.le_max_right _ _))
      · simp only [PyData.depthAll, PyData.shownAll]
        exact .cons ((k1.more fun b hb => List.mem_append_left _ hb).level_le (Nat.le_max_left _ _)) (k2.more_le (fun b hb => List.mem_append_right _ hb) (Nat.le_max_right _ _))
theorem rpr_list {prog : Program} {w : World} {h : Heap} {a : Addr} {o : Obj} {its : List Value} {n : Nat} {ps : List PyData} (ho : h.get? a = some o) (hc : o.cls = .type "list") (hd : o.data = .seq its.toArray n) (hz : (listText (PyData.shownAll ps)).length ≤ sizeLine)
    (x : (∃ as, ReadsAll h its ps as) ∧ ∃ bs, ReadAtMost h (PyData.depthAll ps) bs ∧ ReprAllK prog w bs h (PyData.depthAll ps) its (PyData.shownAll ps)) : Rpr prog w h (.ref a) (.list ps) := by
  obtain ⟨⟨as, x1⟩, bs, hb, hk⟩ := x
  have r : Reads h (.ref a) (.list ps) (a :: as) := .list ho hc hd (by simpa using x1)
  have hna : a ∉ bs := not_mem_of_deeper r (by simp only [PyData.depth]; omega) hb
  refine ⟨⟨_, r⟩, ⟨a :: bs, ReadAtMost.cons r (by simp only [PyData.depth]; omega) hb, ?_⟩, fun b e => ?_⟩
  · simp only [PyData.depth, PyData.shown]
    cases its with
    | nil =>
      cases x1
      simp only [PyData.shownAll, listText_nil]
      exact ReprK.listEmpty ho hc hd
    | cons x l => exact ReprK.list ho hc hd hna (by simpa using hk.length_eq) (fun i y e => hk.item i y (by simpa using e))
  · cases e
    refine ⟨"list", "list.__repr__", F.slot_list_repr.toG, F.slot_list_str, F.slot_list_format, fun s hk0 => ⟨o, hk0 _ _ ho, hc⟩, fun A E s Q hg hu hk0 hQ => ?_⟩
    simp only [PyData.depth] at hu
    simp only [PyData.shown] at hQ
    cases its with
    | nil =>
      cases x1
      simp only [PyData.shownAll, listText_nil] at hQ
      exact call_list_repr_empty ⟨o, hk0 _ _ ho, hc⟩ (hk0 _ _ ho) hd (hQ s.heap _ _ fun _ _ e => e)
    | cons x l => exact call_list_reprK ho hc hd hna (by simpa using hk.length_eq) (fun i y e => hk.item i y (by simpa using e)) hg (fun b _ => Clear.nil b) hu hk0 hQ hz
theorem rpr_tuple {prog : Program} {w : World} {h : Heap} {a : Addr} {o : Obj} {its : List Value} {n : Nat} {ps : List PyData} (ho : h.get? a = some o) (hc : o.cls = .type "tuple") (hd : o.data = .seq its.toArray n) (hz : (tupleText (PyData.shownAll ps)).length ≤ sizeLine)
    (x : (∃ as, ReadsAll h its ps as) ∧ ∃ bs, ReadAtMost h (PyData.depthAll ps) bs ∧ ReprAllK prog w bs h (PyData.depthAll ps) its (PyData.shownAll ps)) : Rpr prog w h (.ref a) (.tuple ps) := by
  obtain ⟨⟨as, x1⟩, bs, hb, hk⟩ := x
  have r : Reads h (.ref a) (.tuple ps) as := .tuple ho hc hd (by simpa using x1)
  have hna : a ∉ bs := not_mem_of_deeper r (by simp only [PyData.depth]; omega) hb
  have hk' : ReprAllK prog w bs h (PyData.depthAll ps) its.toArray.toList (PyData.shownAll ps) := by simpa using hk
  refine ⟨⟨_, r⟩, ⟨a :: bs, ReadAtMost.cons r (by simp only [PyData.depth]; omega) hb, ?_⟩, fun b e => ?_⟩
  · simp only [PyData.depth, PyData.shown]
    exact ReprK.tuple ho hc hd hna hk'
  · cases e
    refine ⟨"tuple", "tuple.__repr__", F.slot_tuple_repr, F.slot_tuple_str, F.slot_tuple_format, fun s hk0 => ⟨o, hk0 _ _ ho, hc⟩, fun A E s Q hg hu hk0 hQ => ?_⟩
    simp only [PyData.depth] at hu
    simp only [PyData.shown] at hQ
    exact call_tuple_reprK ho hc hd hna hk' hg (fun b _ => Clear.nil b) hu hk0 hQ hz
theorem rpr_dict {prog : Program} {w : World} {h : Heap} {a : Addr} {o : Obj} {es : Array DictEntry} {n : Nat} {kvs : List (PyData × PyData)} (ho : h.get? a = some o) (hc : o.cls = .type "dict") (hd : o.data = .dict es n) (hsys : (a == sysModules) = false)
    (hz : (dictText (PyData.shownKv kvs)).length ≤ sizeLine)
    (x : (∃ as, ReadsAll h (es.toList.map (·.key)) (kvs.map (·.1)) as) ∧ ∃ bs, ReadAtMost h (PyData.depthAll (kvs.map (·.1))) bs ∧ ReprAllK prog w bs h (PyData.depthAll (kvs.map (·.1))) (es.toList.map (·.key)) (PyData.shownAll (kvs.map (·.1))))
    (y : (∃ as, ReadsAll h (es.toList.map (·.val)) (kvs.map (·.2)) as) ∧ ∃ bs, ReadAtMost h (PyData.depthAll (kvs.map (·.2))) bs ∧ ReprAllK prog w bs h (PyData.depthAll (kvs.map (·.2))) (es.toList.map (·.val)) (PyData.shownAll (kvs.map (·.2)))) : Rpr prog w h (.ref a) (.dict kvs) := by
  obtain ⟨⟨as₁, h4⟩, b1, hb1, k1⟩ := x
  obtain ⟨⟨bs₁, h5⟩, b2, hb2, k2⟩ := y
  have r : Reads h (.ref a) (.dict kvs) _ := .dict ho hc hd h4 h5
  have hb : ReadAtMost h (PyData.depthKv kvs) (b1 ++ b2) := (hb1.mono (PyData.depthAll_keys_le kvs)).append (hb2.mono (PyData.depthAll_vals_le kvs))
  have hna : a ∉ b1 ++ b2 := not_mem_of_deeper r (by simp only [PyData.depth]; omega) hb
  have hE := ReprEntriesK.of_two es.toList _ _ (k1.more_le (fun b hb => List.mem_append_left b2 hb) (PyData.depthAll_keys_le kvs)) (k2.more_le (fun b hb => List.mem_append_right b1 hb) (PyData.depthAll_vals_le kvs))
  refine ⟨⟨_, r⟩, ⟨a :: (b1 ++ b2), ReadAtMost.cons r (by simp only [PyData.depth]; omega) hb, ?_⟩, fun b e => ?_⟩
  · simp only [PyData.depth, PyData.shown, PyData.shownKv_eq]
    exact ReprK.dict ho hc hd hsys hna hE
  · cases e
    refine ⟨"dict", "dict.__repr__", F.slot_dict_repr, F.slot_dict_str, F.slot_dict_format, fun s hk0 => ⟨o, hk0 _ _ ho, hc⟩, fun A E s Q hg hu hk0 hQ => ?_⟩
    simp only [PyData.depth] at hu
    simp only [PyData.shown, PyData.shownKv_eq] at hQ
    exact call_dict_reprK ho hc hd hsys hna hE hg (fun b _ => Clear.nil b) hu hk0 hQ (by rw [← PyData.shownKv_eq]; exact hz)
def keyDD : Key → D
  | .inl i => .int i
  | .inr x => .str x
theorem kv_vals {P : Program} {w : World} : ∀ {kvs : List (Key × V)} {vs : List (Key × Value)} {es : List DictEntry}, KV kvs vs → Pairs (mixKind P w) es vs → Vals (kvs.map fun kv => kV kv.1) (es.map (·.key)) ∧ Vals (kvs.map (·.2)) (es.map (·.val))
  | _, _, _, .nil, .nil => ⟨.nil, .nil⟩
  | _, _, _, .cons e r, .cons h1 h2 h3 => by
    obtain ⟨i1, i2⟩ := kv_vals r h3
    refine ⟨.cons ?_ i1, .cons ?_ i2⟩
    · have := relV_key h1
      show L2.RelV (kV _) _
      rw [e.1]
      exact this
    · show L2.RelV _ (DictEntry.val _)
      rw [h2]
      exact e.2
theorem keys_rep : ∀ (ks : List Key), RepL (kx X T) ι F (ks.map keyDD) (ks.map kV)
  | [] => rfl
  | .inl i :: ks => ⟨_, _, rfl, rfl, keys_rep ks⟩
  | .inr i :: ks => ⟨_, _, rfl, rfl, keys_rep ks⟩
def pyF (d : D) : Option PyData := if isF d then pyR 1 [] d else none
theorem keys_py : ∀ (ks : List Key), mapO pyF (ks.map keyDD) = some (ks.map keyP)
  | [] => rfl
  | .inl i :: ks => by
    show ((some (PyData.int i)).bind fun b => (mapO pyF (ks.map keyDD)).map fun bs => b :: bs) = _
    rw [keys_py ks] <;> rfl
  | .inr i :: ks => by
    show ((some (PyData.str i)).bind fun b => (mapO pyF (ks.map keyDD)).map fun bs => b :: bs) = _
    rw [keys_py ks] <;> rfl
theorem rpr_flat {prog : Program} {w : World} {h : Heap} {d : D} {v : V} {u : Value} {p : PyData} (e : pyR 1 [] d = some p) (hf : isF d = true) (r : Rep (kx X T) ι F d v) (rv : RelV v u) (hs : p.showable = true) (hz : p.shown.length ≤ sizeLine) : Rpr prog w h u p := by
  cases d with
  | non => cases e; cases r; cases rv; exact ⟨⟨_, .none⟩, ⟨[], (fun _ h => nomatch h), by simp only [PyData.shown]; exact .of_is ReprIs.none _ _ _⟩, fun a e => nomatch e⟩
  | bl b => cases e; cases r; cases rv; exact ⟨⟨_, .bool b⟩, ⟨[], (fun _ h => nomatch h), by simp only [PyData.shown]; exact .of_is (ReprIs.bool b) _ _ _⟩, fun a e => nomatch e⟩
  | int i =>
    cases e; cases r
    obtain ⟨t, rfl⟩ := rv
    exact ⟨⟨_, .int i t⟩, ⟨[], (fun _ h => nomatch h), by simp only [PyData.shown]; exact .of_is (ReprIs.int t (by simpa [PyData.showable] using hs)) _ _ _⟩, fun a e => nomatch e⟩
  | str x =>
    cases e; cases r
    obtain ⟨t, rfl⟩ := rv
    exact ⟨⟨_, .str x t⟩, ⟨[], (fun _ h => nomatch h), by simp only [PyData.shown]; exact .of_is (ReprIs.str x t (by simpa only [PyData.shown] using hz)) _ _ _⟩, fun a e => nomatch e⟩
  | _ => cases hf
theorem flat_py {d : D} {n : Nat} {M : Mem} (hf : isF d = true) : pyR (n + 1) M d = pyR 1 [] d := by
  cases d <;> first | rfl | cases hf
theorem rpr_of (I : Inv X pins σ H s) (r : Rel (kx X T) ι F rs H M) : ∀ (n : Nat) (d : D) (v : V) (u : Value) (p : PyData), pyR n M d = some p → Rep (kx X T) ι F d v → RelV v u → p.showable = true → p.shown.length ≤ sizeLine → Rpr X.prog X.w s.heap u p
  | 0, d, v, u, p, e, _, _, _, _ => nomatch e
  | n + 1, d, v, u, p, e, rd, rv, hs, hz => by
    by_cases hf : isF d = true
    · rw [flat_py hf] at e
      exact rpr_flat e hf rd rv hs hz
    have ih := rpr_of I r n
    have rest : ∀ {a : Addr}, v = .ref a → u = .ref a := fun {a} e => by subst e; exact rv
    by_cases ht : ∃ xs, d = .tup xs
    · obtain ⟨xs, rfl⟩ := ht
      obtain ⟨ps, e1, rfl⟩ := Option.map_eq_some_iff.mp (show (mapO (pyR n M) xs).map PyData.tuple = some p from e)
      obtain ⟨a, vs, ev, h1, h2⟩ := rd
      obtain rfl := rest ev
      obtain ⟨its, rvs, ⟨o, ho, hc, m, hd⟩, _⟩ := I.tuple (sqt_sub r h1)
      have hz' : (tupleText (PyData.shownAll ps)).length ≤ sizeLine := by simpa only [PyData.shown] using hz
      exact rpr_tuple ho hc hd hz' (rpr_all ih xs vs its ps e1 h2 rvs (by simpa [PyData.showable] using hs) fun t ht => Nat.le_trans (tupleText_mem_le ht) hz')
    have e' : (match dcOf M d with
      | some kvs => (mapO (pyR n M) (kvs.map (·.2))).map fun ps => PyData.dict ((kvs.map fun kv => keyP kv.1).zip ps)
      | none => match lsOf M d with
        | some xs => (mapO (pyR n M) xs).map .list
        | none => none) = some p := by
      cases d <;> first | exact e | exact absurd rfl hf | exact absurd ⟨_, rfl⟩ ht
    split at e'
    · rename_i kvs ek
      obtain ⟨ps, e1, rfl⟩ := Option.map_eq_some_iff.mp e'
      obtain ⟨a, vs, ev, h1, h2, h3⟩ := dcOf_at r ek rd
      obtain rfl := rest ev
      obtain ⟨_, hsys, us, rel, o, es, ep, ho, hx, hd, _, hp, _⟩ := dk_rd I.hok h1
      obtain ⟨r1, r2⟩ := kv_vals rel hp
      have hl : ps.length = kvs.length := by rw [mapO_len e1, List.length_map]
      have f1 : ((kvs.map fun kv => keyP kv.1).zip ps).map (·.1) = (kvs.map (·.1)).map keyP := by
        rw [List.map_map]
        exact List.map_fst_zip (by rw [List.length_map, hl]; exact Nat.le_refl _)
      have f2 : ((kvs.map fun kv => keyP kv.1).zip ps).map (·.2) = ps := List.map_snd_zip (by rw [List.length_map, hl]; exact Nat.le_refl _)
      have hz' : (dictText (PyData.shownKv ((kvs.map fun kv => keyP kv.1).zip ps))).length ≤ sizeLine := by simpa only [PyData.shown] using hz
      obtain ⟨hs1, hs2⟩ := PyData.showableKv_split _ (by simpa [PyData.showable] using hs : PyData.showableKv ((kvs.map fun kv => keyP kv.1).zip ps) = true)
      refine rpr_dict ho hx.1 hd hsys hz' ?_ ?_
      · have q1 := fun t ht => let ⟨p, hp, hl⟩ := PyData.shownKv_key_le ((kvs.map fun kv => keyP kv.1).zip ps) t ht; Nat.le_trans hl (Nat.le_trans (dictText_mem_le hp) hz')
        rw [f1] at hs1 q1 ⊢
        have m1 : kvs.map (·.1) = vs.map (·.1) := h2.symm
        refine rpr_all (X := X) (T := T) (ι := ι) (F := F) (f := pyF) (fun d v u p e rd rv hs hz => ?_) _ _ _ _ (keys_py (kvs.map (·.1))) (keys_rep _) (by rw [m1, List.map_map]; exact r1) hs1 q1
        unfold pyF at e
        split at e
        · rename_i hf
          exact rpr_flat e hf rd rv hs hz
        · cases e
      · have q2 := fun t ht => let ⟨p, hp, hl⟩ := PyData.shownKv_val_le ((kvs.map fun kv => keyP kv.1).zip ps) t ht; Nat.le_trans hl (Nat.le_trans (dictText_mem_le hp) hz')
        rw [f2] at hs2 q2 ⊢
        exact rpr_all ih _ _ _ _ e1 h3 r2 hs2 q2
    · split at e'
      · rename_i xs e1
        obtain ⟨ps, e2, rfl⟩ := Option.map_eq_some_iff.mp e'
        obtain ⟨a, vs, ev, h1, h2⟩ := lsOf_at r e1 rd
        obtain rfl := rest ev
        obtain ⟨its, rvs, ⟨o, m, ho, hc, _, hd⟩, _⟩ := I.list h1
        have hz' : (listText (PyData.shownAll ps)).length ≤ sizeLine := by simpa only [PyData.shown] using hz
        exact rpr_list ho hc hd hz' (rpr_all ih xs vs its ps e2 h2 rvs (by simpa [PyData.showable] using hs) fun t ht => Nat.le_trans (listText_mem_le ht) hz')
      · cases e'
/-- repr(x) -/
theorem c_repr {k : Nat} (hr : Room k X.A) : CallR X (.builtin "repr") (RC (kx X T) rs reprC) := by
  intro pins s σ H vs us Q I rv h
  obtain ⟨ι, F, M, ds, z, M', r, rd, e, q⟩ := h
  unfold reprC at e
  split at e
  · rename_i d
    split at e
    · rename_i p hp
      split at e
      · rename_i hc
        cases e
        rw [Bool.and_eq_true, Bool.and_eq_true, decide_eq_true_eq, decide_eq_true_eq] at hc
        obtain ⟨⟨hs, hd⟩, hz⟩ := hc
        rw [line_eq] at hz
        obtain ⟨v, rfl, h1⟩ := one_of rd
        obtain ⟨u, rfl, ru⟩ := vals1 rv
        have R := rpr_of I r 40 d v u p hp h1 ru hs hz
        have fin : ∀ h' t tk, (∀ b o, s.heap.get? b = some o → h'.get? b = some o) → EP X pins σ Q (.str p.shown t) { s with heap := h', toks := tk } := fun h' t tk k => ⟨.str p.shown, H, I.kept k, ⟨t, rfl⟩, q ι F H _ Le.refl r rfl⟩
        have hun := hr.un
        have ref : ∀ {a : Addr}, u = .ref a → wpAny (model X.prog X.w) X.A (call (.builtin "repr") [u]) (EP X pins σ Q) X.xe s := fun {a} eu => by
          subst eu
          obtain ⟨Ty, idr, S⟩ := R.top a rfl
          exact call_repr_slot (by omega) (S.typeIs s fun b o e => e) S.slotRepr (S.call X.A.in1 _ s _ hr.gu (by show X.A.units + 1 + p.depth < cLine; omega) (fun b o e => e) fun h' t tk k => ⟨_, _, rfl, fin h' t tk k⟩)
        cases d with
        | non =>
          cases h1; cases ru
          cases hp
          refine PySem.P.repr_of_none ?_
          have := fin s.heap s.toks (s.toks + 1) fun b o e => e
          simp only [PyData.shown] at this
          exact this
        | bl b =>
          cases h1; cases ru
          cases hp
          refine PySem.P.repr_of_bool ?_
          have := fin s.heap s.toks (s.toks + 1) fun b o e => e
          simp only [PyData.shown] at this
          exact this
        | int i =>
          cases h1
          obtain ⟨t, rfl⟩ := ru
          cases hp
          refine PySem.P.repr_of_int (by simpa [PyData.showable] using hs) ?_
          have := fin s.heap s.toks (s.toks + 1) fun b o e => e
          simp only [PyData.shown] at this
          exact this
        | str i =>
          cases h1
          obtain ⟨t, rfl⟩ := ru
          cases hp
          refine PySem.P.repr_of_str ?_ (by simpa only [PyData.shown] using hz)
          have := fin s.heap s.toks (s.toks + 1) fun b o e => e
          simp only [PyData.shown] at this
          exact this
        | ty i => cases hp
        | glb i => cases hp
        | lst xs => obtain ⟨a, vs, rfl, _⟩ := h1; exact ref ru
        | tup xs => obtain ⟨a, vs, rfl, _⟩ := h1; exact ref ru
        | dic xs ys => obtain ⟨a, vs, rfl, _⟩ := h1; exact ref ru
        | ref i => obtain ⟨a, rfl, _⟩ := h1; exact ref ru
      · cases e
    · cases e
  · cases e
end

/-! ### d.get(k, x) -/
def eGet (o a b : Sem1 D) : Sem1 D := fun s M => (o s M).bind fun x M1 => if (dcOf M1 x).isSome then (a s M1).bind fun y M2 => (b s M2).bind fun z M3 => match dcOf M3 x, keyOf y with
  | some kvs, some k => .ok ((getK kvs k).getD z) M3
  | _, _ => .bad else .bad
section
variable {X : Cx} {T : Tab} {W : WX} {o a b : Expr} {φ ψ χ : Sem1 D} {apos cpos : Pos}
theorem Get2 (hu : X.A.units + 1 < cLine) (ho : KE X T W o φ) (ha : KE X T W a ψ) (hb : KE X T W b χ) (m : M2 X o "get" apos a b cpos := by exact ⟨noSup rfl, rfl, rfl, rfl⟩) : KE X T W (.Call (.Attribute o "get" apos) [a, b] [] cpos) (eGet φ ψ χ) := fun rs => PE.imp (pe_dget2 hu (ho rs) (ha rs) (hb rs) m) fun σ H Q h => by
  obtain ⟨ι, F, s, M, r, rS, p⟩ := h
  refine ⟨ι, F, s, M, r, rS, p.step fun v H1 ι1 F1 M1 x l1 r1 rv p1 => ?_⟩
  split at p1
  · rename_i hsome
    obtain ⟨kvs0, e0⟩ := Option.isSome_iff_exists.mp hsome
    obtain ⟨c, vs0, rfl, h0, _, _⟩ := dcOf_at r1 e0 rv
    refine ⟨c, rfl, .inl ⟨vs0, h0⟩, ι1, F1, s, M1, r1, rS.le l1, p1.step fun y H2 ι2 F2 M2 yd l2 r2 ry p2 => ?_⟩
    refine ⟨ι2, F2, s, M2, r2, (rS.le l1).le l2, p2.step fun z H3 ι3 F3 M3 zd l3 r3 rz p3 => ?_⟩
    split at p3
    · rename_i kvs k e1 e2
      obtain ⟨c', vs, ec, hc, m1, m2⟩ := dcOf_at r3 e1 (l3 _ _ (l2 _ _ rv))
      cases ec
      have hv := valV_rep (k := k) m1 m2
      refine ⟨valV vs k, .inl ⟨vs, k, hc, keyOf_rep e2 (l3 _ _ ry), rfl⟩, ?_⟩
      split at hv
      · rename_i d' e3
        obtain ⟨w, e4, rw⟩ := hv
        rw [e3] at p3
        rw [e4]
        exact p3.fin r3 rw
      · rename_i e3
        rw [e3] at p3
        rw [hv]
        exact p3.fin r3 rz
    · exact p3.elim
  · exact p1.elim
end
end LD
namespace LD
open PySem PySem.Spec PyProof.Rows L2

/-! ### more evaluation rows -/
def okS {α : Type} (b : Bool) (r : R α) (_ : Tg r) : R α := if b then r else .bad
theorem okS_t {α : Type} {r : R α} {t : Tg r} : okS true r t = r := rfl
def lstK : Option DO → Bool
  | some (.lst _) => true
  | _ => false
theorem lstK_s {xs : List D} : lstK (some (.lst xs)) = true := rfl
def appK (o : Option DO) (i : Nat) (d : D) (M : Mem) : Option (D × Mem) := match o with
  | some (.lst xs) => if xs.length < LINE then some (.non, M.set i (.lst (xs ++ [d]))) else none
  | _ => none
def lsK (o : Option (List D)) (k : List D → R D) (_ : Tg k) : R D := match o with
  | some xs => k xs
  | none => .bad
theorem lsK_s {xs : List D} {k : List D → R D} {t : Tg k} : lsK (some xs) k t = k xs := rfl
def getKK (o : Option (List (Key × D))) (k : Option Key) (z : D) (M : Mem) : R D := match o, k with
  | some kvs, some k => .ok ((getK kvs k).getD z) M
  | _, _ => .bad
theorem getKK_s {kvs : List (Key × D)} {k : Key} {z : D} {M : Mem} : getKK (some kvs) (some k) z M = .ok ((getK kvs k).getD z) M := rfl
section
variable {s : DS} {M : Mem} {x y d : D} {i : Nat} {a b c : Sem1 D} {α : Sem1 (List D)}
theorem q_App : eBm isLst appG a α s M = bnd (a s M) (fun x M1 => okS (isLst M1 x) (bnd (α s M1) (fun ds M2 => ofO (appG x ds M2)) .mk) .mk) .mk := rfl
theorem v_isLst : isLst M (.ref i) = lstK M[i]? := by
  cases h : M[i]? with
  | none => simp only [isLst, lsOf, lstK, h] <;> rfl
  | some o => cases o <;> simp only [isLst, lsOf, lstK, h] <;> rfl
theorem v_app : appG (.ref i) [d] M = appK M[i]? i d M := by
  cases h : M[i]? with
  | none => simp only [appG, appK, h]
  | some o => cases o <;> simp only [appG, appK, h]
theorem appK_s {xs : List D} (h : xs.length < LINE) : appK (some (.lst xs)) i d M = some (.non, M.set i (.lst (xs ++ [d]))) := if_pos h
theorem q_Rev : eRev false a s M = bnd (a s M) (fun x M1 => lsK (lsOf M1 x) (fun xs => .ok (.lst xs.reverse) M1) .mk) .mk := by
  show R.bind _ _ = R.bind _ _
  congr 1
theorem q_Get : eGet a b c s M = bnd (a s M) (fun x M1 => okS (dcOf M1 x).isSome (bnd (b s M1) (fun y M2 => bnd (c s M2) (fun z M3 => getKK (dcOf M3 x) (keyOf y) z M3) .mk) .mk) .mk) .mk := by
  unfold eGet getKK
  rfl
theorem v_lsL {xs : List D} : lsOf M (.lst xs) = some xs := rfl
theorem v_lsR {xs : List D} (h : M[i]? = some (.lst xs)) : lsOf M (.ref i) = some xs := by
  simp only [lsOf, h]
theorem v_dcR {kvs : List (Key × D)} (h : M[i]? = some (.dic kvs)) : dcOf M (.ref i) = some kvs := by
  simp only [dcOf, h]
theorem v_keyI {k : Int} : keyOf (.int k) = some (.inl k) := rfl
theorem v_keyS {k : Str} : keyOf (.str k) = some (.inr k) := rfl
theorem v_srcR {xs : List D} (h : M[i]? = some (.lst xs)) : srcOf M (.ref i) = some ⟨xs, mutChk i xs⟩ := by
  simp only [srcOf, h]
  rfl
theorem v_listR {xs : List D} (h : M[i]? = some (.lst xs)) : listC false [.ref i] M = some (.lst xs, M) := by
  show (sqOf M (.ref i)).map _ = _
  have : sqOf M (.ref i) = some xs := by
    unfold sqOf
    exact v_lsR h
  rw [this] <;> rfl
theorem v_lenR {xs : List D} (h : M[i]? = some (.lst xs)) : lenC [.ref i] M = some (.int xs.length, M) := by
  unfold lenC
  simp only [h]
theorem v_lenRd {kvs : List (Key × D)} (h : M[i]? = some (.dic kvs)) : lenC [.ref i] M = some (.int kvs.length, M) := by
  unfold lenC
  simp only [h]
theorem v_eqs {p q : Str} : boD eqD (.str p) (.str q) M = some (.bl (p == q), M) := rfl
theorem v_nes {p q : Str} : boD (notB eqD) (.str p) (.str q) M = some (.bl (!(p == q)), M) := rfl
theorem v_adds {a b : Str} {M : Mem} (h : a.length + b.length ≤ LINE) : addD (.str a) (.str b) M = some (.str (a ++ b), M) := if_pos h
theorem v_isiBb {b : Bool} : isiC [.bl b, .ty "bool"] M = some (.bl true, M) := by cases b <;> rfl
/-- a list that may change and a value: equal if the items are the same -/
theorem v_neR {n : Nat} {xs : List D} (h : M[i]? = some (.lst xs)) (ho : okL n xs = true) (hn : n < 64) : boD (notB eqD) (.ref i) (.lst xs) M = some (.bl false, M) := by
  have e : eqD M (.ref i) (.lst xs) = eqD M (.lst xs) (.lst xs) := by
    unfold eqD
    have e1 : pyOf M (.ref i) = pyOf M (.lst xs) := by
      show (match M[i]? with | some (.lst xs) => (pyL xs).map PyData.list | _ => none) = _
      rw [h]
      show _ = pyD (.lst xs)
      rw [pyD]
    rw [e1] <;> rfl
  have e2 := eqD_self (n := n + 1) (d := .lst xs) (M := M) (by rw [okD]; exact ho) (by omega)
  show (notB eqD M (.ref i) (.lst xs)).map _ = _
  unfold notB
  rw [e, e2] <;> rfl
theorem mapO_mono {α β : Type} {f g : α → Option β} (h : ∀ x y, f x = some y → g x = some y) : ∀ {xs : List α} {ys : List β}, mapO f xs = some ys → mapO g xs = some ys
  | [], _, e => e
  | x :: xs, ys, e => by
    obtain ⟨b, e1, e2⟩ := Option.bind_eq_some_iff.mp e
    obtain ⟨bs, e3, rfl⟩ := Option.map_eq_some_iff.mp e2
    show ((g x).bind fun b => (mapO g xs).map fun bs => b :: bs) = _
    rw [h x b e1, mapO_mono h e3] <;> rfl
theorem pyR_up {M : Mem} : ∀ {n : Nat} {d : D} {p : PyData}, pyR n M d = some p → pyR (n + 1) M d = some p
  | 0, _, _, h => by cases h
  | n + 1, d, p, h => by
    have mo : ∀ {xs : List D} {ys : List PyData}, mapO (pyR n M) xs = some ys → mapO (pyR (n + 1) M) xs = some ys := fun e => mapO_mono (fun x y e => pyR_up e) e
    unfold pyR at h ⊢
    split at h
    · exact h
    · exact h
    · exact h
    · exact h
    · rename_i xs
      obtain ⟨ps, e1, rfl⟩ := Option.map_eq_some_iff.mp h
      simp only [mo e1]
      rfl
    · rename_i h1 h2 h3 h4 h5
      split at h
      · rename_i kvs hk
        obtain ⟨ps, e1, rfl⟩ := Option.map_eq_some_iff.mp h
        simp only [hk, mo e1]
        rfl
      · rename_i hk
        split at h
        · rename_i xs hx
          obtain ⟨ps, e1, rfl⟩ := Option.map_eq_some_iff.mp h
          simp only [hk, hx, mo e1]
          rfl
        · cases h
theorem pyR_le {M : Mem} {d : D} {p : PyData} {n m : Nat} (h : pyR n M d = some p) (hm : n ≤ m) : pyR m M d = some p := by
  obtain ⟨k, rfl⟩ : ∃ k, m = n + k := ⟨m - n, by omega⟩
  clear hm
  induction k with
  | zero => exact h
  | succ k ih => exact pyR_up ih
theorem v_repr40 {p : PyData} (h : pyR 40 M d = some p) (h1 : p.showable = true) (h2 : p.depth ≤ 60) (h3 : p.leavesShort 13 = true) (h4 : p.weight ≤ 2 ^ 20) : reprC [d] M = some (.str p.shown, M) := by
  simp only [reprC, h]
  rw [if_pos]
  rw [h1, decide_eq_true h2, decide_eq_true (show p.shown.length ≤ LINE by rw [line_eq]; exact PyData.shown_fits (by decide) (by decide) h3 h4)] <;> rfl
theorem v_repr {p : PyData} (h : pyR 12 M d = some p) (h1 : p.showable = true) (h2 : p.depth ≤ 60) (h3 : p.leavesShort 13 = true) (h4 : p.weight ≤ 2 ^ 20) : reprC [d] M = some (.str p.shown, M) := v_repr40 (pyR_le h (by decide)) h1 h2 h3 h4
theorem mapO_map {α : Type} {f : D → Option PyData} {e : α → D} {g : α → PyData} : ∀ {as : List α}, (∀ a ∈ as, f (e a) = some (g a)) → mapO f (as.map e) = some (as.map g)
  | [], _ => rfl
  | a :: as, h => by
    show ((f (e a)).bind fun b => (mapO f (as.map e)).map fun bs => b :: bs) = _
    rw [h a List.mem_cons_self, mapO_map fun b hb => h b (List.mem_cons_of_mem _ hb)] <;> rfl
theorem seqN {ψ χ : SSem} {s1 : DS} {M1 : Mem} (h : ψ s M = .nx s1 M1) : sSeq ψ χ s M = χ s1 M1 := by rw [q_Seq, h] <;> rfl
theorem seqR {ψ χ : SSem} {M1 : Mem} (h : ψ s M = .rt d M1) : sSeq ψ χ s M = .rt d M1 := by rw [q_Seq, h] <;> rfl
end
end LD
namespace LD
open PySem PySem.Spec PyProof.Rows L2

/-! ### own __iter__: return iter(self.F) -/
def IterD (P : Program) (w : World) (K : PySem.W.Frag) (mg : Str → Option Value) (base : Heap) (T : Tab) (k c j : Nat) : Prop :=
  ∃ C ly g, T.ct[c]? = some (C, ly) ∧ PySem.W.findIn K (.ref C) "__iter__" = some (some (.ref g)) ∧ PySem.W.isFn K (.ref g) = true ∧
    ∀ (rs : List (Addr × HO)) (A : Around) (outer : List Env) (s : Shared) (H : Hp) (ι : List Addr) (F : Hp) (M : Mem) (i l : Nat) (fs : List (Option D)) (xs : List D) (a la : Addr), Room k A → Env0 P w K mg base A outer s H → Rel ⟨K, T⟩ ι F rs H M →
      M[i]? = some (.ins c fs) → fs[j]? = some (some (.ref l)) → M[l]? = some (.lst xs) → ι[i]? = some a → ι[l]? = some la →
      codeAny (model P w) A (.call (.ref g) ⟨[.ref a], []⟩) (CR (L2.CX P w) outer P w H s (fun v H' => ∃ it ι' F' H1, v = .ref it ∧ s.heap.objs.size ≤ it ∧ Le ⟨K, T⟩ ι F ι' F' ∧ Rel ⟨K, T⟩ ι' F' rs H1 M ∧ H1 it = none ∧ H' = upd H1 it (ItO la it 0)) fun _ _ _ => False) s
theorem iterD_of {P : Program} {w : World} {K : PySem.W.Frag} {mg : Str → Option Value} {base : Heap} {T : Tab} {k c j : Nat} {C g : Addr} {ly : List Str} {x qual self : Str} {st : Stmt} {fd : FuncData} (hc : T.ct[c]? = some (C, ly)) (hs : PySem.W.findIn K (.ref C) "__iter__" = some (some (.ref g)))
    (hf : PySem.W.isFn K (.ref g) = true) (Fx : L2.Fun K x qual st g fd) (S : FnScope [self] [self] (defScope st)) (hb : ∀ (s : Shared) (u : Value), BindsTo s fd ⟨[u], []⟩ [(self, u)])
    (hbody : ∀ (cdv : Value) (A : Around) (outer : List Env) (s : Shared) (H : Hp) (E : XK) (rs : List (Addr × HO)), PSs (cxOf (L2.CX P w) P w K mg base [self] qual (defScope st) g cdv A outer s H E) (defBody st)
      (tSeq (tRet (tCB (ItX.rIterN K s.heap.objs.size) (LA ⟨K, T⟩ rs (fun c d _ H => E c d H) (aCons (eAttr [] [(c, j)] (eVar 0)) aNil)))) tNext)) : IterD P w K mg base T (k + 1) c j := by
  refine ⟨C, ly, g, hc, hs, hf, fun rs A outer s H ι F M i l fs xs a la hr e0 r hM hj hl hi hil => ?_⟩
  refine fn_at (us := [Value.ref a]) (vs := [V.ref a]) Fx S hr e0 (hb s _) (.cons rfl .nil) rfl fun cdv hr' => ⟨_, hbody cdv A outer s H _ rs, ?_⟩
  have e : (aCons (eAttr [] [(c, j)] (eVar 0)) aNil) (startD 1 [D.ref i]) M = .ok [.ref l] M := by
    have e1 : eAttr [] [(c, j)] (eVar 0) (startD 1 [D.ref i]) M = .ok (.ref l) M := by
      rw [q_Attr]
      show bnd (R.ok (D.ref i) M) _ _ = _
      rw [bind_k, refK_r, hM, insK_i]
      show lookK none _ _ _ _ = _
      rw [lookK_n]
      show lookK (List.lookup c [(c, j)]) _ _ _ _ = _
      rw [List.lookup_cons, beq_self_eq_true]
      show lookK (some j) _ _ _ _ = _
      rw [lookK_s, hj] <;> rfl
    rw [q_Cons, e1] <;> rfl
  refine ⟨ι, F, startD 1 [D.ref i], M, r, start_rep (N := [self]) (ds := [D.ref i]) ⟨_, _, rfl, ⟨a, rfl, hi⟩, rfl⟩, ?_⟩
  rw [e]
  intro ι' F' H' vs le r' rv
  obtain ⟨v, rfl, la', rfl, h1⟩ := one_of rv
  obtain ⟨la2, e2, h2⟩ := le (.ref l) (.ref la) ⟨la, rfl, hil⟩
  cases e2
  rw [h1] at h2
  cases h2
  obtain ⟨_, us, h3, _⟩ := r'.obj l _ la hl h1 rfl
  exact ⟨la, us, rfl, .inl (.inl h3), fun it hn hs => ⟨it, ι', F', H', rfl, hs, le, r', hn, rfl⟩⟩
def iOwn (tbl : List (Nat × Nat)) (a : Sem1 D) : Sem1 Src := fun s M => (a s M).bind fun x M1 => match x with
  | .ref i => match M1[i]? with
    | some (.ins c fs) => match tbl.lookup c with
      | some j => match fs[j]? with
        | some (some (.ref l)) => match M1[l]? with
          | some (.lst xs) => .ok ⟨xs, mutChk l xs⟩ M1
          | _ => .bad
        | _ => .bad
      | none => .bad
    | _ => .bad
  | _ => .bad
theorem walk_mutF {K : KX} {a : Addr} {i : Nat} {xs : List D} : WalkD K (ItX.ItlF K.fr a 0) ⟨xs, mutChk i xs⟩ (fun ι F => Rep K ι F (.ref i) (.ref a)) where
  mono := fun l h => l _ _ h
  go := fun {ι F rs H M j} _ h r c hi => by
    have := (walk_mut (K := K) (a := a) (i := i) (xs := xs)).go (fun _ h => (nomatch h)) h r c hi
    show (Itl K.fr a).go (0 + j) H
    rw [Nat.zero_add]; exact this
  stop := fun {ι F rs H M} _ h r c => by
    have := (walk_mut (K := K) (a := a) (i := i) (xs := xs)).stop (fun _ h => (nomatch h)) h r c
    show (Itl K.fr a).stop (0 + _) H
    rw [Nat.zero_add]; exact this
  yld := fun {ι F rs H M j d x H'} _ h r c e y => by
    have y' : (Itl K.fr a).yld (0 + j) H x H' := y
    rw [Nat.zero_add] at y'
    exact (walk_mut (K := K) (a := a) (i := i) (xs := xs)).yld (fun _ h => (nomatch h)) h r c e y'
section
variable {X : Cx} {T : Tab} {W : WX} {tg e : Expr} {φ : Sem1 D}
theorem ki_own {k k' : Nat} {tbl : List (Nat × Nat)} (ht : ∀ c j, tbl.lookup c = some j → IterD X.prog X.w X.K X.mg X.base T k' c j) (hr : Room k X.A) (he : KE X T W e φ) (hl : k' ≤ k := by first | decide | omega) : KI X T W tg e (iOwn tbl φ) := ⟨fun rs => ⟨fun pins s σ H R I h => by
  refine thn ((he rs).run pins s σ H (fun v H1 => ∃ ι F M i c fs j l xs, Rel (kx X T) ι F rs H1 M ∧ Rep (kx X T) ι F (.ref i) v ∧ M[i]? = some (.ins c fs) ∧ tbl.lookup c = some j ∧ fs[j]? = some (some (.ref l)) ∧ M[l]? = some (.lst xs) ∧
    ∀ ι' F' H' J, Le (kx X T) ι F ι' F' → Rel (kx X T) ι' F' rs H' M → repI (kx X T) rs ι' F' ⟨xs, mutChk l xs⟩ J → R J H') I ?_) fun u s1 ⟨v, H1, I1, rv, q⟩ => ?_
  · obtain ⟨ι, F, st, M, r, rS, p⟩ := h
    refine ⟨ι, F, st, M, r, rS, p.step fun v H1 ι1 F1 M1 x l1 r1 rv p1 => ?_⟩
    cases x with
    | ref i =>
      simp only at p1
      split at p1
      · rename_i c fs hM
        split at p1
        · rename_i j hj
          split at p1
          · rename_i l hfl
            split at p1
            · rename_i xs hl
              exact ⟨ι1, F1, M1, i, c, fs, j, l, xs, r1, rv, hM, hj, hfl, hl, p1⟩
            · exact p1.elim
          · exact p1.elim
        · exact p1.elim
      · exact p1.elim
    | _ => exact p1.elim
  · obtain ⟨ι, F, M, i, c, fs, j, l, xs, r, ri, hM, hj, hfl, hll, p⟩ := q
    obtain ⟨a, rfl, hi⟩ := ri
    obtain rfl : u = Value.ref a := rv
    obtain ⟨C, ly, g, hc, hs, hf, run⟩ := ht c j hj
    obtain ⟨_, C', ly', dx, vs, hc', hH, _, _, hlen, hget⟩ := r.obj i _ a hM hi rfl
    have e2 : (C, ly) = (C', ly') := Option.some.inj (hc.symm.trans hc')
    cases e2
    obtain ⟨mA, J, _⟩ := ins_get I1.hok hH
    obtain ⟨od, J, _⟩ := J.look
    obtain ⟨m, hF⟩ := I1.fr
    have hjl : j < ly.length := by rw [← hlen]; exact (List.getElem?_eq_some_iff.mp hfl).1
    obtain ⟨w, _, la, rfl, hla⟩ := hget j ly[j] (List.getElem?_eq_getElem hjl) _ hfl
    refine PySem.W.owit_iter hF I1.ok.mod.kin J hs hf (wpAny_call (codeAny_mono (run rs X.A X.stack s1 H1 ι F M i l fs xs a la (hr.mono hl) I1.env0 r hM hfl hll hi hla) fun rr s' hq => ?_))
    cases rr with
    | error er =>
      obtain ⟨_, _, _, _, _, _, _, _, _, _, _, _, z⟩ := hq
      exact z.elim
    | ok fl =>
      cases fl with
      | next => exact False.elim hq
      | brk => exact False.elim hq
      | cont => exact False.elim hq
      | ret u' =>
        obtain ⟨v', H2, I2, rv2, it, ι', F', H3, rfl, hsz, le, r3, hn, rfl⟩ := I1.after hq
        obtain rfl : u' = Value.ref it := rv2
        have hit : upd H3 it (ItO la it 0) it = some (ItO la it 0) := upd_same
        have eo := itO_get I2 hit
        have stt : s'.heap.IsListIter it la (0 + 0) := ⟨_, eo, rfl, rfl⟩
        unfold PySem.W.OwitIt
        refine wpAny_specialOf (T := "list_iterator") stt.typeIs PySem.slot_listiter_next.lookup ?_
        have hi' := hit
        unfold ItO at hi'
        have ed : ItX.dropH (upd H3 it (ItO la it 0)) it = H3 := ItX.dropH_upd hn
        refine ⟨it, [it], _, ItX.ItlF X.K la 0, H3, rfl, ?_, ItX.turn_listF la it 0, stt, fun b hb => ?_, p ι' F' H3 _ le r3 (repI.mk walk_mutF (le (.ref l) (.ref la) ⟨la, rfl, hla⟩))⟩
        · rw [← ed]
          exact ItX.inv_drop I2 hi'
        · have eb : b = it := by simpa using hb
          rw [eb, ← ed]
          exact ItX.inv_fp I2 hit (Nat.le_trans I1.sz hsz)⟩⟩
theorem q_iOwn {s : DS} {M : Mem} {tbl : List (Nat × Nat)} {i c j l : Nat} {fs : List (Option D)} {xs : List D} (h : φ s M = .ok (.ref i) M) (h1 : M[i]? = some (.ins c fs)) (h2 : tbl.lookup c = some j) (h3 : fs[j]? = some (some (.ref l))) (h4 : M[l]? = some (.lst xs)) : iOwn tbl φ s M = .ok ⟨xs, mutChk l xs⟩ M := by
  unfold iOwn
  rw [h]
  simp only [R.bind_ok, h1, h2, h3, h4]
end
end LD
namespace LD
open PySem PySem.Spec PyProof.Rows L2

/-! ### {'k': e, ..}: a dict that may change -/
structure KDs (X : Cx) (T : Tab) (W : WX) (pos : Pos) (keys : List (Option Expr)) (values : List Expr) (ks : List Key) (α : Sem1 (List D)) : Prop where
  pd : ∀ rs, ∃ trs, PPs X pos keys values trs ∧ ∀ σ H (Q : List (V × V) → Hp → Prop), LA (kx X T) rs W α σ H (fun vs H' => Q ((ks.map kV).zip vs) H') → tPairs trs σ H Q
  al : AL α keys.length
  kl : ks.length = keys.length
section
variable {X : Cx} {T : Tab} {W : WX} {pos p : Pos} {keys : List (Option Expr)} {values : List Expr} {ks : List Key} {α : Sem1 (List D)} {ψ : Sem1 D} {e v : Expr} {k : Key} {rs : List (Addr × HO)}
theorem kd_nil : KDs X T W pos [] [] [] aNil := ⟨fun rs => ⟨[], pps_nil, fun σ H Q h => by
  obtain ⟨ι, F, s, M, r, rS, p⟩ := h
  exact p.fin r rfl⟩, al_nil, rfl⟩
theorem keyD_rep {K : KX} {ι : List Addr} {F : Hp} {v : V} (h : Rep K ι F (keyDD k) v) : v = kV k := by
  cases k <;> exact h
theorem kd_cons (hk : KE X T W e (eC (keyDD k))) (hv : KE X T W v ψ) (hr : KDs X T W pos keys values ks α) : KDs X T W pos (some e :: keys) (v :: values) (k :: ks) (aCons ψ α) := ⟨fun rs => by
  obtain ⟨trs, hp, hq⟩ := hr.pd rs
  refine ⟨_, pps_cons (hk rs) (hv rs) hp, fun σ H Q h => ?_⟩
  obtain ⟨ι, F, s, M, r, rS, p⟩ := h
  refine ⟨ι, F, s, M, r, rS, fun ι1 F1 H1 x l1 r1 rx => ?_⟩
  have ex := keyD_rep rx
  subst ex
  refine ⟨ι1, F1, s, M, r1, rS.le l1, (Post.le l1 p).step fun w H2 ι2 F2 M2 d l2 r2 rw p2 => hq σ H2 _ ⟨ι2, F2, s, M2, r2, (rS.le l1).le l2, p2.step fun ws H3 ι3 F3 M3 ds l3 r3 rws p3 => ?_⟩⟩
  exact p3.fin r3 ⟨w, ws, rfl, l3 _ _ rw, rws⟩, al_cons hr.al, by rw [List.length_cons, List.length_cons, hr.kl]⟩
def eDisp (ks : List Key) (α : Sem1 (List D)) : Sem1 D := fun s M => (α s (M ++ [.dic []])).bind fun ds M1 => match M1[M.length]? with
  | some (.dic []) => .ok (.ref M.length) (M1.set M.length (.dic (ks.zip ds)))
  | _ => .bad
theorem merge_nodup : ∀ (more kvs : List (Key × V)), (kvs.map (·.1) ++ more.map (·.1)).Nodup → mergeK kvs more = kvs ++ more
  | [], kvs, _ => by rw [List.append_nil]; rfl
  | q :: more, kvs, h => by
    have hn : (kvs.any fun kv => decide (kv.1 = q.1)) = false := by
      rw [List.any_eq_false]
      intro kv hkv e
      have e' := of_decide_eq_true e
      exact (List.nodup_append.mp h).2.2 kv.1 (List.mem_map.mpr ⟨kv, hkv, rfl⟩) q.1 List.mem_cons_self e'
    show mergeK (putK kvs q.1 q.2) more = _
    have e1 : putK kvs q.1 q.2 = kvs ++ [q] := by
      unfold putK
      rw [hn, if_neg Bool.false_ne_true]
    rw [e1, merge_nodup more (kvs ++ [q]) (by rw [List.map_append, List.append_assoc]; exact h), List.append_assoc] <;> rfl
theorem zip_fst {α β : Type} : ∀ {l : List α} {m : List β}, l.length = m.length → (l.zip m).map (·.1) = l
  | [], _, _ => by simp
  | a :: l, [], h => by simp at h
  | a :: l, b :: m, h => by
    rw [List.zip_cons_cons, List.map_cons, zip_fst (by simpa using h)]
theorem zip_snd {α β : Type} : ∀ {l : List α} {m : List β}, l.length = m.length → (l.zip m).map (·.2) = m
  | [], [], _ => rfl
  | [], b :: m, h => by simp at h
  | a :: l, [], h => by simp at h
  | a :: l, b :: m, h => by
    rw [List.zip_cons_cons, List.map_cons, zip_snd (by simpa using h)]
theorem zip_map1 {α β γ : Type} {f : α → γ} : ∀ {l : List α} {m : List β}, (l.map f).zip m = (l.zip m).map fun p => (f p.1, p.2)
  | [], _ => by simp
  | a :: l, [] => by simp
  | a :: l, b :: m => by rw [List.map_cons, List.zip_cons_cons, List.zip_cons_cons, List.map_cons, zip_map1]
theorem d_disp (h : KDs X T W pos keys values ks α) (nd : ks.Nodup) (hall : keys.all (·.isSome) = true) (hl : keys.length = values.length) (h0 : keys ≠ []) (h15 : keys.length ≤ 15) : KE X T W (.Dict keys values pos) (eDisp ks α) := fun rs => by
  obtain ⟨trs, hp, hq⟩ := h.pd rs
  refine PE.imp (pe_disp hp hall hl h0 h15) fun σ H Q hw a ha => ?_
  obtain ⟨ι, F, st, M, r, rS, p⟩ := hw
  have p2 : Post (kx X T) rs (repD (kx X T)) ι F (fun c d => W c d σ) Q ((α st (M ++ [.dic []])).bind fun ds M1 => match M1[M.length]? with
    | some (.dic []) => .ok (.ref M.length) (M1.set M.length (.dic (ks.zip ds)))
    | _ => .bad) := p
  have r1 : Rel (kx X T) (ι ++ [a]) F rs (upd H a (.dK [])) (M ++ [.dic []]) := r.fresh ha rfl ⟨[], upd_same, rfl, rfl⟩
  refine hq σ _ _ ⟨ι ++ [a], F, st, M ++ [.dic []], r1, rS.le Le.push, Post.stepE (rep2 := repD (kx X T)) (Q := Q) (Post.le Le.push p2) fun vs H' ι' F' M' ds e l' r' rv p' => ?_⟩
  have hdl := h.al _ _ _ _ e
  split at p'
  · rename_i hM
    have hi : (ι ++ [a])[M.length]? = some a := by rw [← r.len]; simp
    obtain ⟨a', ea, hi'⟩ := l' (.ref M.length) (.ref a) ⟨a, rfl, hi⟩
    cases ea
    obtain ⟨_, us, h2, h3, h4⟩ := r'.obj _ _ _ hM hi' rfl
    have eus : us = [] := List.map_eq_nil_iff.mp h3
    subst eus
    have hvl : ks.length = vs.length := by rw [RepL.length rv, hdl, h.kl]
    have hdl' : ks.length = ds.length := by rw [hdl, h.kl]
    refine ⟨h2, ks.zip vs, zip_map1, by rw [List.length_zip, ← hvl, Nat.min_self, h.kl]; exact h15, ?_⟩
    rw [merge_nodup (ks.zip vs) [] (by rw [List.map_nil, List.nil_append, zip_fst hvl]; exact nd), List.nil_append]
    refine p'.fin (r'.write hM hi' rfl ⟨ks.zip vs, upd_same, by rw [zip_fst hvl, zip_fst hdl'], ?_⟩) ⟨a, rfl, hi'⟩
    rw [zip_snd hvl, zip_snd hdl']
    exact rv
  · exact p'.elim
theorem q_Disp {s : DS} {M : Mem} : eDisp ks α s M = (α s (M ++ [.dic []])).bind fun ds M1 => match M1[M.length]? with
  | some (.dic []) => .ok (.ref M.length) (M1.set M.length (.dic (ks.zip ds)))
  | _ => .bad := rfl

/-! ### xs.insert(i, y) -/
def insG : OMt := fun x ds M => match x, ds with
  | .ref i, [.int k, d] => match M[i]? with
    | some (.lst xs) => if xs.length < LINE ∧ 0 ≤ k ∧ k < 2 ^ 62 then some (.non, M.set i (.lst (xs.take k.toNat ++ [d] ++ xs.drop k.toNat))) else none
    | _ => none
  | _, _ => none
theorem m_insert : MtR X "list.insert" (RM (kx X T) rs insG) := fun pins s σ H x xs v us Q I rx rxs h => by
  refine mt_insert pins s σ H x xs v us Q I rx rxs ?_
  obtain ⟨ι, F, M, d, ds, z, M', r, rd, rds, e, q⟩ := h
  unfold insG at e
  split at e
  · rename_i i k y
    obtain ⟨a, rfl, hi⟩ := rd
    obtain ⟨w1, w2, rfl, hw1, hw2⟩ := two_of rds
    cases hw1
    split at e
    · rename_i ys hM
      split at e
      · rename_i hl
        cases e
        obtain ⟨f0, vs, h2, h3⟩ := r.obj i _ a hM hi rfl
        refine ⟨a, vs, k, w2, rfl, rfl, h2, by rw [RepL.length h3, ← line_eq]; exact hl.1, hl.2.1, by omega, ?_⟩
        exact q ι F _ _ Le.refl (r.write hM hi rfl ⟨_, upd_same, ((h3.take _).append (.one hw2)).append (h3.drop _)⟩) rfl
      · cases e
    · cases e
  · cases e
theorem Insert {o a b : Expr} {φ : Sem1 D} {apos : Pos} (ho : KE X T W o φ) (ha : KA X T W [a, b] α) (h1 : isSup o = false := by rfl) (hfew : ((backTo pos (starEach [a, b] X.env)).all (fun x => !x.1) && (backToKw pos (keywordEach [] X.env)).all (fun x => x.1.isSome)
      && decide (([a, b] : List Expr).length + ([] : List Keyword).length + (if ([] : List Keyword).isEmpty then 0 else 1) < 30)) = true := by rfl) (hline : (apos.endLine == pos.line) = true := by rfl) (h2 : [a, b].any isStar = false := by rfl) :
    KE X T W (.Call (.Attribute o "insert" apos) [a, b] [] pos) (eBm isLst insG φ α) := d_bm PySem.F.plainAttrs_list PySem.F.slot_list_insert PySem.F.type_list_insert (fun _ => m_insert) (fun r h e => ty_lst r h e) ho ha h1 hfew hline h2
theorem callee_bad {P : Program} {w : World} {K : PySem.W.Frag} {mg : Str → Option Value} {base : Heap} {T : Tab} {k n : Nat} {ks : List Str} {f : Addr} : Callee P w K mg base T k f n ks (fun _ _ => .bad) :=
  ⟨fun rs A outer s H us ws vs zs Q E hr e0 h1 h2 r1 r2 h => by
    obtain ⟨ι, F, ds, M, r, rd, p⟩ := h
    exact p.elim⟩
end
end LD
namespace LD
open PySem PySem.Spec PyProof.Rows L2
/-- list + list: one that may change -/
def addM : O2 := fun x y M => match lsOf M x, lsOf M y with
  | some a, some b => if a.length + b.length ≤ LINE then some (.ref M.length, M ++ [.lst (a ++ b)]) else none
  | _, _ => none
theorem o_addM {X : Cx} {T : Tab} {rs : List (Addr × HO)} : OpR X (binaryOp .Add) (RO2 (kx X T) rs addM) := OpR.imp op_catS fun x y H Q h => by
  obtain ⟨ι, F, M, d, e, z, M', r, h1, h2, g, q⟩ := h
  unfold addM at g
  split at g
  · rename_i xs ys e1 e2
    split at g
    · rename_i hz
      cases g
      obtain ⟨a, vs, rfl, s1, l1⟩ := lsOf_at r e1 h1
      obtain ⟨b, ws, rfl, s2, l2⟩ := lsOf_at r e2 h2
      refine ⟨a, b, vs, ws, rfl, rfl, s1, s2, by rw [l1.length, l2.length, ← line_eq]; exact hz, fun p hp => ?_⟩
      exact newL_at (mu := true) r (l1.append l2) rfl q p hp
    · cases g
  · cases g
theorem v_addM {x y : D} {a b : List D} {M : Mem} (h1 : lsOf M x = some a) (h2 : lsOf M y = some b) (h : a.length + b.length ≤ LINE) : addM x y M = some (.ref M.length, M ++ [.lst (a ++ b)]) := by
  unfold addM
  rw [h1, h2]
  exact if_pos h
end LD
namespace LD
open PySem PySem.Spec PyProof.Rows L2
def dispK (o : Option DO) (i : Nat) (ks : List Key) (ds : List D) (M : Mem) : R D := match o with
  | some (.dic []) => .ok (.ref i) (M.set i (.dic (ks.zip ds)))
  | _ => .bad
theorem dispK_s {i : Nat} {ks : List Key} {ds : List D} {M : Mem} : dispK (some (.dic [])) i ks ds M = .ok (.ref i) (M.set i (.dic (ks.zip ds))) := rfl
theorem q_DispK {ks : List Key} {α : Sem1 (List D)} {s : DS} {M : Mem} : eDisp ks α s M = bnd (α s (M ++ [.dic []])) (fun ds M1 => dispK M1[M.length]? M.length ks ds M1) .mk := rfl
theorem q_Ins {a : Sem1 D} {α : Sem1 (List D)} {s : DS} {M : Mem} : eBm isLst insG a α s M = bnd (a s M) (fun x M1 => okS (isLst M1 x) (bnd (α s M1) (fun ds M2 => ofO (insG x ds M2)) .mk) .mk) .mk := rfl
theorem v_ins {i : Nat} {k : Int} {d : D} {xs : List D} {M : Mem} (h : M[i]? = some (.lst xs)) (hl : xs.length < LINE) (h0 : 0 ≤ k) (h1 : k < 2 ^ 62) : insG (.ref i) [.int k, d] M = some (.non, M.set i (.lst (xs.take k.toNat ++ [d] ++ xs.drop k.toNat))) := by
  unfold insG
  simp only [h]
  rw [if_pos ⟨hl, h0, h1⟩]
end LD
namespace LD
open PySem PySem.Spec PyProof.Rows L2 SrtO

/-! ### sorted: tuples of ints and bools -/
def lexL : List Int → List Int → Bool
  | [], [] => false
  | [], _ :: _ => true
  | _ :: _, [] => false
  | x :: xs, y :: ys => if x = y then lexL xs ys else decide (x < y)
theorem lexL_asym : ∀ x y : List Int, lexL x y = true → lexL y x = false
  | [], [], h => nomatch h
  | [], _ :: _, _ => rfl
  | _ :: _, [], h => nomatch h
  | x :: xs, y :: ys, h => by
    rw [lexL] at h ⊢
    by_cases e : x = y
    · rw [if_pos e] at h
      rw [if_pos e.symm]
      exact lexL_asym xs ys h
    · rw [if_neg e, decide_eq_true_eq] at h
      rw [if_neg (fun z => e z.symm)]
      exact decide_eq_false (by omega)
theorem lexL_tr : ∀ x y z : List Int, lexL y x = false → lexL z y = false → lexL z x = false
  | [], [], [], _, _ => rfl
  | [], [], _ :: _, _, h => h
  | [], _ :: _, [], h, h2 => by cases h2
  | [], _ :: _, _ :: _, h, h2 => rfl
  | _ :: _, [], [], h, _ => h
  | _ :: _, [], _ :: _, h, _ => by cases h
  | _ :: _, _ :: _, [], _, h => by cases h
  | x :: xs, y :: ys, z :: zs, h1, h2 => by
    rw [lexL] at h1 h2 ⊢
    by_cases e1 : y = x
    · rw [if_pos e1] at h1
      by_cases e2 : z = y
      · rw [if_pos e2] at h2
        rw [if_pos (e2.trans e1)]
        exact lexL_tr xs ys zs h1 h2
      · rw [if_neg e2, decide_eq_false_iff_not] at h2
        rw [if_neg (fun w => e2 (w.trans e1.symm))]
        exact decide_eq_false (by omega)
    · rw [if_neg e1, decide_eq_false_iff_not] at h1
      by_cases e2 : z = y
      · rw [if_neg (fun w => e1 (e2.symm.trans w))]
        exact decide_eq_false (by omega)
      · rw [if_neg e2, decide_eq_false_iff_not] at h2
        rw [if_neg (by omega)]
        exact decide_eq_false (by omega)
theorem swo_key {α : Type} (k : α → List Int) : Swo fun a b => lexL (k a) (k b) := ⟨fun x y h => lexL_asym _ _ h, fun x y z h1 h2 => lexL_tr _ _ _ h1 h2⟩
/-- a sort that keeps equal ones in their order -/
def insT {α : Type} (lt : α → α → Bool) (x : α) : List α → List α
  | [] => [x]
  | y :: r => if lt y x then y :: insT lt x r else x :: y :: r
def isort {α : Type} (lt : α → α → Bool) : List α → List α
  | [] => []
  | x :: r => insT lt x (isort lt r)
section
variable {α β : Type} {lt : α → α → Bool}
theorem insT_perm (x : α) : ∀ l : List α, (insT lt x l).Perm (x :: l)
  | [] => List.Perm.refl _
  | y :: r => by
    unfold insT
    split
    · exact ((insT_perm x r).cons y).trans (List.Perm.swap x y r)
    · exact List.Perm.refl _
theorem isort_perm : ∀ l : List α, (isort lt l).Perm l
  | [] => List.Perm.refl _
  | x :: r => (insT_perm x _).trans ((isort_perm r).cons x)
theorem insT_srtd (O : Swo lt) (x : α) : ∀ l : List α, Srtd lt l → Srtd lt (insT lt x l)
  | [], _ => srtd_one x
  | y :: r, h => by
    have hh := List.pairwise_cons.mp h
    unfold insT
    split
    · rename_i hy
      refine List.pairwise_cons.mpr ⟨fun z hz => ?_, insT_srtd O x r hh.2⟩
      rcases List.mem_cons.mp ((insT_perm x r).mem_iff.mp hz) with rfl | hz
      · exact O.asym _ _ hy
      · exact hh.1 z hz
    · rename_i hy
      have hy' : lt y x = false := by cases e : lt y x with | true => exact absurd e hy | false => rfl
      refine List.pairwise_cons.mpr ⟨fun z hz => ?_, h⟩
      rcases List.mem_cons.mp hz with rfl | hz
      · exact hy'
      · exact O.tr _ _ _ hy' (hh.1 z hz)
theorem isort_srtd (O : Swo lt) : ∀ l : List α, Srtd lt (isort lt l)
  | [] => List.Pairwise.nil
  | x :: r => insT_srtd O x _ (isort_srtd O r)
theorem insT_stb (O : Swo lt) (x : α) : ∀ l : List α, Stb lt (insT lt x l) (x :: l)
  | [] => Stb.refl _
  | y :: r => by
    unfold insT
    split
    · rename_i hy
      have h1 : Stb lt ([y] ++ insT lt x r) ([y] ++ (x :: r)) := (Stb.refl _).app (insT_stb O x r)
      have h2 : Stb lt (([y] ++ [x]) ++ r) (([x] ++ [y]) ++ r) := (Stb.swap O (fun a ha b hb => by rw [List.mem_singleton.mp ha, List.mem_singleton.mp hb]; exact hy)).app (Stb.refl _)
      exact h1.trans h2
    · exact Stb.refl _
theorem isort_stb (O : Swo lt) : ∀ l : List α, Stb lt (isort lt l) l
  | [] => Stb.refl _
  | x :: r => (insT_stb O x _).trans ((Stb.refl [x]).app (isort_stb O r))
theorem insT_map (f : β → α) (x : β) : ∀ l : List β, insT lt (f x) (l.map f) = (insT (fun a b => lt (f a) (f b)) x l).map f
  | [] => rfl
  | y :: r => by
    rw [List.map_cons]
    unfold insT
    split
    · rw [List.map_cons, insT_map f x r]
    · rfl
theorem isort_map (f : β → α) : ∀ l : List β, isort lt (l.map f) = (isort (fun a b => lt (f a) (f b)) l).map f
  | [] => rfl
  | x :: r => by
    show insT lt (f x) (isort lt (r.map f)) = (insT _ x (isort _ r)).map f
    rw [isort_map f r, insT_map]
end
/-- ints and bools -/
def scD : D → Option (Bool × Int)
  | .int i => some (false, i)
  | .bl b => some (true, if b then 1 else 0)
  | _ => none
def tupS (d : D) : Option (List (Bool × Int)) := match d with
  | .tup (.int i :: r) => mapO scD (.int i :: r)
  | _ => none
def keyT (d : D) : List Int := ((tupS d).getD []).map (·.2)
def ltD (a b : D) : Bool := lexL (keyT a) (keyT b)
def sortC : OL := fun ds M => match ds with
  | [x] => match lsOf M x with
    | some xs => match mapO tupS xs with
      | some ks => if ks.all (fun k => decide (k.map (·.1) = ((ks.head?).getD []).map (·.1))) then some (.lst (isort ltD xs), M) else none
      | none => none
    | none => none
  | _ => none
/-- at the level of Python's values -/
def scV (u : Value) (p : Bool × Int) : Prop := (∃ t, u = .int p.2 t ∧ p.1 = false) ∨ (∃ b : Bool, u = .bool b ∧ p = (true, if b then 1 else 0))
def TupV (h : Heap) (u : Value) (k : List (Bool × Int)) : Prop := ∃ a o items n i t r kr, u = .ref a ∧ h.get? a = some o ∧ o.cls = .type "tuple" ∧ o.data = .seq items n ∧ items.toList = .int i t :: r ∧ k = (false, i) :: kr ∧ Paired scV r kr
section
variable {prog : Program} {w : World} {A : Around} {s : Shared}
theorem kat_sc {Q : Bool → Shared → Prop} : ∀ (r r' : List Value) (k k' : List (Bool × Int)) (i : Nat), Paired scV r k → Paired scV r' k' → k.map (·.1) = k'.map (·.1) → Q (lexL (k.map (·.2)) (k'.map (·.2))) s → PySem.W.KatLex prog w A true false Q (r.zip r') (i + 1) s
  | [], _, _, k', i, .nil, h2, hs, q => by
    have e : k' = [] := by simpa using hs.symm
    subst e
    cases h2
    exact PySem.W.kat_nil q
  | u :: r, _, _, _, i, .cons (b := p) (l₂ := k) h1 h1r, h2, hs, q => by
    cases h2 with
    | nil => simp at hs
    | @cons u' p' r' k' h2 h2r =>
      rw [List.map_cons, List.map_cons, List.cons.injEq] at hs
      rw [List.map_cons, List.map_cons, lexL] at q
      obtain ⟨b, x⟩ := p
      obtain ⟨b', x'⟩ := p'
      have hb : b = b' := hs.1
      subst hb
      dsimp only at q
      rw [List.zip_cons_cons]
      have hi : (true && (i + 1 == 0)) = false := rfl
      have go : ∀ (e : Bool), e = decide (x = x') → (x ≠ x' → wpAny (model prog w) A (oneLt' (true && (i + 1 == 0)) u u') Q (fun _ _ => False) s) → PySem.W.KatGo prog w A true false Q u u' (r.zip r') (i + 1) e s := fun e he hlt => by
        refine PySem.W.kat_go (fun e1 => ?_) (fun e1 => ?_)
        · subst he
          have ex := of_decide_eq_true e1
          rw [if_pos ex] at q
          exact PySem.W.kat_yes (kat_sc r r' k k' (i + 1) h1r h2r hs.2 q)
        · subst he
          exact PySem.W.kat_no (hlt (of_decide_eq_false e1))
      rcases h1 with ⟨t, rfl, hf⟩ | ⟨c, rfl, hf⟩
      · rcases h2 with ⟨t', rfl, _⟩ | ⟨c', rfl, hf'⟩
        · refine PySem.W.kat_cons (SeqAt.EqAt.int_int x t x' t' prog w _ _ (go _ (by by_cases e : x = x' <;> simp [e]) fun hx => ?_))
          rw [if_neg hx] at q
          rw [hi]
          exact PySem.W.kat_one _ _ (PyProof.Rows.lt_int q)
        · injection hf' with e1 _
          dsimp only at hf
          rw [hf] at e1
          cases e1
      · rcases h2 with ⟨t', rfl, hf'⟩ | ⟨c', rfl, hf'⟩
        · injection hf with e1 _
          dsimp only at hf'
          rw [hf'] at e1
          cases e1
        · injection hf with _ e1
          injection hf' with _ e2
          refine PySem.W.kat_cons (SeqAt.EqAt.bool_bool c c' prog w _ _ (go _ (by rw [e1, e2]; cases c <;> cases c' <;> rfl) fun hx => ?_))
          rw [if_neg hx, e1, e2] at q
          rw [hi]
          exact PySem.W.kat_one _ _ (PyProof.Rows.lt_bool q)
theorem tups_cmp {vs : List Value} {K : Value → List (Bool × Int)} {sh : List Bool} (hp : ∀ v ∈ vs, TupV s.heap v (K v)) (hs : ∀ v ∈ vs, (K v).map (·.1) = sh) : Cmp prog w A s (tuples' true) (fun p => p.1 ∈ vs) (lt2 fun v u => lexL ((K v).map (·.2)) ((K u).map (·.2))) := by
  intro p q hm hm'
  have hsh := (hs _ hm).trans (hs _ hm').symm
  obtain ⟨a, o, items, n, i, t, r, kr, e, ho, hc, hd, hi, hk, hpr⟩ := hp _ hm
  obtain ⟨a', o', items', n', i', t', r', kr', e', ho', hc', hd', hi', hk', hpr'⟩ := hp _ hm'
  show wpAny (model prog w) A (keyLt' (tuples' true) p.1 q.1) (fun rr s' => s' = s ∧ rr = lexL ((K p.1).map (·.2)) ((K q.1).map (·.2))) (fun _ _ => False) s
  rw [hk, hk'] at hsh ⊢
  rw [List.map_cons, List.map_cons, List.cons.injEq] at hsh
  have hlen : items.size = items'.size := by
    have h1 := congrArg List.length hi
    have h2 := congrArg List.length hi'
    have h3 := congrArg List.length hsh.2
    have l1 : r.length = kr.length := by
      clear hsh hi hk h1 h3
      induction hpr with
      | nil => rfl
      | cons _ _ ih => rw [List.length_cons, List.length_cons, ih]
    have l2 : r'.length = kr'.length := by
      clear hsh hi' hk' h2 h3 l1
      induction hpr' with
      | nil => rfl
      | cons _ _ ih => rw [List.length_cons, List.length_cons, ih]
    rw [Array.length_toList, List.length_cons] at h1 h2
    rw [List.length_map, List.length_map] at h3
    omega
  rw [e, e']
  refine PySem.W.kat_lt ho hd ho' hd' ?_
  rw [hi, hi', show decide (items.size < items'.size) = false by rw [hlen]; exact decide_eq_false (Nat.lt_irrefl _), List.zip_cons_cons]
  refine PySem.W.kat_cons (SeqAt.EqAt.int_int i t i' t' prog w _ _ ?_)
  refine PySem.W.kat_go (fun e1 => ?_) (fun e1 => ?_)
  · have ei : i = i' := by simpa using e1
    refine PySem.W.kat_yes (kat_sc r r' kr kr' 0 hpr hpr' hsh.2 ⟨rfl, ?_⟩)
    rw [List.map_cons, List.map_cons, lexL, if_pos ei]
  · have ei : ¬ i = i' := by simpa using e1
    refine PySem.W.kat_no (oneLt_int ⟨rfl, ?_⟩)
    rw [List.map_cons, List.map_cons, lexL, if_neg ei]
theorem TupV.keeps {h h' : Heap} {u : Value} {k : List (Bool × Int)} (x : TupV h u k) (kk : ∀ b o, h.get? b = some o → o.cls = .type "tuple" → h'.get? b = some o) : TupV h' u k := by
  obtain ⟨a, o, items, n, i, t, r, kr, e, ho, hc, hd, hi, hk, hpr⟩ := x
  exact ⟨a, o, items, n, i, t, r, kr, e, kk _ _ ho hc, hc, hd, hi, hk, hpr⟩
theorem tups_firsts {h : Heap} {K : Value → List (Bool × Int)} : ∀ {vs : List Value}, (∀ v ∈ vs, TupV h v (K v)) → ∃ fs : List Value, PySem.W.KatTups h vs fs ∧ fs.length = vs.length ∧ ∀ f ∈ fs, ∃ x t, f = Value.int x t
  | [], _ => ⟨[], PySem.W.KatTups.nil, rfl, fun _ hm => by simp at hm⟩
  | v :: vs, hp => by
    obtain ⟨fs, h1, h2, h3⟩ := tups_firsts (vs := vs) fun v' hm => hp v' (List.mem_cons_of_mem _ hm)
    obtain ⟨a, o, items, n, i, t, r, kr, e, ho, hc, hd, hi, hk, hpr⟩ := hp v (List.mem_cons_self ..)
    subst e
    refine ⟨.int i t :: fs, PySem.W.KatTups.cons ho hc hd (by rw [← Array.getElem?_toList, hi] <;> rfl) h1, by rw [List.length_cons, List.length_cons, h2], fun f hm => ?_⟩
    rcases List.mem_cons.mp hm with rfl | hm
    · exact ⟨i, t, rfl⟩
    · exact h3 f hm
theorem tups_sortable {a : Addr} {vs : List Value} {K : Value → List (Bool × Int)} {sh : List Bool} (h0 : 0 < vs.length) (hp : ∀ v ∈ vs, TupV s.heap v (K v)) (hs : ∀ v ∈ vs, (K v).map (·.1) = sh) (ha : ∀ o, s.heap.get? a = some o → o.cls ≠ .type "tuple") :
    SortableO prog w A s a vs fun v u => lexL ((K v).map (·.2)) ((K u).map (·.2)) := by
  intro h' keep
  have hp' : ∀ v ∈ vs, TupV h' v (K v) := fun v hm => (hp v hm).keeps fun b o e c => keep b o (fun z => by subst z; exact ha o e c) e
  obtain ⟨fs, h1, h2, h3⟩ := tups_firsts hp'
  refine ⟨tuples' true, fun Q E hq => ?_, tups_cmp hp' hs⟩
  refine PySem.W.kat_kind (T := .type "int") h1 (by omega) (fun f hm => ?_) (by rfl) ?_
  · obtain ⟨x, t, rfl⟩ := h3 f hm
    exact PySem.W.Looks.now
  · have e : (Value.type "int" != Value.type "tuple") = true := by first | decide +kernel | rfl | decide
    rw [e]
    exact hq
end
end LD
namespace LD
open PySem PySem.Spec PyProof.Rows L2 SrtO
theorem insT_congr {α : Type} {f g : α → α → Bool} {x : α} : ∀ {l : List α}, (∀ y ∈ l, f y x = g y x) → insT f x l = insT g x l
  | [], _ => rfl
  | y :: r, h => by
    unfold insT
    rw [h y List.mem_cons_self, insT_congr fun z hz => h z (List.mem_cons_of_mem _ hz)]
theorem isort_congr {α : Type} {f g : α → α → Bool} : ∀ {l : List α}, (∀ x ∈ l, ∀ y ∈ l, f x y = g x y) → isort f l = isort g l
  | [], _ => rfl
  | x :: r, h => by
    show insT f x (isort f r) = insT g x (isort g r)
    rw [isort_congr fun a ha b hb => h a (List.mem_cons_of_mem _ ha) b (List.mem_cons_of_mem _ hb)]
    exact insT_congr fun y hy => h y (List.mem_cons_of_mem _ ((isort_perm r).mem_iff.mp hy)) x List.mem_cons_self
def scK : Value → Bool × Int
  | .int i _ => (false, i)
  | .bool b => (true, if b then 1 else 0)
  | _ => (false, 0)
def kvH (h : Heap) (u : Value) : List (Bool × Int) := match u with
  | .ref a => match h.get? a with
    | some o => match o.data with
      | .seq its _ => its.toList.map scK
      | _ => []
    | none => []
  | _ => []
theorem sc_map : ∀ {r : List Value} {k : List (Bool × Int)}, Paired scV r k → r.map scK = k
  | _, _, .nil => rfl
  | _, _, .cons h t => by
    rw [List.map_cons, sc_map t]
    congr 1
    rcases h with ⟨t, rfl, hf⟩ | ⟨b, rfl, hf⟩
    · exact Prod.ext hf.symm rfl
    · exact hf.symm
theorem TupV.key {h : Heap} {u : Value} {k : List (Bool × Int)} (x : TupV h u k) : kvH h u = k := by
  obtain ⟨a, o, items, n, i, t, r, kr, rfl, ho, hc, hd, hi, hk, hpr⟩ := x
  simp only [kvH, ho, hd, hi, hk, List.map_cons, scK, sc_map hpr]
section
variable {X : Cx} {T : Tab} {ι : List Addr} {F H : Hp} {M : Mem} {rs : List (Addr × HO)} {pins : List (Addr × Obj)} {σ : L2.St} {s : Shared}
theorem zipP {K : KX} : ∀ {ds : List D} {vs : List V} {us : List Value}, RepL K ι F ds vs → Vals vs us → ∃ P : List (D × V × Value), P.map (·.1) = ds ∧ P.map (·.2.1) = vs ∧ P.map (·.2.2) = us ∧ ∀ p ∈ P, Rep K ι F p.1 p.2.1 ∧ RelV p.2.1 p.2.2
  | [], vs, us, h, r => by
    have e : vs = [] := h
    subst e
    cases r
    exact ⟨[], rfl, rfl, rfl, fun _ h => nomatch h⟩
  | d :: ds, vs, us, h, r => by
    obtain ⟨v, vr, rfl, h1, h2⟩ := h
    cases r with
    | cons r1 r2 =>
      obtain ⟨P, e1, e2, e3, hP⟩ := zipP h2 r2
      refine ⟨(d, v, _) :: P, by rw [List.map_cons, e1], by rw [List.map_cons, e2], by rw [List.map_cons, e3], fun p hp => ?_⟩
      rcases List.mem_cons.mp hp with rfl | hp
      · exact ⟨h1, r1⟩
      · exact hP p hp
theorem sc_rep {K : KX} : ∀ {ds : List D} {vs : List V} {us : List Value} {k : List (Bool × Int)}, mapO scD ds = some k → RepL K ι F ds vs → Vals vs us → Paired scV us k
  | [], vs, us, k, e, h, r => by
    cases e
    have e : vs = [] := h
    subst e
    cases r
    exact .nil
  | d :: ds, vs, us, k, e, h, r => by
    obtain ⟨b, e1, e2⟩ := Option.bind_eq_some_iff.mp e
    obtain ⟨bs, e3, rfl⟩ := Option.map_eq_some_iff.mp e2
    obtain ⟨v, vr, rfl, h1, h2⟩ := h
    cases r with
    | cons r1 r2 =>
      refine .cons ?_ (sc_rep e3 h2 r2)
      cases d with
      | int i =>
        cases e1
        cases h1
        obtain ⟨t, rfl⟩ := r1
        exact .inl ⟨t, rfl, rfl⟩
      | bl c =>
        cases e1
        cases h1
        cases r1
        exact .inr ⟨c, rfl, rfl⟩
      | _ => cases e1
theorem tup_rep (I : Inv X pins σ H s) (r : Rel (kx X T) ι F rs H M) {d : D} {v : V} {u : Value} {k : List (Bool × Int)} (e : tupS d = some k) (rd : Rep (kx X T) ι F d v) (rv : RelV v u) : TupV s.heap u k := by
  unfold tupS at e
  split at e
  · rename_i i xs
    obtain ⟨a, ws, rfl, s1, l1⟩ := rd
    obtain rfl : u = Value.ref a := rv
    obtain ⟨its, rvs, ⟨o, ho, hc, m, hd⟩, _⟩ := I.tuple (sqt_sub r s1)
    have hp := sc_rep e l1 rvs
    obtain ⟨b, e1, e2⟩ := Option.bind_eq_some_iff.mp e
    obtain ⟨bs, e3, rfl⟩ := Option.map_eq_some_iff.mp e2
    cases e1
    cases hp with
    | cons h1 h2 =>
      rcases h1 with ⟨t, rfl, _⟩ | ⟨c, _, hf⟩
      · exact ⟨a, o, _, m, i, t, _, bs, rfl, ho, hc, hd, by simp, rfl, h2⟩
      · cases hf
  · cases e
theorem mapO_mem {α β : Type} {f : α → Option β} : ∀ {xs : List α} {ys : List β} {x : α}, mapO f xs = some ys → x ∈ xs → ∃ y ∈ ys, f x = some y
  | [], _, _, _, h => nomatch h
  | a :: r, ys, x, e, h => by
    obtain ⟨b, e1, e2⟩ := Option.bind_eq_some_iff.mp e
    obtain ⟨bs, e3, rfl⟩ := Option.map_eq_some_iff.mp e2
    rcases List.mem_cons.mp h with rfl | h
    · exact ⟨b, List.mem_cons_self, e1⟩
    · obtain ⟨y, hy, e4⟩ := mapO_mem e3 h
      exact ⟨y, List.mem_cons_of_mem _ hy, e4⟩
theorem vals_P : ∀ {P : List (D × V × Value)}, (∀ p ∈ P, RelV p.2.1 p.2.2) → Vals (P.map (·.2.1)) (P.map (·.2.2))
  | [], _ => .nil
  | p :: P, h => .cons (h p List.mem_cons_self) (vals_P fun q hq => h q (List.mem_cons_of_mem _ hq))
theorem rep_P {K : KX} : ∀ {P : List (D × V × Value)}, (∀ p ∈ P, Rep K ι F p.1 p.2.1) → RepL K ι F (P.map (·.1)) (P.map (·.2.1))
  | [], _ => rfl
  | p :: P, h => ⟨p.2.1, _, rfl, h p List.mem_cons_self, rep_P fun q hq => h q (List.mem_cons_of_mem _ hq)⟩
theorem c_sorted : CallR X (.builtin "sorted") (RC (kx X T) rs sortC) := by
  intro pins s σ H vs us Q I rv h
  obtain ⟨ι, F, M, ds, z, M', r, rd, e, q⟩ := h
  unfold sortC at e
  split at e
  · rename_i x
    split at e
    · rename_i xs hxs
      split at e
      · rename_i ks hks
        split at e
        · rename_i hsh
          cases e
          obtain ⟨v, rfl, h1⟩ := one_of rd
          obtain ⟨u, rfl, ru⟩ := vals1 rv
          obtain ⟨a, ws, rfl, s1, l1⟩ := lsOf_at r hxs h1
          obtain rfl : u = Value.ref a := ru
          obtain ⟨its, rvs, hl, hz⟩ := I.list s1
          obtain ⟨P, p1, p2, p3, hP⟩ := zipP l1 rvs
          have hT : ∀ p ∈ P, ∃ k, k ∈ ks ∧ tupS p.1 = some k ∧ TupV s.heap p.2.2 k := fun p hp => by
            obtain ⟨k, hk, e⟩ := mapO_mem hks (by rw [← p1]; exact List.mem_map.mpr ⟨p, hp, rfl⟩)
            exact ⟨k, hk, e, tup_rep I r e (hP p hp).1 (hP p hp).2⟩
          have hV : ∀ v ∈ its, TupV s.heap v (kvH s.heap v) ∧ (kvH s.heap v).map (·.1) = ((ks.head?).getD []).map (·.1) := fun v hv => by
            rw [← p3] at hv
            obtain ⟨p, hp, rfl⟩ := List.mem_map.mp hv
            obtain ⟨k, hk, _, ht⟩ := hT p hp
            rw [ht.key]
            exact ⟨ht, of_decide_eq_true (List.all_eq_true.mp hsh k hk)⟩
          have O := swo_key (fun v : Value => (kvH s.heap v).map (·.2))
          refine sorted_ord O hl.isList (by rw [← rvs.length]; exact hz) (fun h2 h₁ a ha kk => ?_) fun out hs hb => ?_
          · refine tups_sortable (s := { s with heap := h₁ }) (by omega) (fun v hm => (hV v hm).1.keeps fun b o e _ => (kk b o e).2) (fun v hm => (hV v hm).2) fun o e => ?_
            have e' : some o = some (seqObj "list" its.toArray 0) := e.symm.trans ha
            cases e'
            intro c
            exact absurd (Value.type.inj c) (by decide)
          · have eout : out = (isort (fun p q : D × V × Value => lexL ((kvH s.heap p.2.2).map (·.2)) ((kvH s.heap q.2.2).map (·.2))) P).map (·.2.2) := by
              have O2 : Swo (fun p q : D × V × Value => lexL ((kvH s.heap p.2.2).map (·.2)) ((kvH s.heap q.2.2).map (·.2))) := swo_key (fun p : D × V × Value => (kvH s.heap p.2.2).map (·.2))
              refine stb_uniq O hs (List.pairwise_map.mpr (isort_srtd O2 P)) ?_
              have h3 := Stb.map O (fun p : D × V × Value => p.2.2) (isort_stb O2 P)
              rw [p3] at h3
              exact hb.trans ⟨h3.perm.symm, fun x => (h3.cls x).symm⟩
            have hsame : isort ltD xs = (isort (fun p q : D × V × Value => lexL ((kvH s.heap p.2.2).map (·.2)) ((kvH s.heap q.2.2).map (·.2))) P).map (·.1) := by
              rw [← p1, isort_map]
              congr 1
              refine isort_congr fun p hp q hq => ?_
              obtain ⟨k, _, e1, t1⟩ := hT p hp
              obtain ⟨k', _, e2, t2⟩ := hT q hq
              rw [t1.key, t2.key]
              unfold ltD keyT
              rw [e1, e2] <;> rfl
            generalize hP' : isort (fun p q : D × V × Value => lexL ((kvH s.heap p.2.2).map (·.2)) ((kvH s.heap q.2.2).map (·.2))) P = P' at eout hsame
            have hm : ∀ p ∈ P', p ∈ P := fun p hp => by rw [← hP'] at hp; exact (isort_perm P).mem_iff.mp hp
            have kp := fun b o (e : s.heap.get? b = some o) => sortedAll_old (vs := its) (out := out.toArray) e
            obtain ⟨n, hn⟩ := sortedAll_at s.heap its out.toArray
            subst eout
            have hlen : (P'.map (·.2.1)).length ≤ sizeLine := by
              have : P'.length = P.length := by rw [← hP']; exact (isort_perm P).length_eq
              have h4 := congrArg List.length p2
              rw [List.length_map] at h4 ⊢
              omega
            have hnone := I.hok.fresh (Nat.le_succ s.heap.objs.size)
            refine ⟨.ref _, _, I.laid (t' := s.toks) (o := .lst (P'.map (·.2.1))) kp (Nat.le_succ _) ⟨hlen, _, n, vals_P fun p hp => (hP p (hm p hp)).2, hn⟩, rfl, ?_⟩
            rw [hsame] at q
            exact q ι (upd F _ (.lst (P'.map (·.2.1)))) _ _ (Le.new (r.free hnone)) (r.frozen hnone) ⟨_, _, rfl, .inl (.inl upd_same), RepL.le (Le.new (r.free hnone)) (rep_P fun p hp => (hP p (hm p hp)).1)⟩
        · cases e
      · cases e
    · cases e
  · cases e
end
end LD
namespace LD
open PySem PySem.Spec PyProof.Rows L2

/-! ### one keyword-only parameter with a default, the last one, not written at the call -/
/-- the def at f as the text has it; its keyword-only defaults stand in the dict at D -/
def FnAtD (K : PySem.W.Frag) (x qual : Str) (st : Stmt) (f D : Addr) : Prop := ∃ (oc : Value) (od : Option Addr) (doc pm : Value) (an : Option Addr) (cdv ct : Value) (osl : Array (Option Value)),
  K.lookup f = some ⟨oc, od, .func (PySem.W.fnOf x qual (defArgs st) (defBody st) (defScope st) .none (.ref D) doc pm an cdv ct), osl⟩ ∧ PySem.W.codeIn K cdv qual = true ∧ PySem.W.keepIn K (.ref f) = true
theorem fnAtD_mk {K : PySem.W.Frag} {x qual : Str} {st : Stmt} {f D : Addr} {oc : Value} {od : Option Addr} {doc pm : Value} {an : Option Addr} {cdv ct : Value} {osl : Array (Option Value)}
    (l : K.lookup f = some ⟨oc, od, .func (PySem.W.fnOf x qual (defArgs st) (defBody st) (defScope st) .none (.ref D) doc pm an cdv ct), osl⟩) (c : PySem.W.codeIn K cdv qual = true) (k : PySem.W.keepIn K (.ref f) = true) : FnAtD K x qual st f D := ⟨_, _, _, _, _, _, _, _, l, c, k⟩
def withD (φ : FnD) (d : D) : FnD := fun ds M => φ (ds ++ [d]) M
theorem callee_kw1 {P : Program} {w : World} {K : PySem.W.Frag} {mg : Str → Option Value} {base : Heap} {T : Tab} {f D : Addr} {fd : FuncData} {ps ks : List Str} {k n : Nat} {φ : FnD} {nm : Str} {d : LD.D} {v : V} {u : Value} (F : FnX P w K mg base T k f fd ps φ)
    (hn : PySem.W.nsIn K D nm = some (some u)) (rv : RelV v u) (hr : ∀ ι F, Rep ⟨K, T⟩ ι F d v)
    (hb : ∀ (us ws : List Value), us.length = n → ws.length = ks.length → KwChain D [(nm, u)] (bindArgs fd ⟨us, ks.zip ws⟩) (ps.zip (us ++ ws ++ [u]))) : Callee P w K mg base T k f n ks (withD φ d) := ⟨fun rs A outer s H us ws vs zs Q E hr0 e0 h1 h2 r1 r2 h => by
  have KX : K.In s.heap := e0.mod.kin.keeps fun b o e => (e0.bs b o e).1
  refine F.run rs A outer s H _ (us ++ ws ++ [u]) (vs ++ zs ++ [v]) Q E hr0 e0 (BindsTo.of_looks fun M => KwChain.looks KX (fun q hq => ?_) (hb us ws h1 h2)) ((r1.append r2).append (.cons rv .nil)) ?_
  · rw [List.mem_singleton.mp hq]
    exact hn
  · obtain ⟨ι, F', ds, M, r, rd, p⟩ := h
    exact ⟨ι, F', ds ++ [d], M, r, rd.append (.one (hr ι F')), p⟩⟩
end LD
namespace LD
open PySem PySem.Spec PyProof.Rows L2

/-! ### what sorted gives, by a key -/
def byK {α : Type} (k : α → List Int) (l : List α) : List α := isort (fun a b => lexL (k a) (k b)) l
theorem byK_perm {α : Type} {k : α → List Int} {l : List α} : (byK k l).Perm l := isort_perm l
theorem byK_srtd {α : Type} {k : α → List Int} {l : List α} : (byK k l).Pairwise fun a b => lexL (k b) (k a) = false := isort_srtd (swo_key k) l
theorem keyT_of {d : D} {ks : List (Bool × Int)} (h : tupS d = some ks) : keyT d = ks.map (·.2) := by
  unfold keyT
  rw [h] <;> rfl
theorem v_sort {α : Type} {e : α → D} {f : α → List (Bool × Int)} {sh : List Bool} {as : List α} {x : D} {M : Mem} (hl : lsOf M x = some (as.map e)) (h : ∀ a ∈ as, tupS (e a) = some (f a)) (hs : ∀ a ∈ as, (f a).map (·.1) = sh) :
    sortC [x] M = some (.lst ((byK (fun a => (f a).map (·.2)) as).map e), M) := by
  have e1 : mapO tupS (as.map e) = some (as.map f) := by
    clear hl hs
    induction as with
    | nil => rfl
    | cons a as ih =>
      show ((tupS (e a)).bind fun b => (mapO tupS (as.map e)).map fun bs => b :: bs) = _
      rw [h a List.mem_cons_self, ih fun b hb => h b (List.mem_cons_of_mem _ hb)] <;> rfl
  have e2 : (as.map f).all (fun k => decide (k.map (·.1) = (((as.map f).head?).getD []).map (·.1))) = true := List.all_eq_true.mpr fun k hk => by
    obtain ⟨a, ha, rfl⟩ := List.mem_map.mp hk
    refine decide_eq_true ?_
    cases as with
    | nil => nomatch ha
    | cons b as =>
      show _ = (f b).map (·.1)
      rw [hs a ha, hs b List.mem_cons_self]
  have e3 : isort ltD (as.map e) = (byK (fun a => (f a).map (·.2)) as).map e := by
    rw [isort_map]
    unfold byK
    congr 1
    exact isort_congr fun a ha b hb => by
      unfold ltD
      rw [keyT_of (h a ha), keyT_of (h b hb)]
  show (match lsOf M x with | some xs => _ | none => none) = _
  rw [hl]
  show (match mapO tupS (as.map e) with | some ks => _ | none => none) = _
  rw [e1]
  show (if _ then some (D.lst (isort ltD (as.map e)), M) else none) = _
  rw [if_pos e2, e3]
theorem rng' (n : Nat) : rangeL 0 n 1 = (List.range' 0 n).map fun i : Nat => D.int (i : Int) := by
  rw [rangeL_map, List.range_eq_range', List.map_map] <;> rfl
end LD
namespace LD
open PySem PySem.Spec PyProof.Rows L2

/-! ### == of lists, tuples and dicts that hold one another -/
def allO (f : D → D → Option Bool) : List D → List D → Option Bool
  | x :: xs, y :: ys => (f x y).bind fun a => (allO f xs ys).map fun b => a && b
  | [], [] => some true
  | _, _ => none
def tupO : D → Option (List D)
  | .tup xs => some xs
  | _ => none
def eqG : Nat → Mem → D → D → Option Bool
  | 0, _, _, _ => none
  | n + 1, M, x, y => if isF x && isF y then some (eqF x y) else
    match tupO x, tupO y with
    | some xs, some ys => allO (eqG n M) xs ys
    | _, _ => match lsOf M x, lsOf M y with
      | some xs, some ys => if xs.length = ys.length then allO (eqG n M) xs ys else some false
      | _, _ => match dcOf M x, dcOf M y with
        | some ks, some ls => if ks.length = 0 ∧ ls.length = 0 then some true else none
        | _, _ => none
section
variable {X : Cx} {T : Tab} {ι : List Addr} {F H : Hp} {M : Mem} {rs : List (Addr × HO)} {pins : List (Addr × Obj)} {σ : L2.St} {s : Shared}
theorem tup_at (r : Rel (kx X T) ι F rs H M) {d : D} {v : V} {xs : List D} (e : tupO d = some xs) (h : Rep (kx X T) ι F d v) : ∃ a vs, v = .ref a ∧ SqT X.K H a vs ∧ RepL (kx X T) ι F xs vs := by
  cases d <;> try cases e
  obtain ⟨a, vs, e1, h1, h2⟩ := h
  exact ⟨a, vs, e1, sqt_sub r h1, h2⟩
theorem rd_inj {a : Addr} {u w : List (Key × V)} (h : Rd H a (.dK u)) (h' : Rd H a (.dK w)) : u = w := by
  rcases h with h | ⟨o, h⟩ <;> rcases h' with h' | ⟨o', h'⟩ <;> rw [h] at h' <;> cases h' <;> rfl
theorem eqF_self {d e : D} {v : V} (hd : isF d = true) (he : isF e = true) (h : Rep (kx X T) ι F d v) (h' : Rep (kx X T) ι F e v) : eqF d e = true := by
  cases d <;> first
    | (cases hd; done)
    | (cases e <;> first
      | (cases he; done)
      | (cases h; cases h'; simp [eqF]; done)
      | (cases h; cases h'; rfl)
      | (cases h; cases h'; done)
      | (cases h; cases h'))
theorem allO_same {f : D → D → Option Bool} (hf : ∀ x y v b, f x y = some b → Rep (kx X T) ι F x v → Rep (kx X T) ι F y v → b = true) : ∀ {xs ys : List D} {vs : List V} {k : Bool}, allO f xs ys = some k → RepL (kx X T) ι F xs vs → RepL (kx X T) ι F ys vs → k = true
  | [], [], _, _, e, _, _ => by cases e; rfl
  | [], _ :: _, _, _, e, _, _ => by cases e
  | _ :: _, [], _, _, e, _, _ => by cases e
  | x :: xs, y :: ys, vs, k, e, h, h' => by
    obtain ⟨v, r, rfl, h1, h2⟩ := h
    obtain ⟨v', r', e1, h1', h2'⟩ := h'
    cases e1
    obtain ⟨a, ea, e⟩ := Option.bind_eq_some_iff.mp e
    obtain ⟨b, eb, e⟩ := Option.map_eq_some_iff.mp e
    rw [← e, hf _ _ _ _ ea h1 h1', allO_same hf eb h2 h2'] <;> rfl
theorem eqG_same (I : Inv X pins σ H s) (r : Rel (kx X T) ι F rs H M) : ∀ (n : Nat) (x y : D) (v : V) (k : Bool), eqG n M x y = some k → Rep (kx X T) ι F x v → Rep (kx X T) ι F y v → k = true
  | 0, _, _, _, _, e, _, _ => by cases e
  | n + 1, x, y, v, k, e, h, h' => by
    have ih := eqG_same I r n
    unfold eqG at e
    split at e
    · rename_i hf
      rw [Bool.and_eq_true] at hf
      cases e
      exact eqF_self hf.1 hf.2 h h'
    · split at e
      · rename_i xs ys e1 e2
        obtain ⟨a, vs, rfl, s1, l1⟩ := tup_at r e1 h
        obtain ⟨a', vs', e3, s2, l2⟩ := tup_at r e2 h'
        cases e3
        have := I.tuple_inj s1 s2
        subst this
        exact allO_same ih e l1 l2
      · split at e
        · rename_i xs ys e1 e2
          obtain ⟨a, vs, rfl, s1, l1⟩ := lsOf_at r e1 h
          obtain ⟨a', vs', e3, s2, l2⟩ := lsOf_at r e2 h'
          cases e3
          have := I.list_inj s1 s2
          subst this
          have hl : xs.length = ys.length := by rw [← RepL.length l1, RepL.length l2]
          rw [if_pos hl] at e
          exact allO_same ih e l1 l2
        · split at e
          · split at e
            · cases e; rfl
            · cases e
          · cases e
def pyA : D → PyData
  | .bl b => .bool b
  | .int i => .int i
  | .str x => .str x
  | _ => .none
theorem flat_val {d : D} {v : V} {u : Value} (hf : isF d = true) (h : Rep (kx X T) ι F d v) (rv : RelV v u) : PyProof.V.Flat u (pyA d) := by
  cases d <;> first
    | (cases hf; done)
    | (cases h; obtain ⟨t, rfl⟩ := rv; exact PyProof.V.Flat.int _ t)
    | (cases h; obtain ⟨t, rfl⟩ := rv; exact PyProof.V.Flat.str _ t)
    | (cases h; cases rv; exact PyProof.V.Flat.bool _)
    | (cases h; cases rv; exact PyProof.V.Flat.none)
theorem eqv_flat {d e : D} (hd : isF d = true) (he : isF e = true) : PyData.eqv (pyA d) (pyA e) = eqF d e := by
  cases d <;> first
    | (cases hd; done)
    | (cases e <;> first
      | (cases he; done)
      | rfl)
theorem allO_at {f : D → D → Option Bool} {P : Value → Value → Bool → Prop} (hf : ∀ x y v w u u' b, f x y = some b → Rep (kx X T) ι F x v → Rep (kx X T) ι F y w → RelV v u → RelV w u' → P u u' b) :
    ∀ {xs ys : List D} {vs ws : List V} {us us' : List Value} {k : Bool}, allO f xs ys = some k → RepL (kx X T) ι F xs vs → RepL (kx X T) ι F ys ws → Vals vs us → Vals ws us' →
    us.length = us'.length ∧ ∃ es : List Bool, es.length = us.length ∧ es.all id = k ∧ ∀ j (h1 : j < us.length) (h2 : j < us'.length), P us[j] us'[j] (es.getD j true)
  | [], [], _, _, us, us', _, e, h, h', r, r' => by
    cases e
    have h : _ = [] := h
    have h' : _ = [] := h'
    subst h; subst h'
    cases r; cases r'
    exact ⟨rfl, [], rfl, rfl, fun j h1 => absurd h1 (Nat.not_lt_zero _)⟩
  | [], _ :: _, _, _, _, _, _, e, _, _, _, _ => by cases e
  | _ :: _, [], _, _, _, _, _, e, _, _, _, _ => by cases e
  | x :: xs, y :: ys, vs, ws, us, us', k, e, h, h', r, r' => by
    obtain ⟨v, vr, rfl, h1, h2⟩ := h
    obtain ⟨w, wr, rfl, h3, h4⟩ := h'
    cases r with
    | cons ra rb =>
      cases r' with
      | cons rc rd =>
        obtain ⟨a, ea, e⟩ := Option.bind_eq_some_iff.mp e
        obtain ⟨b, eb, e⟩ := Option.map_eq_some_iff.mp e
        obtain ⟨hl, es, q1, q2, q3⟩ := allO_at hf eb h2 h4 rb rd
        refine ⟨by rw [List.length_cons, List.length_cons, hl], a :: es, by rw [List.length_cons, List.length_cons, q1], by rw [List.all_cons, q2]; exact e, fun j h1' h2' => ?_⟩
        cases j with
        | zero => exact hf _ _ _ _ _ _ _ ea h1 h3 ra rc
        | succ j => exact q3 j (Nat.lt_of_succ_lt_succ h1') (Nat.lt_of_succ_lt_succ h2')
theorem all_getD (es : List Bool) : ((List.range es.length).all fun j => es.getD j true) = es.all id := by
  rw [Bool.eq_iff_iff, List.all_eq_true, List.all_eq_true]
  constructor
  · intro h b hb
    obtain ⟨i, hi, rfl⟩ := List.mem_iff_getElem.mp hb
    have := h i (List.mem_range.mpr hi)
    rw [List.getD_eq_getElem?_getD, List.getElem?_eq_getElem hi] at this
    exact this
  · intro h i hi
    have hi := List.mem_range.mp hi
    rw [List.getD_eq_getElem?_getD, List.getElem?_eq_getElem hi]
    exact h _ (List.getElem_mem hi)
theorem dictOf_nil {P P' : Program} {w w' : World} {h : Heap} {a : Addr} (d : h.DictOf (mixKind P w) a []) : h.DictOf (mixKind P' w') a [] := by
  obtain ⟨o, es, ep, h1, h2, h3, h4, h5, h6⟩ := d
  have e : es.toList = [] := by
    generalize es.toList = l at h5
    cases h5
    rfl
  have e2 : es = #[] := by simpa using congrArg List.toArray e
  subst e2
  exact ⟨o, #[], ep, h1, h2, h3, fun x hx => absurd hx (by simp), .nil, List.Pairwise.nil⟩
theorem eqG_at (I : Inv X pins σ H s) (r : Rel (kx X T) ι F rs H M) : ∀ (n : Nat) (A : Around), A.units + n < cLine → ∀ (x y : D) (v w : V) (u u' : Value) (k : Bool), eqG n M x y = some k → Rep (kx X T) ι F x v → Rep (kx X T) ι F y w → RelV v u → RelV w u' → SeqAt.EqAt A s u u' k
  | 0, _, _, _, _, _, _, _, _, _, e, _, _, _, _ => by cases e
  | n + 1, A, hu, x, y, v, w, u, u', k, e0, h, h', rv, rw' => by
    have hin : A.in1.units + n < cLine := by
      have : A.in1.units ≤ A.units + 1 := by simp [Around.in1]
      omega
    have ih := eqG_at I r n A.in1 hin
    have e := e0
    unfold eqG at e
    split at e
    · rename_i hf
      rw [Bool.and_eq_true] at hf
      cases e
      rw [← eqv_flat hf.1 hf.2]
      exact PySem.W.keq_flat (flat_val hf.1 h rv) (flat_val hf.2 h' rw')
    · have same : ∀ {a : Addr}, v = .ref a → w = .ref a → SeqAt.EqAt A s u u' k := fun {a} e1 e2 => by
        subst e1; subst e2
        cases rv; cases rw'
        rw [eqG_same I r (n + 1) x y (.ref a) k e0 h h']
        exact SeqAt.EqAt.same _
      split at e
      · rename_i xs ys e1 e2
        obtain ⟨a, vs, rfl, s1, l1⟩ := tup_at r e1 h
        obtain ⟨b, ws, rfl, s2, l2⟩ := tup_at r e2 h'
        by_cases hab : a = b
        · exact same rfl (by rw [hab])
        · cases rv; cases rw'
          obtain ⟨us, r1, ⟨o1, p1⟩, _⟩ := I.tuple s1
          obtain ⟨us', r2, ⟨o2, p2⟩, _⟩ := I.tuple s2
          obtain ⟨hl, es, q1, q2, q3⟩ := allO_at (P := fun u u' b => SeqAt.EqAt A.in1 s u u' b) ih e l1 l2 r1 r2
          have z := SeqAt.RcAt.tuples (A := A) (s := s) (l := a) (b := b) (items := us.toArray) (items2 := us'.toArray) (e := fun j => es.getD j true) ⟨o1, p1⟩ ⟨o2, p2⟩ (by omega) (fun j h1 h2 => q3 j (by simpa using h1) (by simpa using h2))
          have e3 : ((List.range (min us.toArray.size us'.toArray.size)).all (fun j => es.getD j true) && us.toArray.size == us'.toArray.size) = k := by
            rw [List.size_toArray, List.size_toArray, ← hl, Nat.min_self, ← q1, all_getD, q2, beq_self_eq_true, Bool.and_true]
          rw [e3] at z
          exact SeqAt.EqAt.of_refs hab z
      · split at e
        · rename_i xs ys e1 e2
          obtain ⟨a, vs, rfl, s1, l1⟩ := lsOf_at r e1 h
          obtain ⟨b, ws, rfl, s2, l2⟩ := lsOf_at r e2 h'
          by_cases hab : a = b
          · exact same rfl (by rw [hab])
          · cases rv; cases rw'
            obtain ⟨us, r1, p1, _⟩ := I.list s1
            obtain ⟨us', r2, p2, _⟩ := I.list s2
            split at e
            · obtain ⟨hl, es, q1, q2, q3⟩ := allO_at (P := fun u u' b => SeqAt.EqAt A.in1 s u u' b) ih e l1 l2 r1 r2
              have z := SeqAt.RcAt.lists (A := A) (s := s) (e := fun j => es.getD j true) p1.isList p2.isList (by simpa using hl) (by omega) (fun j h1 h2 => q3 j (by simpa using h1) (by simpa using h2))
              have e3 : (List.range us.toArray.size).all (fun j => es.getD j true) = k := by
                rw [List.size_toArray, ← q1, all_getD, q2]
              rw [e3] at z
              exact SeqAt.EqAt.of_refs hab z
            · rename_i hl
              cases e
              have d1 := RepL.length l1
              have d2 := RepL.length l2
              have d3 := r1.length
              have d4 := r2.length
              have z := SeqAt.RcAt.lists_lengths (A := A) (s := s) p1.isList p2.isList (by rw [List.size_toArray, List.size_toArray, bne_iff_ne]; omega) (by omega)
              exact SeqAt.EqAt.of_refs hab z
        · split at e
          · rename_i ks ls e1 e2
            obtain ⟨a, vs, rfl, s1, m1, m2⟩ := dcOf_at r e1 h
            obtain ⟨b, ws, rfl, s2, m3, m4⟩ := dcOf_at r e2 h'
            by_cases hab : a = b
            · exact same rfl (by rw [hab])
            · cases rv; cases rw'
              obtain ⟨_, ya, va, ra, da⟩ := dk_rd I.hok s1
              obtain ⟨_, yb, vb, rb, db⟩ := dk_rd I.hok s2
              split at e
              · rename_i hz
                cases e
                have d1 := congrArg List.length m1
                have d2 := congrArg List.length m3
                rw [List.length_map, List.length_map] at d1 d2
                have z1 : va = [] := List.length_eq_zero_iff.mp (by rw [← ra.length]; omega)
                have z2 : vb = [] := List.length_eq_zero_iff.mp (by rw [← rb.length]; omega)
                subst z1; subst z2
                have go : SeqAt.RcAt A s (.ref a) (.ref b) true := fun prog' w' E Q hq => PySem.W.keq_eq (knd := mixKind prog' w') (r := true) ya yb (dictOf_nil da) (dictOf_nil db) (by omega) (fun _ => .nil) hq
                exact SeqAt.EqAt.of_refs hab go
              · cases e
          · cases e
theorem eqG_top (I : Inv X pins σ H s) (r : Rel (kx X T) ι F rs H M) (n : Nat) (A : Around) (hu : A.units + (n + 1) < cLine) (x y : D) (v w : V) (u u' : Value) (k : Bool) (e : eqG (n + 1) M x y = some k) (hx : ((tupO x).isSome || (lsOf M x).isSome) = true) (h : Rep (kx X T) ι F x v) (h' : Rep (kx X T) ι F y w) (rv : RelV v u) (rw' : RelV w u') :
    SeqAt.RcAt A s u u' k ∧ SeqAt.RcNeAt A s u u' (!k) := by
  have hin : A.in1.units + n < cLine := by
    have : A.in1.units ≤ A.units + 1 := by simp [Around.in1]
    omega
  have ih := eqG_at I r n A.in1 hin
  unfold eqG at e
  split at e
  · rename_i hf
    rw [Bool.and_eq_true] at hf
    exfalso
    have h1 := hf.1
    cases x <;> first | (cases h1; done) | (cases hx; done)
  · split at e
    · rename_i xs ys e1 e2
      obtain ⟨a, vs, rfl, s1, l1⟩ := tup_at r e1 h
      obtain ⟨b, ws, rfl, s2, l2⟩ := tup_at r e2 h'
      cases rv; cases rw'
      obtain ⟨us, r1, ⟨o1, p1⟩, _⟩ := I.tuple s1
      obtain ⟨us', r2, ⟨o2, p2⟩, _⟩ := I.tuple s2
      obtain ⟨hl, es, q1, q2, q3⟩ := allO_at (P := fun u u' b => SeqAt.EqAt A.in1 s u u' b) ih e l1 l2 r1 r2
      have z := SeqAt.RcAt.tuples (A := A) (s := s) (l := a) (b := b) (items := us.toArray) (items2 := us'.toArray) (e := fun j => es.getD j true) ⟨o1, p1⟩ ⟨o2, p2⟩ (by omega) (fun j h1 h2 => q3 j (by simpa using h1) (by simpa using h2))
      have z' := SeqAt.RcNeAt.tuples (A := A) (s := s) (l := a) (b := b) (items := us.toArray) (items2 := us'.toArray) (e := fun j => es.getD j true) ⟨o1, p1⟩ ⟨o2, p2⟩ (by omega) (fun j h1 h2 => q3 j (by simpa using h1) (by simpa using h2))
      have e3 : ((List.range (min us.toArray.size us'.toArray.size)).all (fun j => es.getD j true) && us.toArray.size == us'.toArray.size) = k := by
        rw [List.size_toArray, List.size_toArray, ← hl, Nat.min_self, ← q1, all_getD, q2, beq_self_eq_true, Bool.and_true]
      rw [e3] at z z'
      exact ⟨z, z'⟩
    · split at e
      · rename_i xs ys e1 e2
        obtain ⟨a, vs, rfl, s1, l1⟩ := lsOf_at r e1 h
        obtain ⟨b, ws, rfl, s2, l2⟩ := lsOf_at r e2 h'
        cases rv; cases rw'
        obtain ⟨us, r1, p1, _⟩ := I.list s1
        obtain ⟨us', r2, p2, _⟩ := I.list s2
        split at e
        · obtain ⟨hl, es, q1, q2, q3⟩ := allO_at (P := fun u u' b => SeqAt.EqAt A.in1 s u u' b) ih e l1 l2 r1 r2
          have z := SeqAt.RcAt.lists (A := A) (s := s) (e := fun j => es.getD j true) p1.isList p2.isList (by simpa using hl) (by omega) (fun j h1 h2 => q3 j (by simpa using h1) (by simpa using h2))
          have z' := SeqAt.RcNeAt.lists (A := A) (s := s) (e := fun j => es.getD j true) p1.isList p2.isList (by simpa using hl) (by omega) (fun j h1 h2 => q3 j (by simpa using h1) (by simpa using h2))
          have e3 : (List.range us.toArray.size).all (fun j => es.getD j true) = k := by
            rw [List.size_toArray, ← q1, all_getD, q2]
          rw [e3] at z z'
          exact ⟨z, z'⟩
        · rename_i hl
          cases e
          have d1 := RepL.length l1
          have d2 := RepL.length l2
          have d3 := r1.length
          have d4 := r2.length
          exact ⟨SeqAt.RcAt.lists_lengths (A := A) (s := s) p1.isList p2.isList (by rw [List.size_toArray, List.size_toArray, bne_iff_ne]; omega) (by omega), SeqAt.RcNeAt.lists_lengths (A := A) (s := s) p1.isList p2.isList (by rw [List.size_toArray, List.size_toArray, bne_iff_ne]; omega) (by omega)⟩
      · rename_i hn1 hn2
        exfalso
        split at e
        · rename_i ks ls e1 e2
          have key : ∀ z : D, dcOf M z = some ks → ((tupO z).isSome || (lsOf M z).isSome) = true → False := fun z e1 hx => by
            cases z with
            | ref i =>
              simp only [dcOf] at e1
              split at e1
              · rename_i hM
                have q : lsOf M (.ref i) = none := by simp only [lsOf, hM]
                rw [q] at hx
                cases hx
              · rename_i hM
                have q : lsOf M (.ref i) = none := by simp only [lsOf, hM]
                rw [q] at hx
                cases hx
              · cases e1
            | tup xs => cases e1
            | lst xs => cases e1
            | _ => cases hx
          exact key x e1 hx
        · cases e
/-- == and != of lists and tuples, with what they hold -/
def eqQ (M : Mem) (x y : D) : Option Bool := if (tupO x).isSome || (lsOf M x).isSome then eqG 12 M x y else eqD M x y
theorem o_eqQ (hu : X.A.units + 64 < cLine) : OpR X (compareOp .Eq) (RO2 (kx X T) rs (boD eqQ)) := fun pins s σ H x y v u Q I rx ry h => by
  obtain ⟨ι, F, M, d, e, z, M', r, h1, h2, g, q⟩ := h
  unfold boD at g
  obtain ⟨k, g1, g2⟩ := Option.map_eq_some_iff.mp g
  cases g2
  unfold eqQ at g1
  split at g1
  · rename_i hs
    exact (eqG_top I r 11 X.A (by omega) d e x y v u k g1 hs h1 h2 rx ry).1 X.prog X.w _ _ ⟨.bl k, H, I, rfl, q ι F H _ Le.refl r rfl⟩
  · exact o_eq hu pins s σ H x y v u Q I rx ry ⟨ι, F, M, d, e, .bl k, M, r, h1, h2, by unfold boD; rw [g1] <;> rfl, q⟩
theorem o_neQ (hu : X.A.units + 64 < cLine) : OpR X (compareOp .NotEq) (RO2 (kx X T) rs (boD (notB eqQ))) := fun pins s σ H x y v u Q I rx ry h => by
  obtain ⟨ι, F, M, d, e, z, M', r, h1, h2, g, q⟩ := h
  unfold boD at g
  obtain ⟨k, g1, g2⟩ := Option.map_eq_some_iff.mp g
  cases g2
  obtain ⟨k', g3, g4⟩ := Option.map_eq_some_iff.mp g1
  unfold eqQ at g3
  split at g3
  · rename_i hs
    have z := (eqG_top I r 11 X.A (by omega) d e x y v u k' g3 hs h1 h2 rx ry).2
    rw [g4] at z
    exact z X.prog X.w _ _ ⟨.bl k, H, I, rfl, q ι F H _ Le.refl r rfl⟩
  · exact o_ne hu pins s σ H x y v u Q I rx ry ⟨ι, F, M, d, e, .bl k, M, r, h1, h2, by unfold boD notB; rw [g3]; show some (D.bl (!k'), M) = _; rw [g4], q⟩
end
/-! ### rows for evaluation -/
theorem v_lenO {tb : List (Nat × FnD)} {xs : List D} {M : Mem} : lenO tb [.lst xs] M = some (.int xs.length, M) := rfl
theorem v_eqQi {p q : Int} {M : Mem} : boD eqQ (.int p) (.int q) M = some (.bl (p == q), M) := rfl
theorem v_neQi {p q : Int} {M : Mem} : boD (notB eqQ) (.int p) (.int q) M = some (.bl (!(p == q)), M) := rfl
end LD
namespace LD
open PySem PySem.Spec PyProof.Rows L2
open PySem.SeqAt (EqIn EqAt rcIn_lists rcIn_tuples)

/-! ### != of lists and tuples in one world -/
section
open PySem.AutoSeq1 (wpAny_loadPart')
open PySem.SeqAt PySem.MeetsSeq PySem.MeetsSeq2 PySem.MeetsSeq3 PySem.SeqRoads2
variable {pr : Program} {wo : World}
theorem neL_loop (pl pb : Addr) (us ws : Array Value) (nu nw : Nat) (du dw : Option Addr) (su sw : Array (Option Value)) (hz : us.size = ws.size) (f : Nat → Bool) : ∀ (m i : Nat), us.size - i = m →
    MeetsIn pr wo (Builtin.«list.__eq__.loop» ⟨[.ref pl, .ref pb, rawInt i, rawInt 3], []⟩) (fun B R c => c.heap.get? pl = some { cls := .type "list", dict := du, data := .seq us nu, slots := su } ∧ c.heap.get? pb = some { cls := .type "list", dict := dw, data := .seq ws nw, slots := sw } ∧
      (∀ j (p : j < us.size) (q : j < ws.size), EqIn pr wo B.in1 c us[j] ws[j] (f j)) ∧ R (.ok (.ret (.bool (!((List.range us.size).drop i).all f)))) c)
  | 0, i, hm => by
    intro B R c hc
    obtain ⟨c1, c2, c3, c4, c5⟩ := c
    obtain ⟨q1, q2, _, q4⟩ := hc
    have z1 : us[((i : Nat) : Int).toNat]? = none := by simp; omega
    have z2 : ws[((i : Nat) : Int).toNat]? = none := by simp; omega
    have z3 : (List.range us.size).drop i = [] := by simp; omega
    wp_walk using wpAny_loadPart' q1, wpAny_loadPart' q2
    rw [z1, z2]
    wp_walk using wpAny_loadPart' q1, wpAny_loadPart' q2
    show R (.ok (.ret (.bool (us.size != ws.size)))) _
    rw [z3] at q4
    rw [hz]
    simpa using q4
  | m + 1, i, hm => by
    intro B R c hc
    obtain ⟨c1, c2, c3, c4, c5⟩ := c
    obtain ⟨q1, q2, q3, q4⟩ := hc
    have l1 : i < us.size := by omega
    have l2 : i < ws.size := by omega
    have z1 : us[((i : Nat) : Int).toNat]? = some us[i] := by simp [l1]
    have z2 : ws[((i : Nat) : Int).toNat]? = some ws[i] := by simp [l2]
    have z3 : (List.range us.size).drop i = i :: (List.range us.size).drop (i + 1) := by simp [List.drop_eq_getElem_cons, l1]
    have z4 : ((i : Int) + 1) = ((i + 1 : Nat) : Int) := by omega
    wp_walk using wpAny_loadPart' q1, wpAny_loadPart' q2
    rw [z3, List.all_cons] at q4
    rw [z1, z2]
    refine wpAny_bind (q3 i l1 l2 _ _ ?_)
    cases hf : f i with
    | true =>
      rw [hf] at q4
      wp_walk
      rw [z4]
      exact ⟨plainId_quiet plain_eq_loop _, codeAny_builtin entry_eq_loop (by
        rw [Around.under_plainId plain_eq_loop _]
        exact neL_loop pl pb us ws nu nw du dw su sw hz f m (i + 1) (by omega) B R _ ⟨q1, q2, q3, by simpa using q4⟩)⟩
    | false =>
      rw [hf] at q4
      wp_walk using wpAny_loadPart' q1, wpAny_loadPart' q2
      rw [z1, z2]
      wp_walk
      simpa using q4
theorem neL_in (pl pb : Addr) (us ws : Array Value) (nu nw : Nat) (du dw : Option Addr) (su sw : Array (Option Value)) (hz : us.size = ws.size) (f : Nat → Bool) :
    MeetsIn pr wo (Builtin.«list.__ne__» ⟨[.ref pl, .ref pb], []⟩) (fun B R c => c.heap.get? pl = some { cls := .type "list", dict := du, data := .seq us nu, slots := su } ∧ c.heap.get? pb = some { cls := .type "list", dict := dw, data := .seq ws nw, slots := sw } ∧
      (∀ j (p : j < us.size) (q : j < ws.size), EqIn pr wo B.in1 c us[j] ws[j] (f j)) ∧ R (.ok (.ret (.bool (!(List.range us.size).all f)))) c) := by
  intro B R c hc
  obtain ⟨c1, c2, c3, c4, c5⟩ := c
  obtain ⟨q1, q2, q3, q4⟩ := hc
  have g3 := AutoSeq1.sub_list_list
  have gz : ¬ (us.size != ws.size) = true := by simp [hz]
  wp_walk using wpAny_loadPart' q1, wpAny_loadPart' q2
  exact ⟨plainId_quiet plain_eq_loop _, codeAny_builtin entry_eq_loop (by
    rw [Around.under_plainId plain_eq_loop _]
    exact neL_loop pl pb us ws nu nw du dw su sw hz f _ 0 rfl B R _ ⟨q1, q2, q3, by simpa using q4⟩)⟩
theorem neT_in (pl pb : Addr) (us ws : Array Value) (nu nw : Nat) (du dw : Option Addr) (su sw : Array (Option Value)) (f : Nat → Bool) :
    MeetsIn pr wo (Builtin.«tuple.__ne__» ⟨[.ref pl, .ref pb], []⟩) (fun B R c => c.heap.get? pl = some { cls := .type "tuple", dict := du, data := .seq us nu, slots := su } ∧ c.heap.get? pb = some { cls := .type "tuple", dict := dw, data := .seq ws nw, slots := sw } ∧
      (∀ j (p : j < us.size) (q : j < ws.size), EqIn pr wo B.in1 c us[j] ws[j] (f j)) ∧ R (.ok (.ret (.bool (!((List.range (min us.size ws.size)).all f && us.size == ws.size))))) c) :=
  .of_wp fun B R c hc => by
    obtain ⟨c1, c2, c3, c4, c5⟩ := c
    obtain ⟨q1, q2, q3, q4⟩ := hc
    have g2 := AutoSeq1.sub_tuple_tuple
    have lz : (us.toList.zip ws.toList).length = min us.size ws.size := by simp
    wp_walk using wpAny_loadPart' q1, wpAny_loadPart' q2, wpAny_forIn_list _ (fun more b c' => b.1 = none ∧ c' = ⟨c1, c2, c3, c4, c5⟩ ∧ ∃ i, more = (us.toList.zip ws.toList).drop i ∧ R (.ok (.ret (.bool (!(((List.range (min us.size ws.size)).drop i).all f && us.size == ws.size))))) ⟨c1, c2, c3, c4, c5⟩) _
    case turn =>
      rintro ⟨y, x⟩ more b c' ⟨hb, rfl, i, hm, hR⟩
      have k1 : i < (us.toList.zip ws.toList).length := Nat.lt_of_not_le fun h => by rw [List.drop_of_length_le h] at hm; cases hm
      have k2 : i < min us.size ws.size := lz ▸ k1
      have k3 : i < us.size := Nat.lt_of_lt_of_le k2 (Nat.min_le_left _ _)
      have k4 : i < ws.size := Nat.lt_of_lt_of_le k2 (Nat.min_le_right _ _)
      rw [List.drop_eq_getElem_cons k1] at hm
      obtain ⟨m1, m2⟩ := List.cons.inj hm
      have e1 : y = us[i] := by simpa using congrArg Prod.fst m1
      have e2 : x = ws[i] := by simpa using congrArg Prod.snd m1
      subst e1
      subst e2
      rw [show (List.range (min us.size ws.size)).drop i = i :: (List.range (min us.size ws.size)).drop (i + 1) by simp [List.drop_eq_getElem_cons, k2], List.all_cons] at hR
      refine wpAny_bind (q3 i k3 k4 _ _ ?_)
      cases hf : f i with
      | true =>
        rw [hf] at hR
        wp_walk
        exact ⟨rfl, rfl, i + 1, m2, by simpa using hR⟩
      | false =>
        rw [hf] at hR
        wp_walk
        exact ⟨_, rfl, by simpa using hR⟩
    case fin =>
      rintro ⟨b1, b2⟩ c' ⟨hb, rfl, i, hm, hR⟩
      simp only at hb
      subst hb
      have k1 : min us.size ws.size ≤ i := by
        rcases Nat.lt_or_ge i (us.toList.zip ws.toList).length with h | h
        · rw [List.drop_eq_getElem_cons h] at hm; cases hm
        · exact lz ▸ h
      rw [List.drop_of_length_le (by simpa using k1)] at hR
      wp_walk
      exact ⟨_, rfl, by simpa [Builtin.Tuple.tupleCompareSizes, bne] using hR⟩
    case h => exact ⟨rfl, rfl, 0, rfl, by simpa using q4⟩
variable {A : Around} {E Q : Value → Shared → Prop} {c : Shared} {pl pb : Addr} {us ws : Array Value} {f : Nat → Bool}
theorem neIn_lists (hl : c.heap.IsList pl us) (hb : c.heap.IsList pb ws) (hz : us.size = ws.size) (hu : A.units < cLine) (he : ∀ j (p : j < us.size) (q : j < ws.size), EqIn pr wo A.in1 c us[j] ws[j] (f j)) (h : Q (.bool (!(List.range us.size).all f)) c) :
    wpAny (model pr wo) A (richCompare .NotEq (.ref pl) (.ref pb)) Q E c := by
  obtain ⟨⟨k1, d1, b1, s1⟩, o1, e1, n1, f1⟩ := id hl
  obtain ⟨⟨k2, d2, b2, s2⟩, o2, e2, n2, f2⟩ := id hb
  simp only at e1 f1 e2 f2
  subst e1 f1 e2 f2
  exact wpAny_richCompare_same_room (T := "list") (op := .NotEq) ⟨_, o1, rfl⟩ ⟨_, o2, rfl⟩ F.slot_list_ne (call_meetsIn F.slot_list_ne ⟨_, o1, rfl⟩ F.entry_list_ne (F.args_list_ne_2 _ _) (neL_in pl pb us ws n1 n2 d1 d2 s1 s2 hz f)
    ⟨o1, o2, he, show Value.bool (!(List.range us.size).all f) ≠ Value.notImplemented ∧ Q (.bool (!(List.range us.size).all f)) c from ⟨(fun x => nomatch x), h⟩⟩) hu
theorem neIn_tuples (hl : c.heap.IsTuple pl us) (hb : c.heap.IsTuple pb ws) (hu : A.units < cLine) (he : ∀ j (p : j < us.size) (q : j < ws.size), EqIn pr wo A.in1 c us[j] ws[j] (f j)) (h : Q (.bool (!((List.range (min us.size ws.size)).all f && us.size == ws.size))) c) :
    wpAny (model pr wo) A (richCompare .NotEq (.ref pl) (.ref pb)) Q E c := by
  obtain ⟨⟨k1, d1, b1, s1⟩, o1, e1, n1, f1⟩ := id hl
  obtain ⟨⟨k2, d2, b2, s2⟩, o2, e2, n2, f2⟩ := id hb
  simp only at e1 f1 e2 f2
  subst e1 f1 e2 f2
  exact wpAny_richCompare_same_room (T := "tuple") (op := .NotEq) ⟨_, o1, rfl⟩ ⟨_, o2, rfl⟩ F.slot_tuple_ne (call_meetsIn F.slot_tuple_ne ⟨_, o1, rfl⟩ F.entry_tuple_ne (F.args_tuple_ne_2 _ _) (neT_in pl pb us ws n1 n2 d1 d2 s1 s2 f)
    ⟨o1, o2, he, show Value.bool (!((List.range (min us.size ws.size)).all f && us.size == ws.size)) ≠ Value.notImplemented ∧ Q (.bool (!((List.range (min us.size ws.size)).all f && us.size == ws.size))) c from ⟨(fun x => nomatch x), h⟩⟩) hu
end
/-! ### == and != of lists, tuples and dicts that hold one another, dicts with entries, too -/
def allK (f : D → D → Option Bool) (ls : List (Key × D)) : List (Key × D) → Option Bool
  | [] => some true
  | (k, d) :: r => match getK ls k with
    | none => some false
    | some e => (f d e).bind fun a => (allK f ls r).map fun b => a && b
def eqH : Nat → Mem → D → D → Option Bool
  | 0, _, _, _ => none
  | n + 1, M, x, y => if isF x && isF y then some (eqF x y) else
    match tupO x, tupO y with
    | some xs, some ys => allO (eqH n M) xs ys
    | _, _ => match lsOf M x, lsOf M y with
      | some xs, some ys => if xs.length = ys.length then allO (eqH n M) xs ys else some false
      | _, _ => match dcOf M x, dcOf M y with
        | some ks, some ls => if ks.length = ls.length then allK (eqH n M) ls ks else some false
        | _, _ => none
section
variable {X : Cx} {T : Tab} {ι : List Addr} {F H : Hp} {M : Mem} {rs : List (Addr × HO)} {pins : List (Addr × Obj)} {σ : L2.St} {s : Shared}
theorem valV_mem {k : Key} {v : V} : ∀ {vs : List (Key × V)}, (vs.map (·.1)).Nodup → (k, v) ∈ vs → valV vs k = some v
  | [], _, h => by cases h
  | (k2, v2) :: vs, nd, h => by
    rw [List.map_cons, List.nodup_cons] at nd
    unfold valV
    rcases List.mem_cons.mp h with h | h
    · cases h
      rw [List.find?_cons_of_pos (by simp)] <;> rfl
    · rw [List.find?_cons_of_neg (by
        simp only [decide_eq_true_eq]
        intro e
        exact nd.1 (by rw [e]; exact List.mem_map.mpr ⟨(k, v), h, rfl⟩))]
      exact valV_mem nd.2 h
theorem allK_same {f : D → D → Option Bool} (hf : ∀ x y v b, f x y = some b → Rep (kx X T) ι F x v → Rep (kx X T) ι F y v → b = true) {ls : List (Key × D)} {vs : List (Key × V)} (h1 : vs.map (·.1) = ls.map (·.1)) (h2 : RepL (kx X T) ι F (ls.map (·.2)) (vs.map (·.2))) (nd : (vs.map (·.1)).Nodup) :
    ∀ (ks : List (Key × D)) (ws : List (Key × V)) (b : Bool), (∀ p ∈ ws, p ∈ vs) → ws.map (·.1) = ks.map (·.1) → RepL (kx X T) ι F (ks.map (·.2)) (ws.map (·.2)) → allK f ls ks = some b → b = true
  | [], _, b, _, _, _, e => by cases e; rfl
  | (k, d) :: r, [], b, _, e1, _, _ => by cases e1
  | (k, d) :: r, (k2, v) :: wr, b, hm, e1, e2, e => by
    obtain ⟨rfl, e3⟩ : k2 = k ∧ wr.map (·.1) = r.map (·.1) := List.cons.inj e1
    obtain ⟨v', r', z1, z2, z3⟩ := e2
    obtain ⟨rfl, rfl⟩ : v = v' ∧ wr.map (·.2) = r' := List.cons.inj z1
    have hv := valV_mem nd (hm _ List.mem_cons_self)
    have q := valV_rep (k := k2) h1 h2
    unfold allK at e
    cases hg : getK ls k2 with
    | none =>
      rw [hg] at q
      rw [hv] at q
      cases q
    | some d2 =>
      rw [hg] at q e
      obtain ⟨u, q1, q2⟩ := q
      rw [hv] at q1
      cases q1
      obtain ⟨a, ea, e⟩ := Option.bind_eq_some_iff.mp e
      obtain ⟨c, ec, e⟩ := Option.map_eq_some_iff.mp e
      rw [← e, hf _ _ _ _ ea z2 q2, allK_same hf h1 h2 nd r wr c (fun p hp => hm p (List.mem_cons_of_mem _ hp)) e3 z3 ec] <;> rfl
theorem dk_nd (I : Inv X pins σ H s) {a : Addr} {vs : List (Key × V)} (h : Rd H a (.dK vs)) : (vs.map (·.1)).Nodup := by
  obtain ⟨_, _, va, r, d⟩ := dk_rd I.hok h
  obtain ⟨o, es, ep, _, _, _, _, _, nd⟩ := d
  rw [r.keys]
  exact nd
theorem eqH_same (I : Inv X pins σ H s) (r : Rel (kx X T) ι F rs H M) : ∀ (n : Nat) (x y : D) (v : V) (k : Bool), eqH n M x y = some k → Rep (kx X T) ι F x v → Rep (kx X T) ι F y v → k = true
  | 0, _, _, _, _, e, _, _ => by cases e
  | n + 1, x, y, v, k, e, h, h' => by
    have ih := eqH_same I r n
    unfold eqH at e
    split at e
    · rename_i hf
      rw [Bool.and_eq_true] at hf
      cases e
      exact eqF_self hf.1 hf.2 h h'
    · split at e
      · rename_i xs ys e1 e2
        obtain ⟨a, vs, rfl, s1, l1⟩ := tup_at r e1 h
        obtain ⟨a', vs', e3, s2, l2⟩ := tup_at r e2 h'
        cases e3
        have := I.tuple_inj s1 s2
        subst this
        exact allO_same ih e l1 l2
      · split at e
        · rename_i xs ys e1 e2
          obtain ⟨a, vs, rfl, s1, l1⟩ := lsOf_at r e1 h
          obtain ⟨a', vs', e3, s2, l2⟩ := lsOf_at r e2 h'
          cases e3
          have := I.list_inj s1 s2
          subst this
          rw [if_pos (by rw [← RepL.length l1, RepL.length l2])] at e
          exact allO_same ih e l1 l2
        · split at e
          · rename_i ks ls e1 e2
            obtain ⟨a, vs, rfl, s1, m1, m2⟩ := dcOf_at r e1 h
            obtain ⟨a', vs', e3, s2, m3, m4⟩ := dcOf_at r e2 h'
            cases e3
            have := rd_inj s1 s2
            subst this
            have hl : ks.length = ls.length := by
              have d1 := congrArg List.length m1
              have d2 := congrArg List.length m3
              rw [List.length_map, List.length_map] at d1 d2
              omega
            rw [if_pos hl] at e
            exact allK_same ih m3 m4 (dk_nd I s1) ks vs k (fun _ h => h) m1 m2 e
          · cases e
theorem hits_at {pr : Program} {wo : World} {A : Around} {f : D → D → Option Bool} (hf : ∀ x y v w u u' b, f x y = some b → Rep (kx X T) ι F x v → Rep (kx X T) ι F y w → RelV v u → RelV w u' → EqIn pr wo A s u u' b) {ls : List (Key × D)} {ws : List (Key × V)} {wb : List (Key × Value)} (h1 : ws.map (·.1) = ls.map (·.1)) (h2 : RepL (kx X T) ι F (ls.map (·.2)) (ws.map (·.2))) (h3 : KV ws wb) :
    ∀ (ks : List (Key × D)) (vs : List (Key × V)) (va : List (Key × Value)) (b : Bool), vs.map (·.1) = ks.map (·.1) → RepL (kx X T) ι F (ks.map (·.2)) (vs.map (·.2)) → KV vs va → allK f ls ks = some b → PySem.W.KeqHitsIn pr wo A s wb va b
  | [], [], va, b, _, _, kv, e => by
    cases kv
    cases e
    exact .nil
  | [], _ :: _, _, _, e1, _, _, _ => by cases e1
  | _ :: _, [], _, _, e1, _, _, _ => by cases e1
  | (k, d) :: r, (k2, v) :: vr, va, b, e1, e2, kv, e => by
    obtain ⟨rfl, e3⟩ : k2 = k ∧ vr.map (·.1) = r.map (·.1) := List.cons.inj e1
    obtain ⟨v', r', z1, z2, z3⟩ := e2
    obtain ⟨rfl, rfl⟩ : v = v' ∧ vr.map (·.2) = r' := List.cons.inj z1
    cases kv with
    | @cons _ q _ va' kp kr =>
      obtain ⟨k3, u⟩ := q
      obtain ⟨kp1, kp2⟩ := kp
      have kp1 : k2 = k3 := kp1
      subst kp1
      have q := valV_rep (k := k2) h1 h2
      have qv := h3.val k2
      unfold allK at e
      cases hg : getK ls k2 with
      | none =>
        rw [hg] at q e
        have q : valV ws k2 = none := q
        rw [q] at qv
        cases e
        cases hw : valueAt wb k2 with
        | none => exact .miss hw
        | some y => rw [hw] at qv; exact qv.elim
      | some d2 =>
        rw [hg] at q e
        obtain ⟨w, q1, q2⟩ := q
        rw [q1] at qv
        obtain ⟨a, ea, e⟩ := Option.bind_eq_some_iff.mp e
        obtain ⟨c, ec, e⟩ := Option.map_eq_some_iff.mp e
        cases hw : valueAt wb k2 with
        | none => rw [hw] at qv; exact qv.elim
        | some y =>
          rw [hw] at qv
          rw [← e]
          exact .hit hw (hf _ _ _ _ _ _ _ ea z2 q2 kp2 qv) (hits_at hf h1 h2 h3 r vr va' c e3 z3 kr ec)
theorem eqH_at (I : Inv X pins σ H s) (r : Rel (kx X T) ι F rs H M) : ∀ (n : Nat) (A : Around), A.units + n < cLine → ∀ (x y : D) (v w : V) (u u' : Value) (k : Bool), eqH n M x y = some k → Rep (kx X T) ι F x v → Rep (kx X T) ι F y w → RelV v u → RelV w u' → EqIn X.prog X.w A s u u' k
  | 0, _, _, _, _, _, _, _, _, _, e, _, _, _, _ => by cases e
  | n + 1, A, hu, x, y, v, w, u, u', k, e0, h, h', rv, rw' => by
    have hin : A.in1.units + n < cLine := by
      have : A.in1.units ≤ A.units + 1 := by simp [Around.in1]
      omega
    have ih := eqH_at I r n A.in1 hin
    have e := e0
    unfold eqH at e
    split at e
    · rename_i hf
      rw [Bool.and_eq_true] at hf
      cases e
      rw [← eqv_flat hf.1 hf.2]
      have z : EqAt A s u u' (PyData.eqv (pyA x) (pyA y)) := PySem.W.keq_flat (flat_val hf.1 h rv) (flat_val hf.2 h' rw')
      exact z.inModel _ _
    · have same : ∀ {a : Addr}, v = .ref a → w = .ref a → EqIn X.prog X.w A s u u' k := fun {a} e1 e2 => by
        subst e1; subst e2
        cases rv; cases rw'
        rw [eqH_same I r (n + 1) x y (.ref a) k e0 h h']
        exact (SeqAt.EqAt.same _).inModel _ _
      split at e
      · rename_i xs ys e1 e2
        obtain ⟨a, vs, rfl, s1, l1⟩ := tup_at r e1 h
        obtain ⟨b, ws, rfl, s2, l2⟩ := tup_at r e2 h'
        by_cases hab : a = b
        · exact same rfl (by rw [hab])
        · cases rv; cases rw'
          obtain ⟨us, r1, ⟨o1, p1⟩, _⟩ := I.tuple s1
          obtain ⟨us', r2, ⟨o2, p2⟩, _⟩ := I.tuple s2
          obtain ⟨hl, es, q1, q2, q3⟩ := allO_at (P := fun u u' b => EqIn X.prog X.w A.in1 s u u' b) ih e l1 l2 r1 r2
          have e3 : ((List.range (min us.toArray.size us'.toArray.size)).all (fun j => es.getD j true) && us.toArray.size == us'.toArray.size) = k := by
            rw [List.size_toArray, List.size_toArray, ← hl, Nat.min_self, ← q1, all_getD, q2, beq_self_eq_true, Bool.and_true]
          exact SeqAt.EqIn.of_refs hab fun E Q hq => rcIn_tuples (items := us.toArray) (items2 := us'.toArray) (e := fun j => es.getD j true) ⟨o1, p1⟩ ⟨o2, p2⟩ (by omega) (fun j h1 h2 => q3 j (by simpa using h1) (by simpa using h2)) (by rw [e3]; exact hq)
      · split at e
        · rename_i xs ys e1 e2
          obtain ⟨a, vs, rfl, s1, l1⟩ := lsOf_at r e1 h
          obtain ⟨b, ws, rfl, s2, l2⟩ := lsOf_at r e2 h'
          by_cases hab : a = b
          · exact same rfl (by rw [hab])
          · cases rv; cases rw'
            obtain ⟨us, r1, p1, _⟩ := I.list s1
            obtain ⟨us', r2, p2, _⟩ := I.list s2
            split at e
            · obtain ⟨hl, es, q1, q2, q3⟩ := allO_at (P := fun u u' b => EqIn X.prog X.w A.in1 s u u' b) ih e l1 l2 r1 r2
              have e3 : (List.range us.toArray.size).all (fun j => es.getD j true) = k := by
                rw [List.size_toArray, ← q1, all_getD, q2]
              exact SeqAt.EqIn.of_refs hab fun E Q hq => rcIn_lists (items := us.toArray) (items2 := us'.toArray) (e := fun j => es.getD j true) p1.isList p2.isList (by simpa using hl) (by omega) (fun j h1 h2 => q3 j (by simpa using h1) (by simpa using h2)) (by rw [e3]; exact hq)
            · rename_i hl
              cases e
              have d1 := RepL.length l1
              have d2 := RepL.length l2
              have d3 := r1.length
              have d4 := r2.length
              have z : EqAt A s (.ref a) (.ref b) false := SeqAt.EqAt.of_refs hab (SeqAt.RcAt.lists_lengths (A := A) (s := s) p1.isList p2.isList (by rw [List.size_toArray, List.size_toArray, bne_iff_ne]; omega) (by omega))
              exact z.inModel _ _
        · split at e
          · rename_i ks ls e1 e2
            obtain ⟨a, vs, rfl, s1, m1, m2⟩ := dcOf_at r e1 h
            obtain ⟨b, ws, rfl, s2, m3, m4⟩ := dcOf_at r e2 h'
            by_cases hab : a = b
            · exact same rfl (by rw [hab])
            · cases rv; cases rw'
              obtain ⟨_, ya, va, ra, da⟩ := dk_rd I.hok s1
              obtain ⟨_, yb, vb, rb, db⟩ := dk_rd I.hok s2
              have d1 := congrArg List.length m1
              have d2 := congrArg List.length m3
              have d3 := ra.length
              have d4 := rb.length
              rw [List.length_map, List.length_map] at d1 d2
              split at e
              · rename_i hl
                have hits := hits_at ih m3 m4 rb ks vs va k m1 m2 ra e
                refine SeqAt.EqIn.of_refs hab fun E Q hq => PySem.W.keq_eqIn ya yb da db (by omega) (fun _ => hits) ?_
                rw [show (va.length == vb.length) = true from beq_iff_eq.mpr (by omega), Bool.true_and]
                exact hq
              · rename_i hl
                cases e
                have hnl : va.length ≠ vb.length := by omega
                refine SeqAt.EqIn.of_refs hab fun E Q hq => PySem.W.keq_eqIn (r := true) ya yb da db (by omega) (fun z => absurd z hnl) ?_
                rw [beq_eq_false_iff_ne.mpr hnl, Bool.false_and]
                exact hq
          · cases e
theorem eqH_top (I : Inv X pins σ H s) (r : Rel (kx X T) ι F rs H M) (n : Nat) (A : Around) (hu : A.units + (n + 1) < cLine) (x y : D) (v w : V) (u u' : Value) (k : Bool) (e : eqH (n + 1) M x y = some k) (hx : ((tupO x).isSome || (lsOf M x).isSome) = true) (h : Rep (kx X T) ι F x v) (h' : Rep (kx X T) ι F y w) (rv : RelV v u) (rw' : RelV w u') :
    (∀ E Q : Value → Shared → Prop, Q (.bool k) s → wpAny (model X.prog X.w) A (richCompare .Eq u u') Q E s) ∧ (∀ E Q : Value → Shared → Prop, Q (.bool (!k)) s → wpAny (model X.prog X.w) A (richCompare .NotEq u u') Q E s) := by
  have hin : A.in1.units + n < cLine := by
    have : A.in1.units ≤ A.units + 1 := by simp [Around.in1]
    omega
  have ih := eqH_at I r n A.in1 hin
  unfold eqH at e
  split at e
  · rename_i hf
    rw [Bool.and_eq_true] at hf
    exfalso
    have h1 := hf.1
    cases x <;> first | (cases h1; done) | (cases hx; done)
  · split at e
    · rename_i xs ys e1 e2
      obtain ⟨a, vs, rfl, s1, l1⟩ := tup_at r e1 h
      obtain ⟨b, ws, rfl, s2, l2⟩ := tup_at r e2 h'
      cases rv; cases rw'
      obtain ⟨us, r1, ⟨o1, p1⟩, _⟩ := I.tuple s1
      obtain ⟨us', r2, ⟨o2, p2⟩, _⟩ := I.tuple s2
      obtain ⟨hl, es, q1, q2, q3⟩ := allO_at (P := fun u u' b => EqIn X.prog X.w A.in1 s u u' b) ih e l1 l2 r1 r2
      have e3 : ((List.range (min us.toArray.size us'.toArray.size)).all (fun j => es.getD j true) && us.toArray.size == us'.toArray.size) = k := by
        rw [List.size_toArray, List.size_toArray, ← hl, Nat.min_self, ← q1, all_getD, q2, beq_self_eq_true, Bool.and_true]
      exact ⟨fun E Q hq => rcIn_tuples (items := us.toArray) (items2 := us'.toArray) (e := fun j => es.getD j true) ⟨o1, p1⟩ ⟨o2, p2⟩ (by omega) (fun j h1 h2 => q3 j (by simpa using h1) (by simpa using h2)) (by rw [e3]; exact hq),
        fun E Q hq => neIn_tuples (us := us.toArray) (ws := us'.toArray) (f := fun j => es.getD j true) ⟨o1, p1⟩ ⟨o2, p2⟩ (by omega) (fun j h1 h2 => q3 j (by simpa using h1) (by simpa using h2)) (by rw [e3]; exact hq)⟩
    · split at e
      · rename_i xs ys e1 e2
        obtain ⟨a, vs, rfl, s1, l1⟩ := lsOf_at r e1 h
        obtain ⟨b, ws, rfl, s2, l2⟩ := lsOf_at r e2 h'
        cases rv; cases rw'
        obtain ⟨us, r1, p1, _⟩ := I.list s1
        obtain ⟨us', r2, p2, _⟩ := I.list s2
        split at e
        · obtain ⟨hl, es, q1, q2, q3⟩ := allO_at (P := fun u u' b => EqIn X.prog X.w A.in1 s u u' b) ih e l1 l2 r1 r2
          have e3 : (List.range us.toArray.size).all (fun j => es.getD j true) = k := by
            rw [List.size_toArray, ← q1, all_getD, q2]
          exact ⟨fun E Q hq => rcIn_lists (items := us.toArray) (items2 := us'.toArray) (e := fun j => es.getD j true) p1.isList p2.isList (by simpa using hl) (by omega) (fun j h1 h2 => q3 j (by simpa using h1) (by simpa using h2)) (by rw [e3]; exact hq),
            fun E Q hq => neIn_lists (us := us.toArray) (ws := us'.toArray) (f := fun j => es.getD j true) p1.isList p2.isList (by simpa using hl) (by omega) (fun j h1 h2 => q3 j (by simpa using h1) (by simpa using h2)) (by rw [e3]; exact hq)⟩
        · rename_i hl
          cases e
          have d1 := RepL.length l1
          have d2 := RepL.length l2
          have d3 := r1.length
          have d4 := r2.length
          have z1 : SeqAt.RcAt A s (.ref a) (.ref b) false := SeqAt.RcAt.lists_lengths p1.isList p2.isList (by rw [List.size_toArray, List.size_toArray, bne_iff_ne]; omega) (by omega)
          have z2 : SeqAt.RcNeAt A s (.ref a) (.ref b) true := SeqAt.RcNeAt.lists_lengths p1.isList p2.isList (by rw [List.size_toArray, List.size_toArray, bne_iff_ne]; omega) (by omega)
          exact ⟨fun E Q hq => z1 X.prog X.w E Q hq, fun E Q hq => z2 X.prog X.w E Q hq⟩
      · rename_i hn1 hn2
        exfalso
        split at e
        · rename_i ks ls e1 e2
          have key : ∀ z : D, dcOf M z = some ks → ((tupO z).isSome || (lsOf M z).isSome) = true → False := fun z e1 hx => by
            cases z with
            | ref i =>
              simp only [dcOf] at e1
              split at e1
              · rename_i hM
                have q : lsOf M (.ref i) = none := by simp only [lsOf, hM]
                rw [q] at hx
                cases hx
              · rename_i hM
                have q : lsOf M (.ref i) = none := by simp only [lsOf, hM]
                rw [q] at hx
                cases hx
              · cases e1
            | tup xs => cases e1
            | lst xs => cases e1
            | _ => cases hx
          exact key x e1 hx
        · cases e
/-- == and != of lists and tuples, with what they hold (dicts with entries, too) -/
def eqP (M : Mem) (x y : D) : Option Bool := if (tupO x).isSome || (lsOf M x).isSome then eqH 12 M x y else eqD M x y
theorem o_eqP (hu : X.A.units + 64 < cLine) : OpR X (compareOp .Eq) (RO2 (kx X T) rs (boD eqP)) := fun pins s σ H x y v u Q I rx ry h => by
  obtain ⟨ι, F, M, d, e, z, M', r, h1, h2, g, q⟩ := h
  unfold boD at g
  obtain ⟨k, g1, g2⟩ := Option.map_eq_some_iff.mp g
  cases g2
  unfold eqP at g1
  split at g1
  · rename_i hs
    exact (eqH_top I r 11 X.A (by omega) d e x y v u k g1 hs h1 h2 rx ry).1 _ _ ⟨.bl k, H, I, rfl, q ι F H _ Le.refl r rfl⟩
  · exact o_eq hu pins s σ H x y v u Q I rx ry ⟨ι, F, M, d, e, .bl k, M, r, h1, h2, by unfold boD; rw [g1] <;> rfl, q⟩
theorem o_neP (hu : X.A.units + 64 < cLine) : OpR X (compareOp .NotEq) (RO2 (kx X T) rs (boD (notB eqP))) := fun pins s σ H x y v u Q I rx ry h => by
  obtain ⟨ι, F, M, d, e, z, M', r, h1, h2, g, q⟩ := h
  unfold boD at g
  obtain ⟨k, g1, g2⟩ := Option.map_eq_some_iff.mp g
  cases g2
  obtain ⟨k', g3, g4⟩ := Option.map_eq_some_iff.mp g1
  unfold eqP at g3
  split at g3
  · rename_i hs
    have z := (eqH_top I r 11 X.A (by omega) d e x y v u k' g3 hs h1 h2 rx ry).2
    rw [g4] at z
    exact z _ _ ⟨.bl k, H, I, rfl, q ι F H _ Le.refl r rfl⟩
  · exact o_ne hu pins s σ H x y v u Q I rx ry ⟨ι, F, M, d, e, .bl k, M, r, h1, h2, by unfold boD notB; rw [g3]; show some (D.bl (!k'), M) = _; rw [g4], q⟩
end
/-! ### str.join -/
def joinG : OMt := fun x ds M => match x, ds with
  | .str a, [d] => match (match tupO d with | some xs => some xs | none => lsOf M d) with
    | some xs => match strsOf xs with
      | some ys => if (ys.map (·.length)).sum + ys.length * a.length ≤ 16777216 then some (.str (Txt.join a ys), M) else none
      | none => none
    | none => none
  | _, _ => none
theorem strs_rep {X : Cx} {T : Tab} {ι : List Addr} {F : Hp} : ∀ {xs : List D} {ys : List Str} {vs : List V}, strsOf xs = some ys → RepL (kx X T) ι F xs vs → vs = ys.map V.str
  | [], ys, vs, e, h => by cases e; exact h
  | x :: xs, ys, vs, e, h => by
    obtain ⟨v, r, rfl, h1, h2⟩ := h
    cases x <;> try (cases e; done)
    unfold strsOf at e
    obtain ⟨zs, e1, rfl⟩ := Option.map_eq_some_iff.mp e
    cases h1
    rw [strs_rep e1 h2] <;> rfl
section
variable {X : Cx} {T : Tab} {W : WX} {rs : List (Addr × HO)} {o e : Expr} {φ : Sem1 D} {α : Sem1 (List D)} {apos pos : Pos}
theorem m_join : MtR X "str.join" (RM (kx X T) rs joinG) := fun pins s σ H x xs v us Q I rx rxs h => by
  refine mt_join pins s σ H x xs v us Q I rx rxs ?_
  obtain ⟨ι, F, M, d, ds, z, M', r, rd, rds, e, q⟩ := h
  unfold joinG at e
  split at e
  · rename_i a c
    cases rd
    obtain ⟨w, wr, rfl, w1, w2⟩ := rds
    have w2 : wr = [] := w2
    subst w2
    split at e
    · rename_i ls hls
      split at e
      · rename_i ys hys
        split at e
        · rename_i hl
          cases e
          have key : ∃ p, w = .ref p ∧ (SqL X.K H p (ys.map V.str) ∨ SqT X.K H p (ys.map V.str)) := by
            split at hls
            · rename_i zs hz
              cases hls
              obtain ⟨p, vs, e1, e2, e3⟩ := tup_at r hz w1
              rw [strs_rep hys e3] at e2
              exact ⟨p, e1, .inr e2⟩
            · obtain ⟨p, vs, e1, e2, e3⟩ := lsOf_at r hls w1
              rw [strs_rep hys e3] at e2
              exact ⟨p, e1, .inl e2⟩
          obtain ⟨p, rfl, hp⟩ := key
          exact ⟨a, p, ys, rfl, rfl, hp, hl, q ι F H _ Le.refl r rfl⟩
        · cases e
      · cases e
    · cases e
  · cases e
theorem Join (ho : KE X T W o φ) (ha : KA X T W [e] α) (h1 : isSup o = false := by rfl) (hfew : ((backTo pos (starEach [e] X.env)).all (fun x => !x.1) && (backToKw pos (keywordEach [] X.env)).all (fun x => x.1.isSome)
      && decide (([e] : List Expr).length + ([] : List Keyword).length + (if ([] : List Keyword).isEmpty then 0 else 1) < 30)) = true := by rfl) (hline : (apos.endLine == pos.line) = true := by rfl) (h2 : [e].any isStar = false := by rfl) :
    KE X T W (.Call (.Attribute o "join" apos) [e] [] pos) (eBm isStrD joinG φ α) := d_bm PySem.F.plainAttrs_str PySem.F.slot_str_join PySem.F.type_str_join (fun _ => m_join) (fun r h e => ty_str r h e) ho ha h1 hfew hline h2
end
end LD
namespace LD
open PySem PySem.Spec PyProof.Rows L2
/-! ### a text a number of times -/
def repS (a : Str) (n : Nat) : Str := ⟨(List.replicate n a.cps).foldl (· ++ ·) #[]⟩
def mulG : O2 := fun x y M => match x, y with
  | .str a, .int n => if 1 ≤ a.length ∧ 2 ≤ n ∧ n < 65536 ∧ a.length < 256 then some (.str (repS a n.toNat), M) else none
  | x, y => mulD x y M
theorem rep_len : ∀ (n : Nat) (a c : Array Nat), ((List.replicate n a).foldl (· ++ ·) c).size = c.size + n * a.size
  | 0, a, c => by simp
  | n + 1, a, c => by
    rw [List.replicate_succ, List.foldl_cons, rep_len n a, Array.size_append, Nat.succ_mul]
    omega
theorem repS_len (a : Str) (n : Nat) : (repS a n).length = n * a.length := by
  show ((List.replicate n a.cps).foldl (· ++ ·) #[]).size = _
  rw [rep_len]
  simp [Str.length]
section
variable {X : Cx} {T : Tab} {rs : List (Addr × HO)}
theorem o_mulG : OpR X (binaryOp .Mult) (RO2 (kx X T) rs mulG) := fun pins s σ H x y v u Q I rx ry h => by
  obtain ⟨ι, F, M, d, e, z, M', r, h1, h2, g, q⟩ := h
  unfold mulG at g
  split at g
  · rename_i a n
    split at g
    · rename_i hc
      obtain ⟨c1, c2, c3, c4⟩ := hc
      cases g
      cases h1
      cases h2
      obtain ⟨t, rfl⟩ := rx
      obtain ⟨t2, rfl⟩ := ry
      have hlen : a.length * n.toNat ≤ 16777216 := by
        have h1 : a.length * n.toNat ≤ 256 * n.toNat := Nat.mul_le_mul_right _ (by omega)
        omega
      have n1 : ¬ n < 1 := by omega
      have n2 : (n == 1 || a.length == 0) = false := by
        rw [beq_eq_false_iff_ne.mpr (by omega), beq_eq_false_iff_ne.mpr (by omega)] <;> rfl
      have hl : Builtin.Str.tooLong (a.length * n.toNat) = false := by
        unfold Builtin.Str.tooLong
        exact decide_eq_false (by show ¬ _ > 2 ^ 24; omega)
      refine P.mul_str (by rw [decide_eq_false (by omega), decide_eq_false (by omega)] <;> rfl) (fun _ _ => ?_) (fun _ _ => hl) ?_
      · have : (a.length : Int) ≤ (2 ^ 63 - 1) / n := Int.le_ediv_of_mul_le (by omega) (by
          have h2 : (a.length : Int) * n ≤ 256 * n := Int.mul_le_mul_of_nonneg_right (by omega) (by omega)
          omega)
        omega
      · rw [if_neg n1, n2, if_neg Bool.false_ne_true]
        refine ⟨?_, ⟨.str (repS a n.toNat), H, I.tok _, ⟨_, rfl⟩, q ι F H _ Le.refl r rfl⟩⟩
        show _ ≤ _
        have := repS_len a n.toNat
        rw [Nat.mul_comm] at this
        unfold repS at this
        rw [this]
        exact hlen
    · cases g
  · exact o_mul pins s σ H x y v u Q I rx ry ⟨ι, F, M, d, e, z, M', r, h1, h2, g, q⟩
end
theorem v_mulGi {x : D} {i : Int} {M : Mem} : mulG (.int i) x M = mulD (.int i) x M := by unfold mulG; rfl
end LD
namespace LD
open PySem PySem.Spec PyProof.Rows L2
open PySem.SeqAt (EqIn EqAt)
/-! ### list.remove of what lists, tuples and dicts hold -/
section
open PySem.AutoSeq1 (wpAny_loadPart')
open PySem.SeqAt PySem.MeetsSeq PySem.MeetsSeq2 PySem.MeetsSeq3 PySem.SeqRoads2
variable {pr : Program} {wo : World}
theorem rm_loop (pl : Addr) (us : Array Value) (nu : Nat) (du : Option Addr) (su : Array (Option Value)) (x : Value) (f : Nat → Bool) (j : Nat) (hj : j < us.size) (hit : f j = true) (hz : us.size ≤ sizeLine) : ∀ (m i : Nat), j - i = m → i ≤ j → (∀ k, i ≤ k → k < j → f k = false) →
    MeetsIn pr wo (Builtin.«list.remove.loop» ⟨[.ref pl, x, rawInt i], []⟩) (fun B R c => c.heap.get? pl = some { cls := .type "list", dict := du, data := .seq us nu, slots := su } ∧ (∀ k (p : k < us.size), k ≤ j → EqIn pr wo B.in1 c us[k] x (f k)) ∧
      R (.ok (.ret .none)) { c with heap := c.heap.update pl (Obj.mapSeq fun ys => ys.eraseIdxIfInBounds j) })
  | 0, i, hm, hi, hno => by
    intro B R c hc
    obtain ⟨c1, c2, c3, c4, c5⟩ := c
    obtain ⟨q1, q2, q3⟩ := hc
    have hij : i = j := by omega
    subst hij
    have z1 : us[((i : Nat) : Int).toNat]? = some us[i] := by simp [hj]
    wp_walk using wpAny_loadPart' q1
    rw [z1]
    refine wpAny_bind (q2 i hj (Nat.le_refl _) _ _ ?_)
    rw [hit]
    have z2 : (us.eraseIdxIfInBounds i).size ≤ sizeLine + 1 := Nat.le_trans (size_erased us _) (Nat.le_succ_of_le hz)
    wp_walk using (wpAny_updateSeq q1 rfl (hz := hz) (_hz' := z2)), wpAny_loadPart' q1
    simpa using q3
  | m + 1, i, hm, hi, hno => by
    intro B R c hc
    obtain ⟨c1, c2, c3, c4, c5⟩ := c
    obtain ⟨q1, q2, q3⟩ := hc
    have l1 : i < us.size := by omega
    have z1 : us[((i : Nat) : Int).toNat]? = some us[i] := by simp [l1]
    have z4 : ((i : Int) + 1) = ((i + 1 : Nat) : Int) := by omega
    wp_walk using wpAny_loadPart' q1
    rw [z1]
    refine wpAny_bind (q2 i l1 hi _ _ ?_)
    rw [hno i (Nat.le_refl _) (by omega)]
    wp_walk
    rw [z4]
    exact ⟨plainId_quiet plain_remove_loop _, codeAny_builtin entry_remove_loop (by
      rw [Around.under_plainId plain_remove_loop _]
      exact rm_loop pl us nu du su x f j hj hit hz m (i + 1) (by omega) (by omega) (fun k h1 h2 => hno k (by omega) h2) B R _ ⟨q1, q2, q3⟩)⟩
theorem rm_in (pl : Addr) (us : Array Value) (nu : Nat) (du : Option Addr) (su : Array (Option Value)) (x : Value) (f : Nat → Bool) (j : Nat) (hj : j < us.size) (hit : f j = true) (hz : us.size ≤ sizeLine) (hno : ∀ k, k < j → f k = false) :
    MeetsIn pr wo (Builtin.«list.remove» ⟨[.ref pl, x], []⟩) (fun B R c => c.heap.get? pl = some { cls := .type "list", dict := du, data := .seq us nu, slots := su } ∧ (∀ k (p : k < us.size), k ≤ j → EqIn pr wo B.in1 c us[k] x (f k)) ∧
      R (.ok (.ret .none)) { c with heap := c.heap.update pl (Obj.mapSeq fun ys => ys.eraseIdxIfInBounds j) }) := by
  intro B R c hc
  obtain ⟨c1, c2, c3, c4, c5⟩ := c
  obtain ⟨q1, q2, q3⟩ := hc
  wp_walk using wpAny_loadPart' q1
  exact ⟨plainId_quiet plain_remove_loop _, codeAny_builtin entry_remove_loop (by
    rw [Around.under_plainId plain_remove_loop _]
    exact rm_loop pl us nu du su x f j hj hit hz _ 0 rfl (Nat.zero_le _) (fun k _ h2 => hno k h2) B R _ ⟨q1, q2, q3⟩)⟩
end
def findE (f : D → Option Bool) : List D → Option Nat
  | [] => none
  | x :: xs => match f x with
    | some true => some 0
    | some false => (findE f xs).map (· + 1)
    | none => none
theorem findE_at {f : D → Option Bool} : ∀ {xs : List D} {j : Nat}, findE f xs = some j → (∃ x, xs[j]? = some x ∧ f x = some true) ∧ ∀ k, k < j → ∃ x, xs[k]? = some x ∧ f x = some false
  | [], _, e => by cases e
  | x :: xs, j, e => by
    unfold findE at e
    split at e
    · rename_i h
      cases e
      exact ⟨⟨x, rfl, h⟩, fun k hk => by omega⟩
    · rename_i h
      obtain ⟨i, h1, rfl⟩ := Option.map_eq_some_iff.mp e
      obtain ⟨h2, h3⟩ := findE_at h1
      refine ⟨h2, fun k hk => ?_⟩
      cases k with
      | zero => exact ⟨x, rfl, h⟩
      | succ k => exact h3 k (by omega)
    · cases e
def remG : OMt := fun x ds M => match x, ds with
  | .ref i, [d] => match M[i]? with
    | some (.lst xs) => (findE (fun y => eqH 12 M y d) xs).map fun j => (.non, M.set i (.lst (xs.eraseIdx j)))
    | _ => none
  | _, _ => none
section
variable {X : Cx} {T : Tab} {W : WX} {ι : List Addr} {F : Hp} {rs : List (Addr × HO)} {o e : Expr} {φ : Sem1 D} {α : Sem1 (List D)} {apos pos : Pos}
theorem repL_erase : ∀ {xs : List D} {vs : List V} (j : Nat), RepL (kx X T) ι F xs vs → RepL (kx X T) ι F (xs.eraseIdx j) (vs.eraseIdx j)
  | [], _, j, h => by
    have h : _ = [] := h
    subst h
    rw [List.eraseIdx_nil, List.eraseIdx_nil]
    rfl
  | y :: ys, vs, 0, h => by
    obtain ⟨v, r, rfl, h1, h2⟩ := h
    exact h2
  | y :: ys, vs, j + 1, h => by
    obtain ⟨v, r, rfl, h1, h2⟩ := h
    exact ⟨v, r.eraseIdx j, rfl, h1, repL_erase j h2⟩
theorem vals_at : ∀ {vs : List V} {us : List Value} {k : Nat} {v : V}, Vals vs us → vs[k]? = some v → ∃ u, us[k]? = some u ∧ RelV v u
  | [], _, k, _, _, e => by cases e
  | y :: ys, _, 0, v, .cons h1 h2, e => by cases e; exact ⟨_, rfl, h1⟩
  | y :: ys, _, k + 1, v, .cons h1 h2, e => by
    obtain ⟨u, e1, e2⟩ := vals_at (vs := ys) (k := k) h2 (by simpa using e)
    exact ⟨u, by simpa using e1, e2⟩
theorem m_remove (hu : X.A.units + 64 < cLine) : MtR X "list.remove" (RM (kx X T) rs remG) := fun pins s σ H x xs v us Q I rx rxs h => by
  obtain ⟨ι, F, M, d, ds, z, M', r, rd, rds, e, q⟩ := h
  unfold remG at e
  split at e
  · rename_i i y
    obtain ⟨a, rfl, hi⟩ := rd
    obtain ⟨w, rfl, hw⟩ := one_of rds
    split at e
    · rename_i ys hM
      obtain ⟨j, hj, ez⟩ := Option.map_eq_some_iff.mp e
      cases ez
      obtain ⟨f0, vs, h2, h3⟩ := r.obj i _ a hM hi rfl
      cases rx
      obtain ⟨u, rfl, ru⟩ := rxs.one
      obtain ⟨z, its, n, rv, hl, eo⟩ := I.lstM h2
      obtain ⟨⟨xj, hxj, fxj⟩, hlow⟩ := findE_at hj
      obtain ⟨vj, hvj, _⟩ := RepL.get h3 hxj
      obtain ⟨uj, huj, _⟩ := vals_at rv hvj
      have hjs : j < its.toArray.size := by
        rw [List.size_toArray]
        exact (List.getElem?_eq_some_iff.mp huj).1
      have hin : X.A.in1.units + 12 < cLine := by
        have : X.A.in1.units ≤ X.A.units + 1 := by simp [Around.in1]
        omega
      have hf : ∀ k (p : k < its.toArray.size), k ≤ j → EqIn X.prog X.w X.A.in1 s its.toArray[k] u (decide (k = j)) := fun k p hk => by
        have key : ∃ xk, ys[k]? = some xk ∧ eqH 12 M xk y = some (decide (k = j)) := by
          by_cases hkj : k = j
          · subst hkj
            rw [decide_eq_true rfl]
            exact ⟨xj, hxj, fxj⟩
          · rw [decide_eq_false hkj]
            exact hlow k (by omega)
        obtain ⟨xk, hk1, hk2⟩ := key
        obtain ⟨vk, hk3, hk4⟩ := RepL.get h3 hk1
        obtain ⟨uk, hk5, hk6⟩ := vals_at rv hk3
        obtain ⟨hk7, hk8⟩ := List.getElem?_eq_some_iff.mp hk5
        have e1 : its.toArray[k] = uk := by simpa using hk8
        rw [e1]
        exact eqH_at I r 12 X.A.in1 hin xk y vk w uk u _ hk2 hk4 hw hk6 ru
      refine call_meetsIn PySem.F.slot_list_remove ⟨_, eo, rfl⟩ PySem.F.entry_list_remove (PySem.F.args_list_remove_2 _ _) (rm_in a its.toArray n _ _ u (fun k => decide (k = j)) j hjs (decide_eq_true rfl) (by rw [List.size_toArray]; omega) (fun k hk => decide_eq_false (by omega))) ⟨eo, hf, ?_⟩
      refine ⟨.non, _, I.lset (its' := its.eraseIdx j) h2 eo ?_ (rv.eraseIdx j) ?_, rfl, q ι F _ _ Le.refl (r.write hM hi rfl ⟨_, upd_same, repL_erase j h3⟩) rfl⟩
      · simp [Array.eraseIdxIfInBounds, List.eraseIdx_toArray]
        intro hh
        rw [List.eraseIdx_of_length_le hh]
      · rw [List.length_eraseIdx]
        split <;> omega
    · cases e
  · cases e
theorem Remove (hu : X.A.units + 64 < cLine) (ho : KE X T W o φ) (ha : KA X T W [e] α) (h1 : isSup o = false := by rfl) (hfew : ((backTo pos (starEach [e] X.env)).all (fun x => !x.1) && (backToKw pos (keywordEach [] X.env)).all (fun x => x.1.isSome)
      && decide (([e] : List Expr).length + ([] : List Keyword).length + (if ([] : List Keyword).isEmpty then 0 else 1) < 30)) = true := by rfl) (hline : (apos.endLine == pos.line) = true := by rfl) (h2 : [e].any isStar = false := by rfl) :
    KE X T W (.Call (.Attribute o "remove" apos) [e] [] pos) (eBm isLst remG φ α) := d_bm PySem.F.plainAttrs_list PySem.F.slot_list_remove PySem.F.type_list_remove (fun _ => m_remove hu) (fun r h e => ty_lst r h e) ho ha h1 hfew hline h2
end
end LD
namespace LD
open PySem PySem.Spec PyProof.Rows L2
/-! ### enumerate, reversed(range(..)), list.index -/
def enL (k : Nat) : List D → List D
  | [] => []
  | x :: xs => .tup [.int (k : Int), x] :: enL (k + 1) xs
theorem enL_len : ∀ (xs : List D) (k : Nat), (enL k xs).length = xs.length
  | [], _ => rfl
  | x :: xs, k => by rw [enL, List.length_cons, List.length_cons, enL_len xs]
theorem enL_at : ∀ {xs : List D} {k i : Nat} {d : D}, (enL k xs)[i]? = some d → ∃ e, xs[i]? = some e ∧ d = .tup [.int ((k + i : Nat) : Int), e]
  | [], _, _, _, h => by cases h
  | x :: xs, k, 0, d, h => by
    cases h
    exact ⟨x, rfl, rfl⟩
  | x :: xs, k, i + 1, d, h => by
    have h : (enL (k + 1) xs)[i]? = some d := h
    obtain ⟨e, h1, h2⟩ := enL_at h
    exact ⟨e, h1, by rw [h2, Nat.add_assoc, Nat.add_comm 1 i]⟩
def iEnN (α : Sem1 (List D)) : Sem1 Src := fun s M => (α s M).bind fun xs M1 => match xs with
  | [.lst ys] => .ok ⟨enL 0 ys, fun _ => true⟩ M1
  | [.ref i] => match M1[i]? with
    | some (.lst ys) => .ok ⟨enL 0 ys, mutChk i ys⟩ M1
    | _ => .bad
  | _ => .bad
def iRevN (φ : Sem1 D) : Sem1 Src := fun s M => (φ s M).bind fun x M1 => match x with
  | .int n => if mid n then .ok ⟨rangeL ((0 : Int) + (((n - 0).toNat : Nat) : Int) - 1) (n - 0).toNat (-1), fun _ => true⟩ M1 else .bad
  | _ => .bad
def idxD (z : D) : List D → Option Nat
  | [] => none
  | y :: ys => if eqF y z then some 0 else (idxD z ys).map (· + 1)
def idxG : OMt := fun x ds M => match ds with
  | [d] => (lsOf M x).bind fun ys => if isF d && ys.all isF then (idxD d ys).map fun j => (.int (j : Nat), M) else none
  | _ => none
theorem idxD_at {z : D} : ∀ {ys : List D} {j : Nat}, idxD z ys = some j → (∃ y, ys[j]? = some y ∧ eqF y z = true) ∧ ∀ m y, m < j → ys[m]? = some y → eqF y z = false
  | [], _, h => by cases h
  | y :: ys, j, h => by
    unfold idxD at h
    split at h
    · rename_i e
      cases h
      exact ⟨⟨y, rfl, e⟩, fun m y' hm => by omega⟩
    · rename_i e
      obtain ⟨k, h1, rfl⟩ := Option.map_eq_some_iff.mp h
      obtain ⟨h2, h3⟩ := idxD_at h1
      refine ⟨h2, fun m y' hm hy => ?_⟩
      cases m with
      | zero => cases hy; exact Bool.eq_false_iff.mpr e
      | succ m => exact h3 m y' (by omega) hy
section
variable {X : Cx} {T : Tab} {W : WX} {tg a e o : Expr} {α : Sem1 (List D)} {φ : Sem1 D} {pos p apos tpos p2 : Pos} {K : KX} {ι : List Addr} {F H : Hp} {M : Mem} {rs : List (Addr × HO)} {elts : List Expr} {kk : Nat}
theorem walk_enL {a : Addr} {xs : List D} : WalkD K (Ite K.fr a) ⟨enL 0 xs, fun _ => true⟩ (fun ι F => Rep K ι F (.lst xs) (.ref a)) where
  mono := fun l h => l _ _ h
  go := fun {ι F rs H M i} _ h r _ hi => by
    obtain ⟨a', vs, e, s1, l1⟩ := h
    cases e
    have hl : i < vs.length := by rw [RepL.length l1]; rw [enL_len] at hi; exact hi
    exact ⟨vs, vs[i], sql_sub r s1, List.getElem?_eq_getElem hl⟩
  stop := fun {ι F rs H M} _ h r _ => by
    obtain ⟨a', vs, e, s1, l1⟩ := h
    cases e
    refine ⟨vs, sql_sub r s1, ?_⟩
    show vs.length ≤ (enL 0 xs).length
    rw [enL_len, RepL.length l1]
    exact Nat.le_refl _
  yld := fun {ι F rs H M i d x H'} _ h r _ e y => by
    obtain ⟨a', vs, e1, s1, l1⟩ := h
    cases e1
    obtain ⟨q, w, rfl, hq, rfl, hy⟩ := y
    obtain ⟨d', hd, rfl⟩ := enL_at e
    obtain ⟨v, h1, h2⟩ := RepL.get l1 hd
    have q2 := hy vs (sql_sub r s1)
    rw [h1] at q2
    cases q2
    rw [Nat.zero_add]
    have l := Le.new (K := K) (ι := ι) (o := .tup [.int (i : Nat), w]) (r.free hq)
    exact ⟨ι, upd F q (.tup [.int (i : Nat), w]), l, r.frozen hq, ⟨q, _, rfl, .inl (.inl upd_same), RepL.le l ⟨_, _, rfl, rfl, RepL.one h2⟩⟩⟩
theorem walk_enM {a : Addr} {i : Nat} {xs : List D} : WalkD K (Ite K.fr a) ⟨enL 0 xs, mutChk i xs⟩ (fun ι F => Rep K ι F (.ref i) (.ref a)) where
  mono := fun l h => l _ _ h
  go := fun {ι F rs H M j} _ h r c hi => by
    obtain ⟨a', e, q⟩ := h
    cases e
    obtain ⟨_, vs, h2, h3⟩ := r.obj i _ a (mutChk_at c) q rfl
    have hl : j < vs.length := by rw [RepL.length h3]; rw [enL_len] at hi; exact hi
    exact ⟨vs, vs[j], .inl (.inl h2), List.getElem?_eq_getElem hl⟩
  stop := fun {ι F rs H M} _ h r c => by
    obtain ⟨a', e, q⟩ := h
    cases e
    obtain ⟨_, vs, h2, h3⟩ := r.obj i _ a (mutChk_at c) q rfl
    refine ⟨vs, .inl (.inl h2), ?_⟩
    show vs.length ≤ (enL 0 xs).length
    rw [enL_len, RepL.length h3]
    exact Nat.le_refl _
  yld := fun {ι F rs H M j d x H'} _ h r c e y => by
    obtain ⟨a', e1, q⟩ := h
    cases e1
    obtain ⟨_, vs, h2, h3⟩ := r.obj i _ a (mutChk_at c) q rfl
    obtain ⟨q', w, rfl, hq, rfl, hy⟩ := y
    obtain ⟨d', hd, rfl⟩ := enL_at e
    obtain ⟨v, h4, h5⟩ := RepL.get h3 hd
    have q2 := hy vs (.inl (.inl h2))
    rw [h4] at q2
    cases q2
    rw [Nat.zero_add]
    have l := Le.new (K := K) (ι := ι) (o := .tup [.int (j : Nat), w]) (r.free hq)
    exact ⟨ι, upd F q' (.tup [.int (j : Nat), w]), l, r.frozen hq, ⟨q', _, rfl, .inl (.inl upd_same), RepL.le l ⟨_, _, rfl, rfl, RepL.one h5⟩⟩⟩
theorem walk_rangeC {lo c : Int} {n : Nat} : WalkD K (Itc lo c n) ⟨rangeL lo n c, fun _ => true⟩ (fun _ _ => True) where
  mono := fun _ _ => trivial
  go := fun {ι F rs H M i} _ _ _ _ hi => by
    unfold rangeL at hi
    rw [List.length_map, List.length_range] at hi
    exact hi
  stop := fun {ι F rs H M} _ _ _ _ => by
    show n ≤ (rangeL lo n c).length
    unfold rangeL
    rw [List.length_map, List.length_range]
    exact Nat.le_refl _
  yld := fun {ι F rs H M i d v H'} _ _ r _ e y => by
    obtain ⟨rfl, rfl⟩ := y
    refine ⟨ι, F, Le.refl, r, ?_⟩
    have e : (rangeL lo n c)[i]? = some d := e
    unfold rangeL at e
    rw [List.getElem?_map] at e
    obtain ⟨j, h1, h2⟩ := Option.map_eq_some_iff.mp e
    have hj : j = i := by
      obtain ⟨h3, h4⟩ := List.getElem?_eq_some_iff.mp h1
      rw [← h4, List.getElem_range]
    subst hj
    rw [← h2]
    rfl
theorem ki_enum (hg : Gl X "enumerate") (hm : X.mg "enumerate" = none) (ha : KA X T W [a] α) (hs : isStar a = false) : KI X T W (.Tuple elts kk tpos) (.Call (.Name "enumerate" p) [a] [] pos) (iEnN α) := ⟨fun rs => PI.imp (pi_enum hg hm (ha.pa rs) (by rw [star_cons hs]; rfl)) fun σ H Q h => by
  obtain ⟨ι, F, st, M, r, rS, p⟩ := h
  refine ⟨ι, F, st, M, r, rS, p.stepE fun vs H1 ι1 F1 M1 ds e l1 r1 rv p1 => ?_⟩
  split at p1
  · rename_i ys
    obtain ⟨v, rfl, h1⟩ := one_of rv
    obtain ⟨b, ws, rfl, s1, ll⟩ := id h1
    exact ⟨b, ws, rfl, sql_sub r1 s1, p1.fin r1 (repI.mk walk_enL h1)⟩
  · rename_i i
    split at p1
    · rename_i ys hM
      obtain ⟨v, rfl, h1⟩ := one_of rv
      obtain ⟨b, rfl, hi⟩ := id h1
      obtain ⟨_, ws, h2, h3⟩ := r1.obj i _ b hM hi rfl
      exact ⟨b, ws, rfl, .inl (.inl h2), p1.fin r1 (repI.mk walk_enM h1)⟩
    · exact p1.elim
  · exact p1.elim⟩
theorem ki_revN (hg : Gl X "reversed") (hm : X.mg "reversed" = none) (hg2 : Gl X "range") (hm2 : X.mg "range" = none) (ha : KE X T W a φ) (hs : isStar a = false) (hs2 : isStar (.Call (.Name "range" p2) [a] [] tpos) = false) : KI X T W tg (.Call (.Name "reversed" p) [.Call (.Name "range" p2) [a] [] tpos] [] pos) (iRevN φ) := ⟨fun rs => PI.imp (pi_revR hg hm (prg_1 hg2 hm2 (ha rs) (by rw [star_cons hs])) (by rw [star_cons hs2])) fun σ H Q h => by
  obtain ⟨ι, F, st, M, r, rS, p⟩ := h
  refine ⟨ι, F, st, M, r, rS, p.step fun v H1 ι1 F1 M1 x l1 r1 rv p1 => ?_⟩
  split at p1
  · rename_i n
    split at p1
    · rename_i hn
      cases rv
      have h1 := mid_iff.mp hn
      exact ⟨n, rfl, by decide, by decide, h1.1, h1.2, p1.fin r1 (repI.mk walk_rangeC trivial)⟩
    · exact p1.elim
  · exact p1.elim⟩
theorem m_index : MtR X "list.index" (RM (kx X T) rs idxG) := fun pins s σ H x xs v us Q I rx rxs h => by
  refine mt_index pins s σ H x xs v us Q I rx rxs ?_
  obtain ⟨ι, F, M, d, ds, z, M', r, rd, rds, e, q⟩ := h
  unfold idxG at e
  split at e
  · rename_i y
    obtain ⟨w, rfl, hw⟩ := one_of rds
    obtain ⟨ys, e1, e⟩ := Option.bind_eq_some_iff.mp e
    split at e
    · rename_i hf
      rw [Bool.and_eq_true] at hf
      obtain ⟨j, e2, e3⟩ := Option.map_eq_some_iff.mp e
      cases e3
      obtain ⟨b, ws, rfl, s1, l1⟩ := lsOf_at r e1 rd
      obtain ⟨⟨y0, hy0, ey0⟩, hlow⟩ := idxD_at e2
      obtain ⟨v0, hv0, rv0⟩ := RepL.get l1 hy0
      have fl : ∀ {k : Nat} {u : V}, ws[k]? = some u → ∃ dd, ys[k]? = some dd ∧ isF dd = true ∧ Rep (kx X T) ι F dd u := fun {k u} hk => by
        have hkl : k < ys.length := by rw [← RepL.length l1]; exact (List.getElem?_eq_some_iff.mp hk).1
        obtain ⟨u', hu', ru'⟩ := RepL.get l1 (List.getElem?_eq_getElem hkl)
        rw [hk] at hu'
        cases hu'
        exact ⟨_, List.getElem?_eq_getElem hkl, List.all_eq_true.mp hf.2 _ (List.getElem_mem hkl), ru'⟩
      refine ⟨b, ws, w, j, v0, rfl, rfl, s1, (rep_flat hf.1 hw).1, List.all_eq_true.mpr fun u hu => ?_, hv0, ?_, fun m z' hm hz => ?_, q ι F H _ Le.refl r rfl⟩
      · obtain ⟨k, hk⟩ := List.getElem?_of_mem hu
        obtain ⟨dd, _, h2, h3⟩ := fl hk
        exact (rep_flat h2 h3).1
      · obtain ⟨dd, h1, h2, h3⟩ := fl hv0
        rw [hy0] at h1
        cases h1
        rw [(rep_flat h2 h3).2 hf.1 hw]
        exact ey0
      · obtain ⟨dd, h1, h2, h3⟩ := fl hz
        rw [(rep_flat h2 h3).2 hf.1 hw]
        exact hlow m dd hm h1
    · cases e
  · cases e
theorem Index (ho : KE X T W o φ) (ha : KA X T W [e] α) (h1 : isSup o = false := by rfl) (hfew : ((backTo pos (starEach [e] X.env)).all (fun x => !x.1) && (backToKw pos (keywordEach [] X.env)).all (fun x => x.1.isSome)
      && decide (([e] : List Expr).length + ([] : List Keyword).length + (if ([] : List Keyword).isEmpty then 0 else 1) < 30)) = true := by rfl) (hline : (apos.endLine == pos.line) = true := by rfl) (h2 : [e].any isStar = false := by rfl) :
    KE X T W (.Call (.Attribute o "index" apos) [e] [] pos) (eBm isLst idxG φ α) := d_bm PySem.F.plainAttrs_list PySem.F.slot_list_index PySem.F.type_list_index (fun _ => m_index) (fun r h e => ty_lst r h e) ho ha h1 hfew hline h2
end
/-! ### < of lists of ints -/
open PySem.SeqAt (EqAt RcLt firstLt firstLt_yes firstLt_no)
theorem first_lex {ns ms : List Int} : ∀ (m k : Nat), min ns.length ms.length - k = m → k ≤ min ns.length ms.length → firstLt (fun j => ns.getD j 0 == ms.getD j 0) (fun j => decide (ns.getD j 0 < ms.getD j 0)) (decide (ns.length < ms.length)) ((List.range (min ns.length ms.length)).drop k) = HT.lexLt (ns.drop k) (ms.drop k)
  | 0, k, hm, hk => by
    have e : (List.range (min ns.length ms.length)).drop k = [] := by simp; omega
    rw [e]
    show decide (ns.length < ms.length) = _
    by_cases h : ns.length ≤ ms.length
    · have e1 : ns.drop k = [] := List.drop_eq_nil_of_le (by omega)
      rw [e1]
      cases h2 : ms.drop k with
      | nil =>
        have := congrArg List.length h2
        rw [List.length_drop, List.length_nil] at this
        exact decide_eq_false (by omega)
      | cons a r =>
        have := congrArg List.length h2
        rw [List.length_drop, List.length_cons] at this
        exact decide_eq_true (by omega)
    · have e1 : ms.drop k = [] := List.drop_eq_nil_of_le (by omega)
      rw [e1]
      cases h2 : ns.drop k with
      | nil =>
        have := congrArg List.length h2
        rw [List.length_drop, List.length_nil] at this
        omega
      | cons a r => exact decide_eq_false (by omega)
  | m + 1, k, hm, hk => by
    have h1 : k < ns.length := by omega
    have h2 : k < ms.length := by omega
    have e : (List.range (min ns.length ms.length)).drop k = k :: (List.range (min ns.length ms.length)).drop (k + 1) := by
      rw [List.drop_eq_getElem_cons (by rw [List.length_range]; omega), List.getElem_range]
    have g1 : ns.getD k 0 = ns[k] := by rw [List.getD_eq_getElem?_getD, List.getElem?_eq_getElem h1] <;> rfl
    have g2 : ms.getD k 0 = ms[k] := by rw [List.getD_eq_getElem?_getD, List.getElem?_eq_getElem h2] <;> rfl
    rw [e, List.drop_eq_getElem_cons h1, List.drop_eq_getElem_cons h2, HT.lexLt_cons]
    by_cases hq : ns[k] = ms[k]
    · rw [if_pos hq, ← first_lex m (k + 1) (by omega) (by omega)]
      exact firstLt_yes (by rw [g1, g2]; exact beq_iff_eq.mpr hq)
    · rw [if_neg hq]
      refine (firstLt_no (by rw [g1, g2]; exact beq_eq_false_iff_ne.mpr hq)).trans ?_
      rw [g1, g2]
def ltG : Mem → D → D → Option Bool := fun M x y => match lsOf M x, lsOf M y with
  | some xs, some ys => (intsOf xs).bind fun ns => (intsOf ys).map fun ms => HT.lexLt ns ms
  | _, _ => ltB M x y
section
variable {X : Cx} {T : Tab} {rs : List (Addr × HO)}
theorem o_ltG (hu : X.A.units + 64 < cLine) : OpR X (compareOp .Lt) (RO2 (kx X T) rs (boD ltG)) := fun pins s σ H x y v u Q I rx ry h => by
  obtain ⟨ι, F, M, d, e, z, M', r, h1, h2, g, q⟩ := h
  unfold boD at g
  obtain ⟨k, g1, g2⟩ := Option.map_eq_some_iff.mp g
  cases g2
  unfold ltG at g1
  split at g1
  · rename_i xs ys e1 e2
    obtain ⟨ns, e3, g1⟩ := Option.bind_eq_some_iff.mp g1
    obtain ⟨ms, e4, rfl⟩ := Option.map_eq_some_iff.mp g1
    obtain ⟨a, vs, rfl, s1, l1⟩ := lsOf_at r e1 h1
    obtain ⟨b, ws, rfl, s2, l2⟩ := lsOf_at r e2 h2
    have z1 := intsOf_rep e3 l1
    have z2 := intsOf_rep e4 l2
    subst z1 z2
    cases rx; cases ry
    obtain ⟨us, r1, p1, _⟩ := I.list s1
    obtain ⟨us', r2, p2, _⟩ := I.list s2
    have i1 : IntsAre us.toArray.toList ns := intsAre_of r1
    have i2 : IntsAre us'.toArray.toList ms := intsAre_of r2
    have n1 : us.toArray.size = ns.length := by rw [← Array.length_toList]; exact i1.length
    have n2 : us'.toArray.size = ms.length := by rw [← Array.length_toList]; exact i2.length
    have item : ∀ j (a1 : j < us.toArray.size) (a2 : j < us'.toArray.size), ∃ t t', us.toArray[j] = .int (ns.getD j 0) t ∧ us'.toArray[j] = .int (ms.getD j 0) t' := fun j a1 a2 => by
      obtain ⟨t, q1⟩ := i1.get j (ns.getD j 0) (by rw [List.getD_eq_getElem?_getD, List.getElem?_eq_getElem (by omega)] <;> rfl)
      obtain ⟨t', q2⟩ := i2.get j (ms.getD j 0) (by rw [List.getD_eq_getElem?_getD, List.getElem?_eq_getElem (by omega)] <;> rfl)
      obtain ⟨_, q3⟩ := List.getElem?_eq_some_iff.mp q1
      obtain ⟨_, q4⟩ := List.getElem?_eq_some_iff.mp q2
      exact ⟨t, t', by simpa using q3, by simpa using q4⟩
    have z := RcLt.lists (A := X.A) (s := s) (e := fun j => ns.getD j 0 == ms.getD j 0) (r := fun j => decide (ns.getD j 0 < ms.getD j 0)) p1.isList p2.isList (by omega) (fun j a1 a2 => by
      obtain ⟨t, t', q1, q2⟩ := item j a1 a2
      rw [q1, q2]
      exact PySem.W.keq_flat (PyProof.V.Flat.int _ t) (PyProof.V.Flat.int _ t')) (fun j a1 a2 _ => by
      obtain ⟨t, t', q1, q2⟩ := item j a1 a2
      rw [q1, q2]
      exact fun prog w E Q h => lt_int h)
    rw [n1, n2] at z
    have e0 := first_lex (ns := ns) (ms := ms) _ 0 rfl (Nat.zero_le _)
    rw [List.drop_zero, List.drop_zero, List.drop_zero] at e0
    rw [e0] at z
    exact z X.prog X.w _ _ ⟨.bl _, H, I, rfl, q ι F H _ Le.refl r rfl⟩
  · exact o_lt (by omega) pins s σ H x y v u Q I rx ry ⟨ι, F, M, d, e, .bl k, M, r, h1, h2, by unfold boD; rw [g1] <;> rfl, q⟩
end
/-! ### products of wider numbers -/
def wid (i : Int) : Bool := Nat.ble (i.natAbs + 1) 340282366920938463463374607431768211456
theorem wid_iff {i : Int} : wid i = true ↔ i.natAbs < 2 ^ 128 := by
  unfold wid
  rw [Nat.ble_eq]
  exact Iff.rfl
def mulH : O2 := intD (fun i j => wid i && wid j) (· * ·)
theorem o_mulH {X : Cx} {T : Tab} {rs : List (Addr × HO)} : OpR X (binaryOp .Mult) (RO2 (kx X T) rs mulH) := OpR.imp op_mulX fun x y H Q h => by
  obtain ⟨i, j, e1, e2, hc, q⟩ := h.int
  rw [Bool.and_eq_true, wid_iff, wid_iff] at hc
  exact ⟨i, j, e1, e2, mulx_ok hc.1 hc.2 (by decide), q⟩
theorem v_mulH {i j : Int} {M : Mem} (h1 : i.natAbs < 2 ^ 128) (h2 : j.natAbs < 2 ^ 128) : mulH (.int i) (.int j) M = some (.int (i * j), M) := if_pos (by rw [Bool.and_eq_true, wid_iff, wid_iff]; exact ⟨h1, h2⟩)
/-! ### a < b < c as a test -/
def tCh (g g' : O2) (a b c : Sem1 D) : Sem1 Bool := fun s M => (a s M).bind fun x M1 => (b s M1).bind fun y M2 => (ofO (g x y M2)).bind fun z M3 => match z with
  | .bl true => (c s M3).bind fun w M4 => (ofO (g' y w M4)).bind fun z2 M5 => match z2 with
    | .bl k => .ok k M5
    | _ => .bad
  | .bl false => .ok false M3
  | _ => .bad
theorem t_chain {X : Cx} {T : Tab} {W : WX} {a b c : Expr} {φ ψ χ : Sem1 D} {pos : Pos} {op op' : CmpOp} {g g' : O2} (ho : ∀ rs, OpR X (compareOp op) (RO2 (kx X T) rs g)) (ho' : ∀ rs, OpR X (compareOp op') (RO2 (kx X T) rs g')) (ha : KE X T W a φ) (hb : KE X T W b ψ) (hc : KE X T W c χ) (hm : lastMarks [op, op'] [b, c] = false) :
    KT X T W (.Compare a [op, op'] [b, c] pos) (tCh g g' φ ψ χ) := fun rs => PT.imp (pt_chain (ho rs) (ho' rs) (ha rs) (hb rs) (hc rs) hm) fun σ H Q h => by
  obtain ⟨ι, F, s, M, r, rS, p⟩ := h
  refine ⟨ι, F, s, M, r, rS, p.step fun v H1 ι1 F1 M1 x l1 r1 rv p1 => ?_⟩
  refine ⟨ι1, F1, s, M1, r1, rS.le l1, p1.step fun w H2 ι2 F2 M2 y l2 r2 rw2 p2 => ?_⟩
  refine ro2 (σ := σ) (W' := fun c d => W c d σ) (g := g) (M := M2) r2 (l2 _ _ rv) rw2 (p2.step fun u H3 ι3 F3 M3 z l3 r3 ru p3 => ?_)
  cases z with
  | bl k =>
    refine ⟨k, ru, ?_⟩
    cases k with
    | true =>
      refine iteT ⟨ι3, F3, s, M3, r3, ((rS.le l1).le l2).le l3, p3.step fun u2 H4 ι4 F4 M4 z2 l4 r4 ru2 p4 => ro2 (σ := σ) (W' := fun c d => W c d σ) r4 (l4 _ _ (l3 _ _ rw2)) ru2 (p4.step fun u3 H5 ι5 F5 M5 z3 l5 r5 ru3 p5 => ?_)⟩
      cases z3 with
      | bl k => exact ⟨k, ru3, p5.fin r5 rfl⟩
      | _ => exact p5.elim
    | false => exact iteF ⟨false, rfl, p3.fin r3 rfl⟩
  | _ => exact p3.elim
def blC (z : D) (k : R Bool) (M : Mem) (_ : Tg k) : R Bool := match z with
  | .bl true => k
  | .bl false => .ok false M
  | _ => .bad
theorem q_tCh {g g' : O2} {a b c : Sem1 D} {s : DS} {M : Mem} : tCh g g' a b c s M = bnd (a s M) (fun x M1 => bnd (b s M1) (fun y M2 => bnd (ofO (g x y M2)) (fun z M3 => blC z (bnd (c s M3) (fun w M4 => bnd (ofO (g' y w M4)) (fun z2 M5 => blK z2 (fun k => .ok k M5) .mk) .mk) .mk) M3 .mk) .mk) .mk) .mk := by
  show R.bind (a s M) _ = R.bind (a s M) _
  refine congrArg (R.bind (a s M)) (funext fun x => funext fun M1 => congrArg (R.bind (b s M1)) (funext fun y => funext fun M2 => congrArg (R.bind (ofO (g x y M2))) (funext fun z => funext fun M3 => ?_)))
  cases z with
  | bl k => cases k <;> rfl
  | _ => rfl
theorem blC_t {k : R Bool} {M : Mem} : blC (.bl true) k M .mk = k := rfl
theorem blC_f {k : R Bool} {M : Mem} : blC (.bl false) k M .mk = .ok false M := rfl
end LD
namespace LD
open PySem PySem.Spec PyProof.Rows L2

/-! ### a dict is walked: it is locked meanwhile -/
def unlM (o : Option DO) (i : Nat) (M : Mem) : Option Mem := match o with
  | some (.fdc kvs) => some (M.set i (.dic kvs))
  | _ => none
def lockM (o : Option DO) (i : Nat) (M : Mem) : Option Mem := match o with
  | some (.dic kvs) => some (M.set i (.fdc kvs))
  | _ => none
def nxK (o : Option Mem) (s : DS) : RS := match o with
  | some M => .nx s M
  | none => .bad
def rtK (o : Option Mem) (d : D) : RS := match o with
  | some M => .rt d M
  | none => .bad
def okU (o : Option Mem) (d : D) : R D := match o with
  | some M => .ok d M
  | none => .bad
def unlS (i : Nat) : RS → RS
  | .nx s M => nxK (unlM M[i]? i M) s
  | .rt d M => rtK (unlM M[i]? i M) d
  | .er x s M => .er x s (M.set i .dead)
  | _ => .bad
def unlE (i : Nat) : R D → R D
  | .ok d M => okU (unlM M[i]? i M) d
  | .er x M => .er x (M.set i .dead)
  | .bad => .bad
def lkS (ψ : SSem) (s : DS) (M : Mem) : R D → RS
  | .ok (.ref i) _ => match lockM M[i]? i M with
    | some M1 => unlS i (ψ s M1)
    | none => .bad
  | _ => .bad
def lkE (e : Sem1 D) (s : DS) (M : Mem) : R D → R D
  | .ok (.ref i) _ => match lockM M[i]? i M with
    | some M1 => unlE i (e s M1)
    | none => .bad
  | _ => .bad
/-- φ tells the dict -/
def sLock (φ : Sem1 D) (ψ : SSem) : SSem := fun s M => lkS ψ s M (φ s M)
def eLock (φ : Sem1 D) (e : Sem1 D) : Sem1 D := fun s M => lkE e s M (φ s M)
section
variable {X : Cx} {T : Tab} {W : WX} {K : KX} {ι ι' : List Addr} {F F' H H' : Hp} {M M' : Mem} {rs : List (Addr × HO)} {s : DS} {σ : L2.St}
theorem lockM_at {i : Nat} {M1 : Mem} (h : lockM M[i]? i M = some M1) : ∃ kvs, M[i]? = some (.dic kvs) ∧ M1 = M.set i (.fdc kvs) := by
  unfold lockM at h
  split at h
  · rename_i kvs e; cases h; exact ⟨kvs, e, rfl⟩
  · cases h
theorem unlM_at {i : Nat} {M1 : Mem} (h : unlM M[i]? i M = some M1) : ∃ kvs, M[i]? = some (.fdc kvs) ∧ M1 = M.set i (.dic kvs) := by
  unfold unlM at h
  split at h
  · rename_i kvs e; cases h; exact ⟨kvs, e, rfl⟩
  · cases h
theorem Rel.place (r : Rel K ι F rs H M) {i : Nat} {o : DO} (hM : M[i]? = some o) : ∃ a, ι[i]? = some a := by
  have hl : i < ι.length := by rw [r.len]; exact (List.getElem?_eq_some_iff.mp hM).1
  exact ⟨_, List.getElem?_eq_getElem hl⟩
theorem PS.ex {st : Stmt} {f : List (Addr × HO) → TS} (h : ∀ rs, PS X st (f rs)) : PS X st (fun D σ H => ∃ rs, f rs D σ H) := ⟨fun pins s σ H D I ⟨rs, q⟩ => (h rs).run pins s σ H D I q⟩
theorem e_lock {e : Expr} {φ ψ : Sem1 D} (h : KE X T W e ψ) : KE X T W e (eLock φ ψ) := fun rs => PE.imp (pe_lock (PE.ex (f := fun rs => LE (kx X T) rs W ψ) h)) fun σ H Q q => by
  obtain ⟨ι, F, s, M, r, rS, p⟩ := q
  unfold eLock lkE at p
  split at p
  · rename_i i _ _
    split at p
    · rename_i M1 hl
      obtain ⟨kvs, hM, rfl⟩ := lockM_at hl
      obtain ⟨a, hi⟩ := r.place hM
      obtain ⟨f0, vs, hH, h2, h3⟩ := r.obj i _ a hM hi rfl
      have hp := r.lock_ne hM hi
      refine ⟨a, .dK vs, hH, trivial, fun od => ⟨(a, .frz od (.dK vs)) :: rs, ι, F, s, _, r.lock hM hi hH, rS, ?_⟩⟩
      have at' : ∀ {ι' F'}, Le (kx X T) ι F ι' F' → ι'[i]? = some a := fun l => by
        obtain ⟨b, e1, e2⟩ := l (.ref i) (.ref a) ⟨a, rfl, hi⟩
        cases e1
        exact e2
      cases eb : ψ s (M.set i (.fdc kvs)) with
      | bad => rw [eb] at p; exact p
      | er x M2 =>
        rw [eb] at p
        exact fun ι' F' H' c d l r' rx => p ι' F' H' c d l (r'.unlockX (at' l) hp) rx
      | ok d M2 =>
        rw [eb] at p
        intro ι' F' H' v l r' rv
        refine ⟨(r'.rsv _ List.mem_cons_self).1, ?_⟩
        unfold unlE okU at p
        simp only at p
        cases eu : unlM M2[i]? i M2 with
        | none => rw [eu] at p; exact p.elim
        | some M3 =>
          rw [eu] at p
          obtain ⟨ks, hM2, rfl⟩ := unlM_at eu
          exact p ι' F' _ v l (r'.unlock hM2 (at' l) hp) rv
    · exact p.elim
  · exact p.elim
theorem s_lock {st : Stmt} {φ : Sem1 D} {ψ : SSem} (h : KS X T W st ψ) : KS X T W st (sLock φ ψ) := ⟨fun rs => PS.imp (ps_lock (PS.ex (f := fun rs => LS (kx X T) rs W ψ) h.ps)) fun D σ H q => by
  obtain ⟨ι, F, s, M, r, rS, p⟩ := q
  unfold sLock lkS at p
  split at p
  · rename_i i _ _
    split at p
    · rename_i M1 hl
      obtain ⟨kvs, hM, rfl⟩ := lockM_at hl
      obtain ⟨a, hi⟩ := r.place hM
      obtain ⟨f0, vs, hH, h2, h3⟩ := r.obj i _ a hM hi rfl
      have hp := r.lock_ne hM hi
      refine ⟨a, .dK vs, hH, trivial, fun od => ⟨(a, .frz od (.dK vs)) :: rs, ι, F, s, _, r.lock hM hi hH, rS, ?_⟩⟩
      have at' : ∀ {ι' F'}, Le (kx X T) ι F ι' F' → ι'[i]? = some a := fun l => by
        obtain ⟨b, e1, e2⟩ := l (.ref i) (.ref a) ⟨a, rfl, hi⟩
        cases e1
        exact e2
      cases eb : ψ s (M.set i (.fdc kvs)) with
      | bad => rw [eb] at p; exact p
      | bk s2 M2 => rw [eb] at p; exact p.elim
      | ct s2 M2 => rw [eb] at p; exact p.elim
      | er x s2 M2 =>
        rw [eb] at p
        exact fun ι' F' H' σ' c d l r' rs' rx => p ι' F' H' σ' c d l (r'.unlockX (at' l) hp) rs' rx
      | nx s2 M2 =>
        rw [eb] at p
        intro ι' F' H' σ' l r' rs'
        refine ⟨(r'.rsv _ List.mem_cons_self).1, ?_⟩
        unfold unlS nxK at p
        simp only at p
        cases eu : unlM M2[i]? i M2 with
        | none => rw [eu] at p; exact p.elim
        | some M3 =>
          rw [eu] at p
          obtain ⟨ks, hM2, rfl⟩ := unlM_at eu
          exact p ι' F' _ σ' l (r'.unlock hM2 (at' l) hp) rs'
      | rt d M2 =>
        rw [eb] at p
        intro ι' F' H' v l r' rv
        refine ⟨(r'.rsv _ List.mem_cons_self).1, ?_⟩
        unfold unlS rtK at p
        simp only at p
        cases eu : unlM M2[i]? i M2 with
        | none => rw [eu] at p; exact p.elim
        | some M3 =>
          rw [eu] at p
          obtain ⟨ks, hM2, rfl⟩ := unlM_at eu
          exact p ι' F' _ v l (r'.unlock hM2 (at' l) hp) rv
    · exact p.elim
  · exact p.elim⟩
end
/-! ### its keys, items, values -/
def fdK (f : Key × D → D) (o : Option DO) (M : Mem) : R Src := match o with
  | some (.fdc kvs) => .ok ⟨kvs.map f, fun _ => true⟩ M
  | _ => .bad
def fdR (f : Key × D → D) (M : Mem) : D → R Src
  | .ref i => fdK f M[i]? M
  | _ => .bad
def iDic (f : Key × D → D) (a : Sem1 D) : Sem1 Src := fun s M => (a s M).bind fun x M1 => fdR f M1 x
def fKey : Key × D → D := fun kv => keyDD kv.1
def fVal : Key × D → D := fun kv => kv.2
def fItm : Key × D → D := fun kv => .tup [keyDD kv.1, kv.2]
section
variable {X : Cx} {T : Tab} {W : WX} {K : KX} {ι ι' : List Addr} {F F' H H' : Hp} {M M' : Mem} {rs : List (Addr × HO)} {s : DS} {σ : L2.St}
theorem keyDD_rep {k : Key} : Rep K ι F (keyDD k) (kV k) := by cases k <;> rfl
def okD' (K : KX) (kvs : List (Key × D)) (vs : List (Key × V)) : List Addr → Hp → Prop := fun ι F => vs.map (·.1) = kvs.map (·.1) ∧ RepL K ι F (kvs.map (·.2)) (vs.map (·.2))
theorem okD'.get {kvs : List (Key × D)} {vs : List (Key × V)} (h : okD' K kvs vs ι F) {i : Nat} {kv : Key × D} (e : kvs[i]? = some kv) : ∃ v, vs[i]? = some (kv.1, v) ∧ Rep K ι F kv.2 v := by
  obtain ⟨v, h1, h2⟩ := RepL.get h.2 (show (kvs.map (·.2))[i]? = some kv.2 by rw [List.getElem?_map, e] <;> rfl)
  rw [List.getElem?_map] at h1
  obtain ⟨kw, h3, rfl⟩ := Option.map_eq_some_iff.mp h1
  have h4 : (vs.map (·.1))[i]? = (kvs.map (·.1))[i]? := by rw [h.1]
  rw [List.getElem?_map, List.getElem?_map, h3, e] at h4
  have h5 : kw.1 = kv.1 := Option.some.inj h4
  exact ⟨kw.2, by rw [h3, ← h5], h2⟩
theorem okD'.len {kvs : List (Key × D)} {vs : List (Key × V)} (h : okD' K kvs vs ι F) : vs.length = kvs.length := by
  have := congrArg List.length h.1
  rwa [List.length_map, List.length_map] at this
theorem walk_key {a : Addr} {od : Obj} {kvs : List (Key × D)} {vs : List (Key × V)} : WalkD K (Itk a od vs) ⟨kvs.map fKey, fun _ => true⟩ (okD' K kvs vs) [(a, .frz od (.dK vs))] where
  mono := fun l h => ⟨h.1, h.2.le l⟩
  go := fun {ι F rs H M i} hq h r _ hi => ⟨(r.rsv _ (hq _ List.mem_cons_self)).1, by rw [h.len]; rw [List.length_map] at hi; exact hi⟩
  stop := fun {ι F rs H M} hq h r _ => ⟨(r.rsv _ (hq _ List.mem_cons_self)).1, by rw [h.len]; exact Nat.le_of_eq (List.length_map _).symm⟩
  yld := fun {ι F rs H M i d x H'} hq h r _ e y => by
    obtain ⟨rfl, k, v, h1, rfl⟩ := y
    have e : (kvs.map fKey)[i]? = some d := e
    rw [List.getElem?_map] at e
    obtain ⟨kv, h2, rfl⟩ := Option.map_eq_some_iff.mp e
    obtain ⟨v', h3, h4⟩ := h.get h2
    rw [h1] at h3
    cases h3
    exact ⟨ι, F, Le.refl, r, keyDD_rep⟩
theorem walk_val {a : Addr} {od : Obj} {kvs : List (Key × D)} {vs : List (Key × V)} : WalkD K (Itd a od vs) ⟨kvs.map fVal, fun _ => true⟩ (okD' K kvs vs) [(a, .frz od (.dK vs))] where
  mono := fun l h => ⟨h.1, h.2.le l⟩
  go := fun {ι F rs H M i} hq h r _ hi => ⟨(r.rsv _ (hq _ List.mem_cons_self)).1, by rw [h.len]; rw [List.length_map] at hi; exact hi⟩
  stop := fun {ι F rs H M} hq h r _ => ⟨(r.rsv _ (hq _ List.mem_cons_self)).1, by rw [h.len]; exact Nat.le_of_eq (List.length_map _).symm⟩
  yld := fun {ι F rs H M i d x H'} hq h r _ e y => by
    obtain ⟨rfl, k, h1⟩ := y
    have e : (kvs.map fVal)[i]? = some d := e
    rw [List.getElem?_map] at e
    obtain ⟨kv, h2, rfl⟩ := Option.map_eq_some_iff.mp e
    obtain ⟨v', h3, h4⟩ := h.get h2
    rw [h1] at h3
    cases h3
    exact ⟨ι, F, Le.refl, r, h4⟩
theorem walk_itm {a : Addr} {od : Obj} {kvs : List (Key × D)} {vs : List (Key × V)} : WalkD K (Iti a od vs) ⟨kvs.map fItm, fun _ => true⟩ (okD' K kvs vs) [(a, .frz od (.dK vs))] where
  mono := fun l h => ⟨h.1, h.2.le l⟩
  go := fun {ι F rs H M i} hq h r _ hi => ⟨(r.rsv _ (hq _ List.mem_cons_self)).1, by rw [h.len]; rw [List.length_map] at hi; exact hi⟩
  stop := fun {ι F rs H M} hq h r _ => ⟨(r.rsv _ (hq _ List.mem_cons_self)).1, by rw [h.len]; exact Nat.le_of_eq (List.length_map _).symm⟩
  yld := fun {ι F rs H M i d x H'} hq h r _ e y => by
    obtain ⟨t, k, v, h1, rfl, ht, rfl⟩ := y
    have e : (kvs.map fItm)[i]? = some d := e
    rw [List.getElem?_map] at e
    obtain ⟨kv, h2, rfl⟩ := Option.map_eq_some_iff.mp e
    obtain ⟨v', h3, h4⟩ := h.get h2
    rw [h1] at h3
    cases h3
    have l : Le K ι F ι (upd F t (.tup [kV kv.1, v])) := Le.new (r.free ht)
    exact ⟨ι, _, l, r.frozen ht, t, _, rfl, .inl (.inl upd_same), _, _, rfl, keyDD_rep, _, _, rfl, l _ _ h4, rfl⟩
theorem fd_at (r : Rel K ι F rs H M) {i : Nat} {a : Addr} {kvs : List (Key × D)} (hM : M[i]? = some (.fdc kvs)) (hi : ι[i]? = some a) : ∃ od vs, H a = some (.frz od (.dK vs)) ∧ okD' K kvs vs ι F ∧ (a, HO.frz od (.dK vs)) ∈ rs := by
  obtain ⟨o, ho⟩ := r.lck i a kvs hM hi
  obtain ⟨f0, od, vs, h1, h2, h3⟩ := r.obj i _ a hM hi rfl
  have h4 := (r.rsv _ ho).1
  rw [h1] at h4
  cases h4
  exact ⟨od, vs, h1, ⟨h2, h3⟩, ho⟩
theorem fdR_at {f : Key × D → D} {x : D} {src : Src} {M' : Mem} (h : fdR f M x = .ok src M') : ∃ i kvs, x = .ref i ∧ M[i]? = some (.fdc kvs) ∧ src = ⟨kvs.map f, fun _ => true⟩ ∧ M' = M := by
  unfold fdR at h
  split at h
  · rename_i i
    unfold fdK at h
    split at h
    · rename_i kvs hM
      cases h
      exact ⟨i, kvs, rfl, hM, rfl, rfl⟩
    · cases h
  · cases h
theorem fdR_ne {f : Key × D → D} {x : D} {e : Exn} {M' : Mem} (h : fdR f M x = .er e M') : False := by
  unfold fdR at h
  split at h
  · unfold fdK at h
    split at h <;> cases h
  · cases h
variable {tg e : Expr} {φ : Sem1 D} {apos cpos : Pos}
theorem dic_core {f : Key × D → D} {J : Addr → Obj → List (Key × V) → It} (w : ∀ {a od kvs vs}, WalkD (kx X T) (J a od vs) ⟨kvs.map f, fun _ => true⟩ (okD' (kx X T) kvs vs) [(a, .frz od (.dK vs))]) {Q : It → Hp → Prop} (h : LG (kx X T) rs (repI (kx X T) rs) W (iDic f φ) σ H Q) :
    LE (kx X T) rs W φ σ H fun x H1 => ∃ d o kvs, x = .ref d ∧ H1 d = some (.frz o (.dK kvs)) ∧ Q (J d o kvs) H1 := by
  obtain ⟨ι, F, st, M, r, rS, p⟩ := h
  refine ⟨ι, F, st, M, r, rS, p.step fun v H1 ι1 F1 M1 x l1 r1 rv p1 => ?_⟩
  cases hx : fdR f M1 x with
  | bad => rw [hx] at p1; exact p1.elim
  | er e M2 => exact (fdR_ne hx).elim
  | ok src M2 =>
    rw [hx] at p1
    obtain ⟨i, kvs, rfl, hM, rfl, rfl⟩ := fdR_at hx
    obtain ⟨a, rfl, hi⟩ := rv
    obtain ⟨od, vs, h1, h2, h3⟩ := fd_at r1 hM hi
    refine ⟨a, od, vs, rfl, h1, p1 ι1 F1 H1 _ Le.refl r1 ⟨_, _, w, fun q hq => ?_, h2⟩⟩
    rw [List.mem_singleton.mp hq]
    exact h3
theorem ki_key (he : KE X T W e φ) : KI X T W tg e (iDic fKey φ) := ⟨fun rs => PI.imp (pi_keys (he rs)) fun σ H Q h => LG.imp (dic_core (J := Itk) walk_key h) fun v H1 q => by
  obtain ⟨d, o, kvs, e, h1, q⟩ := q
  exact ⟨d, o, e, .inl ⟨kvs, h1, q⟩⟩⟩
theorem ki_values (he : KE X T W e φ) (hbase : attributeBase e "values" X.env (eval e X.env) = eval e X.env := by rfl) (hline : (apos.endLine == cpos.line) = true := by rfl) : KI X T W tg (.Call (.Attribute e "values" apos) [] [] cpos) (iDic fVal φ) := ⟨fun rs => PI.imp (pi_values (he rs) hbase hline) fun σ H Q h => dic_core (J := Itd) walk_val h⟩
theorem ki_items {elts : List Expr} {kk : Nat} {tpos : Pos} (he : KE X T W e φ) (hbase : attributeBase e "items" X.env (eval e X.env) = eval e X.env := by rfl) (hline : (apos.endLine == cpos.line) = true := by rfl) : KI X T W (.Tuple elts kk tpos) (.Call (.Attribute e "items" apos) [] [] cpos) (iDic fItm φ) := ⟨fun rs => PI.imp (pi_items (he rs) hbase hline) fun σ H Q h => dic_core (J := Iti) walk_itm h⟩
end
/-! ### {k: e for ..} -/
def putD (kvs : List (Key × D)) (k : Key) (d : D) : List (Key × D) := setD.putK' kvs k d
def compDV (chk : Mem → Bool) (γ : GSem) (τ : Sem1 Bool) (κ φ : Sem1 D) (s : DS) : List D → List (Key × D) → Mem → R (List (Key × D))
  | [], acc, M => if chk M then .ok acc M else .bad
  | x :: xs, acc, M => if chk M then (match γ x M s with
    | some s1 => match τ s1 M with
      | .ok b M1 => if b then (match κ s1 M1 with
        | .ok y M2 => match φ s1 M2 with
          | .ok d M3 => match keyOf y with
            | some k => compDV chk γ τ κ φ s xs (putD acc k d) M3
            | none => .bad
          | _ => .bad
        | _ => .bad) else compDV chk γ τ κ φ s xs acc M1
      | _ => .bad
    | none => .bad) else .bad
def finDK (mu : Bool) (kvs : List (Key × D)) (M : Mem) : R D := .ok (newK mu kvs M).1 (newK mu kvs M).2
def eDcm (mu : Bool) (χ : Sem1 Src) (γ : GSem) (τ : Sem1 Bool) (κ φ : Sem1 D) (own : List Nat) : Sem1 D := fun s M => (χ s M).bind fun src M1 => if src.xs.length ≤ LINE then (compDV src.chk γ τ κ φ (wipeD s own) src.xs [] M1).bind fun kvs M2 => finDK mu kvs M2 else .bad
section
variable {X : Cx} {T : Tab} {W : WX} {K : KX} {ι ι' : List Addr} {F F' H H' : Hp} {M M' : Mem} {rs : List (Addr × HO)} {s : DS} {σ : L2.St}
theorem putD_rep {kvs : List (Key × D)} {vs : List (Key × V)} {k : Key} {d : D} {v : V} (h : okD' K kvs vs ι F) (rd : Rep K ι F d v) : okD' K (putD kvs k d) (putK vs k v) ι F := by
  obtain ⟨h3, h4⟩ := h
  obtain ⟨a1, a2, a3⟩ := putK_rep (k := k) h3 h4 rd
  unfold putD putK setD.putK'
  rw [a1]
  split
  · exact ⟨a2, a3⟩
  · refine ⟨by rw [List.map_append, List.map_append, h3] <;> rfl, ?_⟩
    rw [List.map_append, List.map_append]
    exact h4.append (.one rd)
theorem putD_len {kvs : List (Key × D)} {k : Key} {d : D} : (putD kvs k d).length ≤ kvs.length + 1 := by
  unfold putD setD.putK'
  split
  · rw [List.length_map]; omega
  · rw [List.length_append]; exact Nat.le_refl _
theorem finDK_at {mu : Bool} {ks : List (Key × D)} {vs : List (Key × V)} {D : Addr} {Q : VK} {W' : Value → Option Addr → Hp → Prop} (r : Rel K ι F ((D, .dK vs) :: rs) H M) (hp : ∀ q ∈ rs, q.1 ≠ D) (rv : okD' K ks vs ι F) (p : Post K rs (repD K) ι F W' Q (finDK mu ks M)) : Q (.ref D) H := by
  have h0 := (r.rsv _ List.mem_cons_self).1
  cases mu with
  | true => exact p (ι ++ [D]) F H _ Le.push (r.unresM hp (u := .dic ks) ⟨vs, h0, rv.1, RepL.le Le.push rv.2⟩) ⟨D, rfl, by rw [← r.len]; simp⟩
  | false => exact p ι (upd F D (.dK vs)) H _ (Le.new (r.rsv _ List.mem_cons_self).2.1) (r.unresF hp) ⟨D, vs, rfl, .inl upd_same, rv.1, RepL.le (Le.new (r.rsv _ List.mem_cons_self).2.1) rv.2⟩
theorem dc_sem {mu : Bool} {χ : Sem1 Src} {γ : GSem} {idx : List Nat} {τ : Sem1 Bool} {κ φ : Sem1 LD.D} {own : List Nat} {Q : VK} (hsub : ∀ i ∈ idx, i ∈ own) (h : LE K rs W (eDcm mu χ γ τ κ φ own) σ H Q) :
    tDc (LG K rs (repI K rs) W χ) (fun v σ H Q => ∃ rs, LGt K rs γ idx v σ H Q) (fun σ H Q => ∃ rs, LT K rs WN τ σ H Q) (fun σ H Q => ∃ rs, LE K rs WN κ σ H Q) (fun σ H Q => ∃ rs, LE K rs WN φ σ H Q) own σ H Q := by
  obtain ⟨ι, F, s, M, r, rS, p⟩ := h
  refine ⟨ι, F, s, M, r, rS, p.step fun J H1 ι1 F1 M1 src l1 r1 rj p1 => ?_⟩
  obtain ⟨okp, rq, w, hrq0, ok⟩ := rj
  split at p1
  · rename_i hlen
    intro D hD
    have hrq : ∀ (o : HO), ∀ p ∈ rq, p ∈ (D, o) :: rs := fun o p hp => List.mem_cons_of_mem _ (hrq0 p hp)
    have hp : ∀ q ∈ rs, q.1 ≠ D := fun q hq e => by
      have z := (r1.rsv q hq).1
      rw [e, hD] at z
      cases z
    refine ⟨fun i m H' => m = src.xs.length - i ∧ i ≤ src.xs.length ∧ ∃ ι2 F2 M2 ks vs, okp ι2 F2 ∧ ks.length ≤ i ∧ Rel K ι2 F2 ((D, .dK vs) :: rs) H' M2 ∧ okD' K ks vs ι2 F2 ∧ RepS K ι2 F2 (wipeD s own) (L2.wipe σ own) ∧
      Post K rs (repD K) ι2 F2 (fun c d => W c d σ) Q ((compDV src.chk γ τ κ φ (wipeD s own) (src.xs.drop i) ks M2).bind fun ys M3 => finDK mu ys M3),
      ⟨_, rfl, Nat.zero_le _, ι1, F1, M1, [], [], ok, Nat.le_refl _, r1.reserve hD, ⟨rfl, rfl⟩, (rS.le l1).wipe own, by rw [List.drop_zero]; exact p1⟩, ?_⟩
    rintro i m H' ⟨rfl, hi, ι2, F2, M2, ks, vs, ok2, hz, r2, rv2, rS2, p2⟩
    by_cases hlt : i < src.xs.length
    · rw [List.drop_eq_getElem_cons hlt] at p2
      rw [compDV] at p2
      cases hch : src.chk M2 with
      | false => rw [hch, if_neg Bool.false_ne_true] at p2; exact p2.elim
      | true =>
        rw [hch, if_pos rfl] at p2
        refine .inr ⟨w.go (hrq _) ok2 r2 hch hlt, fun H3 => ∃ m', m' < src.xs.length - i ∧ (m' = src.xs.length - (i + 1) ∧ (i + 1) ≤ src.xs.length ∧ ∃ ι2 F2 M2 ks vs, okp ι2 F2 ∧ ks.length ≤ (i + 1) ∧ Rel K ι2 F2 ((D, .dK vs) :: rs) H3 M2 ∧ okD' K ks vs ι2 F2 ∧ RepS K ι2 F2 (wipeD s own) (L2.wipe σ own) ∧
          Post K rs (repD K) ι2 F2 (fun c d => W c d σ) Q ((compDV src.chk γ τ κ φ (wipeD s own) (src.xs.drop (i + 1)) ks M2).bind fun ys M3 => finDK mu ys M3)), fun H3 z => z, fun x H3 y => ?_⟩
        obtain ⟨ι3, F3, l3, r3, rx⟩ := w.yld (hrq _) ok2 r2 hch (List.getElem?_eq_getElem hlt) y
        cases eg : γ src.xs[i] M2 (wipeD s own) with
        | none => rw [eg] at p2; exact p2.elim
        | some s3 =>
          rw [eg] at p2
          simp only at p2
          refine ⟨_, ι3, F3, wipeD s own, M2, _, s3, r3, rS2.le l3, rx, eg, fun σ4 rs4 hw => ⟨(hw own hsub).trans wipe_wipe, ?_⟩⟩
          refine ⟨_, ι3, F3, s3, M2, r3, rs4, ?_⟩
          cases et : τ s3 M2 with
          | er x M => rw [et] at p2; exact p2.elim
          | bad => rw [et] at p2; exact p2.elim
          | ok b M4 =>
            rw [et] at p2
            simp only at p2
            intro ι4 F4 H4 v l4 r4 rb
            have rb' : v = b := rb
            subst rb'
            cases v with
            | false =>
              rw [if_neg Bool.false_ne_true] at p2
              refine iteF ⟨src.xs.length - (i + 1), by omega, rfl, hlt, ι4, F4, M4, ks, vs, w.mono (l3.trans l4) ok2, by omega, r4, ⟨rv2.1, RepL.le (l3.trans l4) rv2.2⟩, rS2.le (l3.trans l4), Post.le (l3.trans l4) p2⟩
            | true =>
              rw [if_pos rfl] at p2
              refine iteT ⟨_, ι4, F4, s3, M4, r4, rs4.le l4, ?_⟩
              cases ek : κ s3 M4 with
              | er x M => rw [ek] at p2; exact p2.elim
              | bad => rw [ek] at p2; exact p2.elim
              | ok y5 M5 =>
                rw [ek] at p2
                simp only at p2
                intro ι5 F5 H5 v5 l5 r5 rv5
                refine ⟨_, ι5, F5, s3, M5, r5, (rs4.le l4).le l5, ?_⟩
                cases ep : φ s3 M5 with
                | er x M => rw [ep] at p2; exact p2.elim
                | bad => rw [ep] at p2; exact p2.elim
                | ok y6 M6 =>
                  rw [ep] at p2
                  simp only at p2
                  cases hk : keyOf y5 with
                  | none => rw [hk] at p2; exact p2.elim
                  | some k =>
                    rw [hk] at p2
                    intro ι6 F6 H6 v6 l6 r6 rv6
                    have lt := ((l3.trans l4).trans l5).trans l6
                    have hl := rv2.len
                    have hs := line_eq
                    have ey := keyOf_rep hk rv5
                    have hz2 := putD_len (kvs := ks) (k := k) (d := y6)
                    exact ⟨vs, k, ey, (r6.rsv _ List.mem_cons_self).1, by omega, src.xs.length - (i + 1), by omega, rfl, hlt, ι6, F6, M6, putD ks k y6, putK vs k v6, w.mono lt ok2, by omega, r6.rewr hp, putD_rep ⟨rv2.1, RepL.le lt rv2.2⟩ rv6, rS2.le lt, Post.le lt p2⟩
    · have ei : i = src.xs.length := by omega
      subst ei
      rw [List.drop_length, compDV] at p2
      cases hch : src.chk M2 with
      | false => rw [hch, if_neg Bool.false_ne_true] at p2; exact p2.elim
      | true =>
        rw [hch, if_pos rfl, R.bind_ok] at p2
        exact .inl ⟨w.stop (hrq _) ok2 r2 hch, finDK_at r2 hp rv2 p2⟩
  · exact p1.elim
variable {kx vx tg iter : Expr} {ifs : List Expr} {scope : Scope} {own : List (Str × Nat)} {pos : Pos} {χ : Sem1 Src} {γ : GSem} {idx : List Nat} {τ : Sem1 Bool} {κ φ : Sem1 LD.D} {mu : Bool}
theorem d_dcomp (hc : X.calm = true) (hN : X.N.Nodup) (ok : BlkOk X.N X.env.scope scope own) (hsub : ∀ i ∈ idx, i ∈ own.map (·.2)) (hi : KI X T W tg iter χ)
    (hg : ∀ (s : Shared) (H : Hp) (C : Addr) (cl : List (Str × Addr)) (fp : List Addr), KG (X.blk s H scope (compEnvC scope cl C X.env) fp) T tg γ idx)
    (ht : ∀ (s : Shared) (H : Hp) (C : Addr) (cl : List (Str × Addr)) (fp : List Addr), KTs (X.blk s H scope (compEnvC scope cl C X.env) fp) T WN ifs τ)
    (hk : ∀ (s : Shared) (H : Hp) (C : Addr) (cl : List (Str × Addr)) (fp : List Addr), KE (X.blk s H scope (compEnvC scope cl C X.env) fp) T WN kx κ)
    (he : ∀ (s : Shared) (H : Hp) (C : Addr) (cl : List (Str × Addr)) (fp : List Addr), KE (X.blk s H scope (compEnvC scope cl C X.env) fp) T WN vx φ) (hs : ∀ x, foldedSetIterable iter X.env x = pure x) :
    KE X T W (.DictComp kx vx [⟨tg, iter, ifs, 0⟩] scope pos) (eDcm mu χ γ τ κ φ (own.map (·.2))) := fun rs =>
  PE.imp (pe_dc hc hN (hi.pi rs) ok (fun s H C cl fp => PG.ex (hg s H C cl fp).pg) (fun s H C cl fp => PTs.ex (ht s H C cl fp).pt) (fun s H C cl fp => PE.ex (f := fun rs => LE (LD.kx X T) rs WN κ) (hk s H C cl fp)) (fun s H C cl fp => PE.ex (f := fun rs => LE (LD.kx X T) rs WN φ) (he s H C cl fp)) hs) fun σ H Q h => dc_sem (K := LD.kx X T) hsub h
end
/-! ### list(d), list(d.items()) -/
def listKC (mu : Bool) : OL := fun ds M => match ds with
  | [x] => (dcOf M x).map fun kvs => newL mu (kvs.map fKey) M
  | _ => none
def itmK (o : Option DO) (M : Mem) : R D := match o with
  | some (.dic kvs) => .ok (.lst (kvs.map fItm)) M
  | _ => .bad
def itmR (M : Mem) : D → R D
  | .ref i => itmK M[i]? M
  | _ => .bad
def eLItems (a : Sem1 D) : Sem1 D := fun s M => (a s M).bind fun x M1 => itmR M1 x
section
variable {X : Cx} {T : Tab} {W : WX} {K : KX} {ι ι' : List Addr} {F F' H H' : Hp} {M M' : Mem} {rs : List (Addr × HO)} {s : DS} {σ : L2.St}
theorem keysD_rep : ∀ {kvs : List (Key × D)} {vs : List (Key × V)}, vs.map (·.1) = kvs.map (·.1) → RepL K ι F (kvs.map fKey) (vs.map fun kv => kV kv.1)
  | [], [], _ => rfl
  | [], _ :: _, h => by cases h
  | _ :: _, [], h => by cases h
  | kv :: kvs, kw :: vs, h => by
    rw [List.map_cons, List.map_cons] at h
    injection h with h1 h2
    refine ⟨_, _, rfl, ?_, keysD_rep h2⟩
    show Rep K ι F (keyDD kv.1) (kV kw.1)
    rw [h1]
    exact keyDD_rep
theorem c_listK {mu : Bool} (hc : X.calm = true) : CallR X (.type "list") (RC (kx X T) rs (listKC mu)) := CallR.imp (call_listD hc) fun vs H Q h => by
  obtain ⟨ι, F, M, ds, z, M', r, rv, e, q⟩ := h
  unfold listKC at e
  split at e
  · obtain ⟨kvs, e1, e2⟩ := Option.map_eq_some_iff.mp e
    obtain ⟨v, rfl, h1⟩ := one_of rv
    obtain ⟨a, ws, rfl, hr, m1, m2⟩ := dcOf_at r e1 h1
    exact ⟨a, ws, rfl, hr, newL_at r (keysD_rep m1) e2 q⟩
  · cases e
/-- what is new is known as it stands -/
theorem Rel.news (r : Rel K ι F rs H M) {as : List Addr} (hk : ∀ b o, H b = some o → H' b = some o) (hn : ∀ t ∈ as, H t = none) : Rel K ι (fun b => if b ∈ as then H' b else F b) rs H' M where
  len := r.len
  sub := fun b o e => by
    split at e
    · exact e
    · exact hk _ _ (r.sub _ _ e)
  obj := fun i o a h1 h2 h3 => by
    obtain ⟨f0, ro⟩ := r.obj i o a h1 h2 h3
    obtain ⟨u, hu⟩ := ro.some h3
    have na : a ∉ as := fun z => by rw [hn a z] at hu; cases hu
    refine ⟨by simp only [if_neg na]; exact f0, (ro.le (Le.grow fun b u e => ?_)).at (by rw [hk _ _ hu, hu])⟩
    have nb : b ∉ as := fun z => by rw [r.free (hn b z)] at e; cases e
    simp only [if_neg nb]
    exact e
  inj := r.inj
  there := fun i a e => by
    obtain ⟨u, hu, hb⟩ := r.there i a e
    exact ⟨u, hk _ _ hu, hb⟩
  rsv := fun q hq => by
    obtain ⟨r1, r2, r3⟩ := r.rsv q hq
    have nq : q.1 ∉ as := fun z => by rw [hn _ z] at r1; cases r1
    exact ⟨hk _ _ r1, by simp only [if_neg nq]; exact r2, r3⟩
  lck := r.lck
theorem Le.news {as : List Addr} (hn : ∀ t ∈ as, F t = none) : Le K ι F ι (fun b => if b ∈ as then H' b else F b) := Le.grow fun b u e => by
  have nb : b ∉ as := fun z => by rw [hn b z] at e; cases e
  simp only [if_neg nb]
  exact e
theorem itms_rep {G : Hp} {kvs : List (Key × D)} {vs : List (Key × V)} {ts : List Addr} (hp : Paired (fun (t : Addr) (q : Key × V) => G t = some (.tup [kV q.1, q.2])) ts vs) (h1 : vs.map (·.1) = kvs.map (·.1)) (h2 : RepL K ι G (kvs.map (·.2)) (vs.map (·.2))) : RepL K ι G (kvs.map fItm) (ts.map V.ref) := by
  induction hp generalizing kvs with
  | nil =>
    cases kvs with
    | nil => exact rfl
    | cons _ _ => cases h1
  | @cons t q ts vs e hp ih =>
    cases kvs with
    | nil => cases h1
    | cons kv kvs =>
      rw [List.map_cons, List.map_cons] at h1
      injection h1 with e1 e2
      rw [List.map_cons, List.map_cons] at h2
      obtain ⟨v, r, e3, h3, h4⟩ := h2
      cases e3
      refine ⟨_, _, rfl, ⟨t, _, rfl, .inl (.inl e), _, _, rfl, ?_, _, _, rfl, h3, rfl⟩, ih e2 h4⟩
      show Rep K ι G (keyDD kv.1) (kV q.1)
      rw [e1]
      exact keyDD_rep
theorem e_listItems {e : Expr} {φ : Sem1 D} {p apos cpos pos : Pos} (hc : X.calm = true) (he : KE X T W e φ) (hg : Gl X "list") (hm : X.mg "list" = none) (hv : bootBuiltins "list" = some (.type "list")) (hbase : attributeBase e "items" X.env (eval e X.env) = eval e X.env := by rfl) (hline : (apos.endLine == cpos.line) = true := by rfl)
    (hs : starEach [.Call (.Attribute e "items" apos) [] [] cpos] X.env = (false, eval (.Call (.Attribute e "items" apos) [] [] cpos) X.env) :: starEach [] X.env := by rfl) :
    KE X T W (.Call (.Name "list" p) [.Call (.Attribute e "items" apos) [] [] cpos] [] pos) (eLItems φ) := fun rs => PE.imp (LiI.pe_listItems hc (he rs) hg hm hv hbase hline hs) fun σ H Q h => by
  obtain ⟨ι, F, st, M, r, rS, p⟩ := h
  refine ⟨ι, F, st, M, r, rS, p.step fun v H1 ι1 F1 M1 x l1 r1 rv p1 => ?_⟩
  cases x with
  | ref i =>
    have p1 : Post (kx X T) rs (repD (kx X T)) ι1 F1 (fun c d => W c d σ) Q (itmK M1[i]? M1) := p1
    cases hM : M1[i]? with
    | none => rw [hM] at p1; exact p1.elim
    | some o =>
      rw [hM] at p1
      cases o with
      | dic kvs =>
        obtain ⟨a, rfl, hi⟩ := rv
        obtain ⟨f0, vs, h1, h2, h3⟩ := r1.obj i _ a hM hi rfl
        refine ⟨a, vs, rfl, h1, fun H' q ts k1 k2 k3 k4 k5 k6 => ?_⟩
        have hn : ∀ t ∈ q :: ts, H1 t = none := fun t ht => by
          rcases List.mem_cons.mp ht with rfl | ht
          · exact k2
          · exact k3 t ht
        have l := Le.news (K := kx X T) (ι := ι1) (H' := H') (as := q :: ts) fun t ht => r1.free (hn t ht)
        refine p1 ι1 _ H' _ l (r1.news k1 hn) ⟨q, ts.map V.ref, rfl, .inl (.inl ?_), itms_rep (vs := vs) ?_ h2 (RepL.le l h3)⟩
        · simp only [if_pos List.mem_cons_self]
          exact k5
        · have : ∀ {ts' : List Addr} {vs' : List (Key × V)}, Paired (fun (t : Addr) (q : Key × V) => H' t = some (.tup [kV q.1, q.2])) ts' vs' → (∀ t ∈ ts', t ∈ ts) → Paired (fun (t : Addr) (z : Key × V) => (if t ∈ q :: ts then H' t else F1 t) = some (.tup [kV z.1, z.2])) ts' vs' := fun {ts' vs'} h => by
            induction h with
            | nil => exact fun _ => .nil
            | cons e h ih => exact fun hs => .cons (by rw [if_pos (List.mem_cons_of_mem _ (hs _ List.mem_cons_self))]; exact e) (ih fun t ht => hs t (List.mem_cons_of_mem _ ht))
          exact this k6 fun t ht => ht
      | _ => exact p1.elim
  | _ => exact p1.elim
end
/-! ### rows -/
section
variable {s : DS} {M M0 M1 : Mem} {i : Nat} {kvs : List (Key × D)} {ψ : SSem} {e φ a : Sem1 D} {f : Key × D → D} {d : D}
def lkG (ψ : SSem) (s : DS) (i : Nat) (o : Option Mem) : RS := match o with
  | some M1 => unlS i (ψ s M1)
  | none => .bad
def leG (e : Sem1 D) (s : DS) (i : Nat) (o : Option Mem) : R D := match o with
  | some M1 => unlE i (e s M1)
  | none => .bad
theorem lkG_s : lkG ψ s i (some M1) = unlS i (ψ s M1) := rfl
theorem leG_s : leG e s i (some M1) = unlE i (e s M1) := rfl
theorem q_SLock : sLock φ ψ s M = lkS ψ s M (φ s M) := rfl
theorem q_ELock : eLock φ e s M = lkE e s M (φ s M) := rfl
theorem lkS_r : lkS ψ s M (.ok (.ref i) M0) = lkG ψ s i (lockM M[i]? i M) := rfl
theorem lkE_r : lkE e s M (.ok (.ref i) M0) = leG e s i (lockM M[i]? i M) := rfl
theorem lockM_d : lockM (some (.dic kvs)) i M = some (M.set i (.fdc kvs)) := rfl
theorem unlM_f : unlM (some (.fdc kvs)) i M = some (M.set i (.dic kvs)) := rfl
theorem unlS_n : unlS i (.nx s M) = nxK (unlM M[i]? i M) s := rfl
theorem unlS_r : unlS i (.rt d M) = rtK (unlM M[i]? i M) d := rfl
theorem unlE_o : unlE i (.ok d M) = okU (unlM M[i]? i M) d := rfl
theorem nxK_s : nxK (some M) s = .nx s M := rfl
theorem rtK_s : rtK (some M) d = .rt d M := rfl
theorem okU_s : okU (some M) d = .ok d M := rfl
theorem q_iDic : iDic f a s M = bnd (a s M) (fun x M1 => fdR f M1 x) .mk := rfl
theorem fdR_r : fdR f M (.ref i) = fdK f M[i]? M := rfl
theorem fdK_f : fdK f (some (.fdc kvs)) M = .ok ⟨kvs.map f, fun _ => true⟩ M := rfl
def dcmK (mu : Bool) (src : Src) (γ : GSem) (τ : Sem1 Bool) (κ φ : Sem1 D) (s : DS) (M : Mem) : R D := if src.xs.length ≤ LINE then bnd (compDV src.chk γ τ κ φ s src.xs [] M) (fun ys M2 => finDK mu ys M2) .mk else .bad
theorem dcmK_l {mu : Bool} {xs : List D} {chk : Mem → Bool} {γ : GSem} {τ : Sem1 Bool} {κ : Sem1 D} (h : xs.length ≤ LINE) : dcmK mu ⟨xs, chk⟩ γ τ κ φ s M = bnd (compDV chk γ τ κ φ s xs [] M) (fun ys M2 => finDK mu ys M2) .mk := if_pos h
theorem q_Dcm {mu : Bool} {χ : Sem1 Src} {γ : GSem} {τ : Sem1 Bool} {κ : Sem1 D} {own : List Nat} : eDcm mu χ γ τ κ φ own s M = bnd (χ s M) (fun src M1 => dcmK mu src γ τ κ φ (wipeD s own) M1) .mk := rfl
theorem finDK_t : finDK true kvs M = .ok (.ref M.length) (M ++ [.dic kvs]) := rfl
theorem finDK_f : finDK false kvs M = .ok (.dic (kvs.map (·.1)) (kvs.map (·.2))) M := rfl
theorem q_LItems : eLItems a s M = bnd (a s M) (fun x M1 => itmR M1 x) .mk := rfl
theorem itmR_r : itmR M (.ref i) = itmK M[i]? M := rfl
theorem itmK_d : itmK (some (.dic kvs)) M = .ok (.lst (kvs.map fItm)) M := rfl
theorem rixK_f {p : Int} : rixK (some (.fdc kvs)) (.int p) M = (getK kvs (.inl p)).map fun d => (d, M) := rfl
end
end LD
namespace LD
open PySem PySem.Spec PyProof.Rows L2

/-! ### what is never reached -/
def sBad : SSem := fun _ _ => .bad
def eBad : Sem1 D := fun _ _ => .bad
section
variable {X : Cx} {T : Tab} {W : WX} {K : KX} {ι ι' : List Addr} {F F' H H' : Hp} {M M' : Mem} {rs : List (Addr × HO)} {s : DS} {σ : L2.St}
theorem s_bad {st : Stmt} : KS X T W st sBad := ⟨fun rs => ⟨fun pins s σ H D I h => by
  obtain ⟨ι, F, st, M, r, rS, p⟩ := h
  exact p.elim⟩⟩
theorem e_bad {e : Expr} : KE X T W e eBad := fun rs => ⟨fun pins s σ H Q I h => by
  obtain ⟨ι, F, st, M, r, rS, p⟩ := h
  exact p.elim⟩
/-! ### == of a class's own -/
def eqK (tbl : List (Nat × FnD)) (i j : Nat) (o o' : Option DO) (M : Mem) : Option (D × Mem) := match o, o' with
  | some (.ins c _), some (.ins c' _) => if c = c' then match tbl.lookup c with
    | some φ => match φ [.ref i, .ref j] M with
      | .ok (.bl k) M' => some (.bl k, M')
      | _ => none
    | none => none else none
  | _, _ => none
def eqO (tbl : List (Nat × FnD)) : O2 := fun x y M => match x, y with
  | .ref i, .ref j => eqK tbl i j M[i]? M[j]? M
  | _, _ => none
def EqD (P : Program) (w : World) (K : PySem.W.Frag) (mg : Str → Option Value) (base : Heap) (T : Tab) (k c : Nat) (φ : FnD) : Prop :=
  ∃ C ly g, T.ct[c]? = some (C, ly) ∧ PySem.W.findIn K (.ref C) "__eq__" = some (some (.ref g)) ∧ PySem.W.isFn K (.ref g) = true ∧ Callee P w K mg base T k g 2 [] φ
theorem o_eqO {k k' : Nat} {tbl : List (Nat × FnD)} (ht : ∀ c φ, tbl.lookup c = some φ → EqD X.prog X.w X.K X.mg X.base T k' c φ) (hr : Room k X.A) (hl : k' ≤ k := by first | decide | omega) : OpR X (compareOp .Eq) (RO2 (kx X T) rs (eqO tbl)) := by
  intro pins s σ H x y v u Q I rx ry h
  obtain ⟨ι, F, M, d, e, z, M', r, r1, r2, g, q⟩ := h
  cases d with
  | ref i =>
    cases e with
    | ref j =>
      have g : eqK tbl i j M[i]? M[j]? M = some (z, M') := g
      unfold eqK at g
      split at g
      · rename_i c fs c' fs' hi hj
        split at g
        · rename_i hcc
          subst hcc
          split at g
          · rename_i φ hφ
            split at g
            · rename_i b Mz he
              cases g
              obtain ⟨C, ly, f, hc, hs, hf, ce⟩ := ht c φ hφ
              obtain ⟨a, rfl, hia⟩ := r1
              obtain ⟨a', rfl, hja⟩ := r2
              obtain ⟨_, C1, ly1, dx, vs, hc1, hH, _, _, _, _⟩ := r.obj i _ a hi hia rfl
              obtain ⟨_, C2, ly2, dy, vs2, hc2, hH2, _, _, _, _⟩ := r.obj j _ a' hj hja rfl
              have e1 : (C, ly) = (C1, ly1) := Option.some.inj (hc.symm.trans hc1)
              cases e1
              have e2 : (C, ly) = (C2, ly2) := Option.some.inj (hc.symm.trans hc2)
              cases e2
              cases rx
              cases ry
              obtain ⟨mA, J, _⟩ := ins_get I.hok hH
              obtain ⟨mB, J', _⟩ := ins_get I.hok hH2
              obtain ⟨od, J, _⟩ := J.look
              obtain ⟨od', J', _⟩ := J'.look
              obtain ⟨m, hF⟩ := I.fr
              show wpAny (model X.prog X.w) X.A (richCompare .Eq (.ref a) (.ref a')) (EP X pins σ Q) X.xe s
              refine PySem.W.cmp_K (op := .Eq) (tb := .ref C) (by have := hr.un; omega) hF I.ok.mod.kin J J'.type (by simp [PySem.W.notFirst]) hs hf ?_
              refine wpAny_call (codeAny_mono (ce.run rs X.A X.stack s H [.ref a, .ref a'] [] [.ref a, .ref a'] [] (fun v H' => v = .bl b ∧ ∃ ι' F', Le (kx X T) ι F ι' F' ∧ Rel (kx X T) ι' F' rs H' M') (fun _ _ _ => False) (hr.mono hl) I.env0 rfl rfl (.cons rfl (.cons rfl .nil)) .nil
                ⟨ι, F, [.ref i, .ref j], M, r, ⟨_, _, rfl, ⟨a, rfl, hia⟩, .one ⟨a', rfl, hja⟩⟩, by rw [he]; exact fun ι' F' H' v l r' rv => ⟨rv, ι', F', l, r'⟩⟩) fun rr s' hq => ?_)
              cases rr with
              | error er =>
                obtain ⟨_, _, _, _, _, _, _, _, _, _, _, _, z⟩ := hq
                exact z.elim
              | ok fl =>
                cases fl with
                | ret w =>
                  obtain ⟨z, H', I', rz, ez, ι', F', l, r'⟩ := I.after hq
                  subst ez
                  cases rz
                  exact ⟨.bl b, H', I', rfl, q ι' F' H' _ l r' rfl⟩
                | next => exact False.elim hq
                | brk => exact False.elim hq
                | cont => exact False.elim hq
            · cases g
          · cases g
        · cases g
      · cases g
    | _ => cases g
  | _ => cases g
/-! ### one rule, or the other -/
def altO (φ ψ : O2) : O2 := fun x y M => match φ x y M with
  | some r => some r
  | none => ψ x y M
theorem o_alt {op : Value → Value → Sem Value} {φ ψ : O2} (h1 : OpR X op (RO2 (kx X T) rs φ)) (h2 : OpR X op (RO2 (kx X T) rs ψ)) : OpR X op (RO2 (kx X T) rs (altO φ ψ)) := by
  intro pins s σ H x y v u Q I rx ry h
  obtain ⟨ι, F, M, d, e, z, M', r, r1, r2, g, q⟩ := h
  unfold altO at g
  split at g
  · rename_i w hw
    cases g
    exact h1 pins s σ H x y v u Q I rx ry ⟨ι, F, M, d, e, z, M', r, r1, r2, hw, q⟩
  · exact h2 pins s σ H x y v u Q I rx ry ⟨ι, F, M, d, e, z, M', r, r1, r2, g, q⟩
/-! ### isinstance of an instance, a class of the text -/
def isiK (tbl : List (Nat × Bool)) (o : Option DO) (M : Mem) : R D := match o with
  | some (.ins c _) => match tbl.lookup c with
    | some b => .ok (.bl b) M
    | none => .bad
  | _ => .bad
def isiR (tbl : List (Nat × Bool)) (M : Mem) : D → R D
  | .ref i => isiK tbl M[i]? M
  | _ => .bad
def eIsiO (tbl : List (Nat × Bool)) (φ : Sem1 D) : Sem1 D := fun s M => (φ s M).bind fun x M1 => isiR tbl M1 x
def IsiD (K : PySem.W.Frag) (T : Tab) (B : Addr) (c : Nat) (b : Bool) : Prop := ∃ C ly, T.ct[c]? = some (C, ly) ∧ C8.InsC K C ∧ PySem.W.kitOne K (.ref C) (.ref B) = some b
theorem d_isiO {tbl : List (Nat × Bool)} {e : Expr} {φ : Sem1 D} {z : Str} {B : Addr} {p p3 pos : Pos} (ht : ∀ c b, tbl.lookup c = some b → IsiD X.K T B c b) (he : KE X T W e φ) (gB : X.mg z = some (.ref B)) (hm : X.mg "isinstance" = none)
    (hg : Gl X "isinstance" := by rfl) (hgz : Gl X z := by rfl) (hdb : (z == ("__debug__" : Str)) = false := by decide)
    (hse : starEach [e, .Name z p3] X.env = (false, eval e X.env) :: starEach [.Name z p3] X.env := by rfl) (hpl : (backTo pos (starEach [.Name z p3] X.env)).any (·.1) = false := by rfl) :
    KE X T W (.Call (.Name "isinstance" p) [e, .Name z p3] [] pos) (eIsiO tbl φ) := fun rs =>
  PE.imp (pe_callB call_isi hg hm (by rfl) (pa_cons (he rs) (pa_cons (pe_glob (v := .ref B) hgz gB rfl hdb) pa_nil (by rfl)) hse) (by decide) (by decide) hse hpl) fun σ H Q h => by
    obtain ⟨ι, F, st, M, r, rS, p⟩ := h
    refine ⟨ι, F, st, M, r, rS, p.step fun v H1 ι1 F1 M1 x l1 r1 rv p1 => ?_⟩
    cases x with
    | ref i =>
      have p1 : Post (kx X T) rs (repD (kx X T)) ι1 F1 (fun c d => W c d σ) Q (isiK tbl M1[i]? M1) := p1
      cases hM : M1[i]? with
      | none => rw [hM] at p1; exact p1.elim
      | some o =>
        rw [hM] at p1
        cases o with
        | ins c fs =>
          unfold isiK at p1
          cases hb : tbl.lookup c with
          | none => simp only [hb] at p1; exact p1.elim
          | some b =>
            simp only [hb] at p1
            obtain ⟨a, rfl, hi⟩ := rv
            obtain ⟨C, ly, hc, ic, hk⟩ := ht c b hb
            obtain ⟨_, C1, ly1, dx, vs, hc1, hH, _, _, _, _⟩ := r1.obj i _ a hM hi rfl
            have e1 : (C, ly) = (C1, ly1) := Option.some.inj (hc.symm.trans hc1)
            cases e1
            exact ⟨.ref a, .ref B, .ref C, .ref B, b, rfl, .own B, .base (.ins hH ic.cl ic.ha ic.hn ic.htk ic.hm), hk, p1.fin r1 rfl⟩
        | _ => exact p1.elim
    | _ => exact p1.elim
/-! ### zip of two lists that may change -/
def zpL (xs ys : List D) : List D := List.zipWith (fun x y => D.tup [x, y]) xs ys
def zipK (i j : Nat) (o o' : Option DO) (M : Mem) : R Src := match o, o' with
  | some (.lst xs), some (.lst ys) => .ok ⟨zpL xs ys, fun M' => mutChk i xs M' && mutChk j ys M'⟩ M
  | _, _ => .bad
def zipR (M : Mem) : List D → R Src
  | [.ref i, .ref j] => zipK i j M[i]? M[j]? M
  | _ => .bad
def iZipM (α : Sem1 (List D)) : Sem1 Src := fun s M => (α s M).bind fun ds M1 => zipR M1 ds
theorem zpL_len (xs ys : List D) : (zpL xs ys).length = min xs.length ys.length := by unfold zpL; rw [List.length_zipWith]
theorem walk_zipM {a b : Addr} {i j : Nat} {xs ys : List D} : WalkD K (Itz K.fr a b) ⟨zpL xs ys, fun M' => mutChk i xs M' && mutChk j ys M'⟩ (fun ι F => Rep K ι F (.ref i) (.ref a) ∧ Rep K ι F (.ref j) (.ref b)) where
  mono := fun l h => ⟨l _ _ h.1, l _ _ h.2⟩
  go := fun {ι F rs H M k} _ h r c hi => by
    obtain ⟨⟨a', e, q⟩, b', e', q'⟩ := h
    cases e
    cases e'
    have c : (mutChk i xs M && mutChk j ys M) = true := c
    rw [Bool.and_eq_true] at c
    obtain ⟨_, vs, h2, h3⟩ := r.obj i _ a (mutChk_at c.1) q rfl
    obtain ⟨_, ws, h4, h5⟩ := r.obj j _ b (mutChk_at c.2) q' rfl
    have hi : k < (zpL xs ys).length := hi
    rw [zpL_len] at hi
    have l1 : k < vs.length := by rw [RepL.length h3]; omega
    have l2 : k < ws.length := by rw [RepL.length h5]; omega
    exact ⟨vs, ws, vs[k], ws[k], .inl (.inl h2), .inl (.inl h4), List.getElem?_eq_getElem l1, List.getElem?_eq_getElem l2⟩
  stop := fun {ι F rs H M} _ h r c => by
    obtain ⟨⟨a', e, q⟩, b', e', q'⟩ := h
    cases e
    cases e'
    have c : (mutChk i xs M && mutChk j ys M) = true := c
    rw [Bool.and_eq_true] at c
    obtain ⟨_, vs, h2, h3⟩ := r.obj i _ a (mutChk_at c.1) q rfl
    obtain ⟨_, ws, h4, h5⟩ := r.obj j _ b (mutChk_at c.2) q' rfl
    refine ⟨vs, ws, .inl (.inl h2), .inl (.inl h4), ?_⟩
    show vs.length ≤ (zpL xs ys).length ∨ ws.length ≤ (zpL xs ys).length
    rw [zpL_len, RepL.length h3, RepL.length h5]
    omega
  yld := fun {ι F rs H M k d x H'} _ h r c e y => by
    obtain ⟨⟨a', e1, q⟩, b', e', q'⟩ := h
    cases e1
    cases e'
    have c : (mutChk i xs M && mutChk j ys M) = true := c
    rw [Bool.and_eq_true] at c
    obtain ⟨_, vs, h2, h3⟩ := r.obj i _ a (mutChk_at c.1) q rfl
    obtain ⟨_, ws, h4, h5⟩ := r.obj j _ b (mutChk_at c.2) q' rfl
    obtain ⟨t, v, w, rfl, hq, rfl, hy1, hy2⟩ := y
    have e : (zpL xs ys)[k]? = some d := e
    unfold zpL at e
    rw [List.getElem?_zipWith] at e
    cases hx : xs[k]? with
    | none => rw [hx] at e; cases e
    | some d1 =>
      cases hy : ys[k]? with
      | none => rw [hx, hy] at e; cases e
      | some d2 =>
        rw [hx, hy] at e
        cases e
        obtain ⟨v', h6, h7⟩ := RepL.get h3 hx
        obtain ⟨w', h8, h9⟩ := RepL.get h5 hy
        have q1 := hy1 vs (.inl (.inl h2))
        have q2 := hy2 ws (.inl (.inl h4))
        rw [h6] at q1
        rw [h8] at q2
        cases q1
        cases q2
        have l := Le.new (K := K) (ι := ι) (o := .tup [v, w]) (r.free hq)
        exact ⟨ι, upd F t (.tup [v, w]), l, r.frozen hq, ⟨t, _, rfl, .inl (.inl upd_same), RepL.le l ⟨_, _, rfl, h7, RepL.one h9⟩⟩⟩
theorem ki_zip {e e2 : Expr} {α : Sem1 (List D)} {p pos tpos : Pos} {elts : List Expr} {kk : Nat} (hg : Gl X "zip") (hm : X.mg "zip" = none) (ha : KA X T W [e, e2] α)
    (hs : starEach [e, e2] X.env = (false, eval e X.env) :: starEach [e2] X.env := by rfl) (hpl : (backTo pos (starEach [e2] X.env)).any (·.1) = false := by rfl) :
    KI X T W (.Tuple elts kk tpos) (.Call (.Name "zip" p) [e, e2] [] pos) (iZipM α) := ⟨fun rs => PI.imp (pi_zip hg hm (ha.pa rs) hs hpl) fun σ H Q h => by
  obtain ⟨ι, F, st, M, r, rS, p⟩ := h
  refine ⟨ι, F, st, M, r, rS, p.step fun vs H1 ι1 F1 M1 ds l1 r1 rv p1 => ?_⟩
  unfold zipR at p1
  split at p1
  · rename_i i j
    unfold zipK at p1
    split at p1
    · rename_i xs ys hi hj
      obtain ⟨v, w, rfl, h1, h2⟩ := two_of rv
      obtain ⟨a, rfl, hia⟩ := id h1
      obtain ⟨b, rfl, hjb⟩ := id h2
      obtain ⟨_, us, g1, g2⟩ := r1.obj i _ a hi hia rfl
      obtain ⟨_, ws, g3, g4⟩ := r1.obj j _ b hj hjb rfl
      exact ⟨a, b, us, ws, rfl, .inl (.inl g1), .inl (.inl g3), p1 ι1 F1 H1 _ Le.refl r1 (repI.mk walk_zipM ⟨h1, h2⟩)⟩
    · exact p1.elim
  · exact p1.elim⟩
end
/-! ### rows -/
section
variable {s : DS} {M : Mem} {i j c : Nat} {fs gs : List (Option D)} {tbl : List (Nat × FnD)} {tb : List (Nat × Bool)} {a : Sem1 D} {α : Sem1 (List D)} {xs ys : List D}
theorem v_eqO : eqO tbl (.ref i) (.ref j) M = eqK tbl i j M[i]? M[j]? M := rfl
theorem q_IsiO : eIsiO tb a s M = bnd (a s M) (fun x M1 => isiR tb M1 x) .mk := rfl
theorem isiR_r : isiR tb M (.ref i) = isiK tb M[i]? M := rfl
theorem q_ZipM : iZipM α s M = bnd (α s M) (fun ds M1 => zipR M1 ds) .mk := rfl
theorem zipR_r : zipR M [.ref i, .ref j] = zipK i j M[i]? M[j]? M := rfl
theorem zipK_l : zipK i j (some (.lst xs)) (some (.lst ys)) M = .ok ⟨zpL xs ys, fun M' => mutChk i xs M' && mutChk j ys M'⟩ M := rfl
end
end LD
namespace LD
open PySem PySem.Spec PyProof.Rows L2
/-! ### plain helpers, for every law -/
namespace P
theorem big : 100000 ≤ LINE := by decide
theorem app_at {M : Mem} {o : DO} : (M ++ [o])[M.length]? = some o := by rw [List.getElem?_append_right (Nat.le_refl _), Nat.sub_self] <;> rfl
theorem app_old {M X : Mem} {j : Nat} (h : j < M.length) : (M ++ X)[j]? = M[j]? := List.getElem?_append_left h
theorem lt_of {M : Mem} {i : Nat} {o : DO} (h : M[i]? = some o) : i < M.length := (List.getElem?_eq_some_iff.mp h).1
theorem set_at {M : Mem} {i j : Nat} {o : DO} (h : i ≠ j) : (M.set i o)[j]? = M[j]? := List.getElem?_set_ne h
theorem set_is {M : Mem} {i : Nat} {o o' : DO} (h : M[i]? = some o') : (M.set i o)[i]? = some o := List.getElem?_set_self (lt_of h)
theorem set_end {M : Mem} {o o' : DO} : (M ++ [o]).set M.length o' = M ++ [o'] := by rw [List.set_append_right _ _ (Nat.le_refl _), Nat.sub_self] <;> rfl
theorem app1 {M : Mem} {a b : DO} : (M ++ [a] ++ [b])[M.length]? = some a := by rw [app_old (by rw [List.length_append, List.length_singleton]; omega)]; exact app_at
theorem set1 {M : Mem} {a b x : DO} : (M ++ [a] ++ [b]).set M.length x = M ++ [x] ++ [b] := by rw [List.set_append_left _ _ (by rw [List.length_append, List.length_singleton]; omega), set_end]
theorem len1 {M : Mem} {a : DO} : (M ++ [a]).length = M.length + 1 := by rw [List.length_append, List.length_singleton]
theorem grow {M X : Mem} {i : Nat} {o : DO} (h : M[i]? = some o) : (M ++ X)[i]? = some o := by rw [app_old (lt_of h)]; exact h
theorem set_ne {M : Mem} {i j : Nat} {o o' u : DO} (h : M[i]? = some o) (h' : M[j]? = some o') (d : o ≠ o') : (M.set i u)[j]? = some o' := by
  rw [set_at (fun z => d (by rw [z, h'] at h; exact (Option.some.inj h).symm))]; exact h'
theorem set_back {M : Mem} {i : Nat} {o x : DO} (h : M[i]? = some o) : (M.set i x).set i o = M := by
  rw [List.set_set]
  have hl := lt_of h
  have e : M[i]'hl = o := by
    rw [List.getElem?_eq_getElem hl] at h
    exact Option.some.inj h
  rw [← e]
  exact List.set_getElem_self hl
theorem set_self {M : Mem} {i : Nat} {o : DO} (h : M[i]? = some o) : M.set i o = M := by
  have hl := lt_of h
  have e : M[i]'hl = o := by
    rw [List.getElem?_eq_getElem hl] at h
    exact Option.some.inj h
  rw [← e]
  exact List.set_getElem_self hl
def Ext (M M' : Mem) : Prop := ∀ (i : Nat) o, M[i]? = some o → M'[i]? = some o
theorem Ext.refl {M : Mem} : Ext M M := fun _ _ h => h
theorem Ext.trans {M M' M'' : Mem} (a : Ext M M') (b : Ext M' M'') : Ext M M'' := fun i o h => b i o (a i o h)
theorem Ext.app {M X : Mem} : Ext M (M ++ X) := fun i o h => grow h
theorem Ext.len {M M' : Mem} (e : Ext M M') : M.length ≤ M'.length := by
  rcases Nat.eq_zero_or_pos M.length with h | h
  · omega
  · have hl : M.length - 1 < M.length := by omega
    have := lt_of (e _ _ (List.getElem?_eq_getElem hl))
    omega
/-- all cells but one stay -/
def Kp (p : Nat) (M M' : Mem) : Prop := ∀ (i : Nat) o, i ≠ p → M[i]? = some o → M'[i]? = some o
theorem Kp.refl {p : Nat} {M : Mem} : Kp p M M := fun _ _ _ h => h
theorem Kp.trans {p : Nat} {M M' M'' : Mem} (a : Kp p M M') (b : Kp p M' M'') : Kp p M M'' := fun i o n h => b i o n (a i o n h)
theorem Kp.set {p : Nat} {M : Mem} {o : DO} : Kp p M (M.set p o) := fun i u n h => by rw [set_at (fun z => n z.symm)]; exact h
theorem Kp.ext {p : Nat} {M M' : Mem} (e : Ext M M') : Kp p M M' := fun i o _ h => e i o h
theorem Kp.app {p : Nat} {M X : Mem} : Kp p M (M ++ X) := .ext .app
/-- a cell made behind M is no concern of it -/
theorem Ext.of_kp {p : Nat} {M M' M'' : Mem} (a : Ext M M') (b : Kp p M' M'') (h : M.length ≤ p) : Ext M M'' := fun i o x => b i o (by have := lt_of x; omega) (a i o x)
theorem mulk {p : Int} {k : Nat} {M : Mem} (hk : k < 1000) : mulD (.int p) (.int k) M = some (.int (p * k), M) := v_mul (by
  have : small (k : Int) = true := small_iff.mpr ⟨by omega, by omega⟩
  rw [this, Bool.or_true])
/-! slices -/
theorem q_Slice {mu : Bool} {a : Sem1 D} {lo hi : SemO} {s : DS} {M : Mem} : eSlice mu a lo hi s M = bnd (a s M) (fun x M1 => bnd (lo s M1) (fun l M2 => bnd (hi s M2) (fun h M3 => ofO (sliceD mu x l h M3)) .mk) .mk) .mk := rfl
def soK (x : D) (M : Mem) : R (Option Int) := match x with
  | .int i => .ok (some i) M
  | _ => .bad
theorem soK_i {i : Int} {M : Mem} : soK (.int i) M = .ok (some i) M := rfl
theorem q_oSome {a : Sem1 D} {s : DS} {M : Mem} : oSome a s M = bnd (a s M) (fun x M1 => soK x M1) .mk := rfl
theorem q_oNone {s : DS} {M : Mem} : oNone s M = .ok none M := rfl
theorem cut_to {xs : List D} {k : Nat} (hk : k ≤ xs.length) : cutL xs none (some (k : Int)) = xs.take k := by
  unfold cutL
  rw [HT.sIx_none, HT.sIx_nat, List.drop_zero, Nat.sub_zero, Nat.min_eq_left hk]
theorem cut_fr {xs : List D} {k : Nat} (hk : k ≤ xs.length) : cutL xs (some (k : Int)) none = xs.drop k := by
  unfold cutL
  rw [HT.sIx_none, HT.sIx_nat, Nat.min_eq_left hk, ← List.length_drop, List.take_length]
theorem slice_to {mu : Bool} {x : D} {M : Mem} {k : Nat} {xs : List D} (h : lsOf M x = some xs) (hk : k ≤ xs.length) : sliceD mu x none (some (k : Int)) M = some (newL mu (xs.take k) M) := by
  cases x with
  | lst ys => cases h; show some (newL mu (cutL xs none (some (k : Int))) M) = _; rw [cut_to hk]
  | ref i => show (lsOf M (.ref i)).map _ = _; rw [h]; show some (newL mu (cutL xs none (some (k : Int))) M) = _; rw [cut_to hk]
  | _ => cases h
theorem slice_fr {mu : Bool} {x : D} {M : Mem} {k : Nat} {xs : List D} (h : lsOf M x = some xs) (hk : k ≤ xs.length) : sliceD mu x (some (k : Int)) none M = some (newL mu (xs.drop k) M) := by
  cases x with
  | lst ys => cases h; show some (newL mu (cutL xs (some (k : Int)) none) M) = _; rw [cut_fr hk]
  | ref i => show (lsOf M (.ref i)).map _ = _; rw [h]; show some (newL mu (cutL xs (some (k : Int)) none) M) = _; rw [cut_fr hk]
  | _ => cases h
theorem newL_t {xs : List D} {M : Mem} : newL true xs M = (.ref M.length, M ++ [.lst xs]) := rfl
theorem newL_f {xs : List D} {M : Mem} : newL false xs M = (.lst xs, M) := rfl
/-! ranges, members -/
theorem rng2 {i j : Nat} (hi : i < 100000) (hj : j < 100000) (M : Mem) : rngK [.int (i : Int), .int (j : Int)] M = .ok ⟨(List.range' i (j - i)).map fun k : Nat => D.int (k : Int), fun _ => true⟩ M := by
  show (if (mid (i : Int) && mid (j : Int)) = true then LD.R.ok (Src.mk (rangeL (i : Int) ((j : Int) - (i : Int)).toNat 1) fun _ => true) M else _) = _
  rw [if_pos (by rw [Bool.and_eq_true]; exact ⟨mid_iff.mpr ⟨by omega, by omega⟩, mid_iff.mpr ⟨by omega, by omega⟩⟩)]
  congr 2
  unfold rangeL
  rw [show ((j : Int) - (i : Int)).toNat = j - i by omega, List.range'_eq_map_range, List.map_map]
  apply List.map_congr_left
  intro k _
  show D.int ((i : Int) + (k : Int) * 1) = D.int ((i + k : Nat) : Int)
  congr 1
  omega
theorem rng1 {j : Nat} (hj : j < 100000) (M : Mem) : rngK [.int (j : Int)] M = .ok ⟨(List.range j).map fun k : Nat => D.int (k : Int), fun _ => true⟩ M := by
  rw [rngN (by omega) (by omega)]
  congr 2
  unfold rangeL
  rw [Int.toNat_natCast]
  congr 1
  funext i
  simp
theorem at2 {α : Type} {a b c : α} {xs : List α} : atI (a :: b :: c :: xs) 2 = some c := atN (n := 2) rfl
theorem at3 {α : Type} {a b c d : α} {xs : List α} : atI (a :: b :: c :: d :: xs) 3 = some d := atN (n := 3) rfl
theorem at4 {α : Type} {a b c d e : α} {xs : List α} : atI (a :: b :: c :: d :: e :: xs) 4 = some e := atN (n := 4) rfl
theorem filt {α : Type} (l : List α) : l.filter (fun _ => true) = l := List.filter_eq_self.mpr fun _ _ => rfl
theorem all_int : ∀ ls : List Int, (ls.map D.int).all isF = true
  | [] => rfl
  | y :: r => by rw [List.map_cons, List.all_cons, all_int r] <;> rfl
theorem any_int {x : Int} : ∀ ls : List Int, ((ls.map D.int).any fun z => eqF z (.int x)) = decide (x ∈ ls)
  | [] => rfl
  | y :: r => by
    have ih := any_int (x := x) r
    rw [List.map_cons, List.any_cons, ih]
    show (y == x || decide (x ∈ r)) = _
    by_cases h : x = y
    · subst h
      rw [beq_self_eq_true, decide_eq_true List.mem_cons_self, Bool.true_or]
    · rw [beq_eq_false_iff_ne.mpr (fun e => h e.symm), Bool.false_or]
      by_cases h2 : x ∈ r
      · rw [decide_eq_true h2, decide_eq_true (List.mem_cons_of_mem _ h2)]
      · rw [decide_eq_false h2, decide_eq_false fun z => (List.mem_cons.mp z).elim h h2]
theorem in_ints {M : Mem} {x : Int} {ls : List Int} : boD inD (.int x) (.lst (ls.map .int)) M = some (.bl (decide (x ∈ ls)), M) := by
  have e : inD M (.int x) (.lst (ls.map .int)) = some (decide (x ∈ ls)) := by
    show (if (isF (.int x) && (ls.map D.int).all isF) = true then some ((ls.map D.int).any fun z => eqF z (.int x)) else _) = _
    rw [all_int, any_int] <;> rfl
  unfold boD
  rw [e] <;> rfl
/-! dicts -/
theorem rix_s {kvs : List (Key × D)} {x : Str} {M : Mem} : rixK (some (.dic kvs)) (.str x) M = (getK kvs (.inr x)).map fun d => (d, M) := rfl
theorem rix_fs {kvs : List (Key × D)} {x : Str} {M : Mem} : rixK (some (.fdc kvs)) (.str x) M = (getK kvs (.inr x)).map fun d => (d, M) := rfl
theorem sub_new {M : Mem} {i : Nat} {kvs : List (Key × D)} {k : Str} {d : D} (h : M[i]? = some (.dic kvs)) (hl : kvs.length < 100000) (hn : (kvs.any fun kv => decide (kv.1 = .inr k)) = false) : setD (.ref i) (.str k) d M = some (M.set i (.dic (kvs ++ [(.inr k, d)]))) := by
  have hL : kvs.length < LINE := by have := big; omega
  simp only [setD, h, LD.keyOf]
  rw [if_pos hL]
  unfold setD.putK'
  rw [hn] <;> rfl
theorem sub_old {M : Mem} {i : Nat} {kvs : List (Key × D)} {k : Str} {d : D} (h : M[i]? = some (.dic kvs)) (hl : kvs.length < 100000) (hn : (kvs.any fun kv => decide (kv.1 = .inr k)) = true) : setD (.ref i) (.str k) d M = some (M.set i (.dic (kvs.map fun kv => if kv.1 = .inr k then (kv.1, d) else kv))) := by
  have hL : kvs.length < LINE := by have := big; omega
  simp only [setD, h, LD.keyOf]
  rw [if_pos hL]
  unfold setD.putK'
  rw [hn] <;> rfl
/-! loops -/
theorem whileN_t {τ : Sem1 Bool} {ψ : SSem} {n : Nat} {s s2 : DS} {M M1 M2 : Mem} (h : τ s M = .ok true M1) (h2 : ψ s M1 = .nx s2 M2) : whileN τ ψ (n + 1) s M = whileN τ ψ n s2 M2 := by
  rw [whileN, h]
  simp only [bindS, if_true, h2]
theorem whileN_f {τ : Sem1 Bool} {ψ : SSem} {n : Nat} {s : DS} {M M1 : Mem} (h : τ s M = .ok false M1) : whileN τ ψ (n + 1) s M = .nx s M1 := by
  rw [whileN, h]
  simp only [bindS, Bool.false_eq_true, if_false]
theorem compV_n {chk : Mem → Bool} {γ : GSem} {τ : Sem1 Bool} {φ : Sem1 D} {s : DS} {M : Mem} (hc : chk M = true) : compV chk γ τ φ s [] M = .ok [] M := if_pos hc
theorem compV_c {chk : Mem → Bool} {γ : GSem} {φ : Sem1 D} {s s1 : DS} {x y : D} {xs : List D} {M M2 : Mem} (hc : chk M = true) (hg : γ x M s = some s1) (hv : φ s1 M = .ok y M2) : compV chk γ tTrue φ s (x :: xs) M = (compV chk γ tTrue φ s xs M2).bind fun ys M3 => .ok (y :: ys) M3 := by
  have ht : tTrue s1 M = .ok true M := rfl
  rw [compV, if_pos hc, hg]
  simp only [ht, if_true, hv]
theorem forV_ct {chk : Mem → Bool} {γ : GSem} {ψ : SSem} {s s1 s2 : DS} {M M2 : Mem} {x : D} {xs : List D} (hc : chk M = true) (hg : γ x M s = some s1) (h : ψ s1 M = .ct s2 M2) : forV chk γ ψ (x :: xs) s M = forV chk γ ψ xs s2 M2 := by
  rw [forV, if_pos hc, hg]
  simp only [h]
theorem forV_bk {chk : Mem → Bool} {γ : GSem} {ψ : SSem} {s s1 s2 : DS} {M M2 : Mem} {x : D} {xs : List D} (hc : chk M = true) (hg : γ x M s = some s1) (h : ψ s1 M = .bk s2 M2) : forV chk γ ψ (x :: xs) s M = .nx s2 M2 := by
  rw [forV, if_pos hc, hg]
  simp only [h]
end P
end LD
namespace LD
open PySem PySem.Spec PyProof.Rows L2

/-! ### pop -/
def popK (i : Nat) (o : Option DO) (M : Mem) : Option (D × Mem) := match o with
  | some (.lst xs) => xs[xs.length - 1]?.map fun d => (d, M.set i (.lst xs.dropLast))
  | _ => none
theorem RepL.dropLast {K : KX} {ι : List Addr} {F : Hp} : ∀ {ds : List D} {vs : List V}, RepL K ι F ds vs → RepL K ι F ds.dropLast vs.dropLast
  | ds, vs, h => by
    rw [List.dropLast_eq_take, List.dropLast_eq_take, RepL.length h]
    exact h.take _
section
variable {X : Cx} {T : Tab} {W : WX} {K : KX} {rs : List (Addr × HO)} {o e : Expr} {φ : Sem1 D} {α : Sem1 (List D)} {apos pos p p2 tpos : Pos} {tg : Expr}
theorem m_pop : MtR X "list.pop" (RM (kx X T) rs popG) := fun pins s σ H x xs v us Q I rx rxs h => by
  refine mt_pop pins s σ H x xs v us Q I rx rxs ?_
  obtain ⟨ι, F, M, d, ds, z, M', r, rd, rds, e, q⟩ := h
  unfold popG at e
  split at e
  · rename_i i
    obtain ⟨a, rfl, hi⟩ := rd
    have hx : xs = [] := rds
    split at e
    · rename_i ys hM
      obtain ⟨y, hy, e⟩ := Option.map_eq_some_iff.mp e
      cases e
      obtain ⟨f0, vs, h2, h3⟩ := r.obj i _ a hM hi rfl
      obtain ⟨w, hw, rw'⟩ := RepL.get h3 hy
      have hl : vs.length = ys.length := RepL.length h3
      exact ⟨a, vs, w, rfl, hx, h2, by rw [hl]; exact hw, q ι F _ _ Le.refl (r.write hM hi rfl ⟨_, upd_same, h3.dropLast⟩) rw'⟩
    · cases e
  · cases e
theorem Pop (ho : KE X T W o φ) (h1 : isSup o = false := by rfl) (hline : (apos.endLine == pos.line) = true := by rfl) : KE X T W (.Call (.Attribute o "pop" apos) [] [] pos) (eBm isLst popG φ aNil) :=
  d_bm0 PySem.F.plainAttrs_list PySem.F.slot_list_pop PySem.F.type_list_pop (fun _ => m_pop) (fun r h e => ty_lst r h e) ho h1 hline
/-! ### range(a, b, -1) -/
def rng3K (xs : List D) (M : Mem) : R Src := match xs with
  | [.int m, .int n, .int c] => if mid m && mid n && (c == -1) then .ok ⟨rangeL m (m - n).toNat (-1), fun _ => true⟩ M else .bad
  | _ => .bad
def iRange3 (α : Sem1 (List D)) : Sem1 Src := fun s M => (α s M).bind fun xs M1 => rng3K xs M1
theorem ki_range3 {a b c : Expr} (hg : Gl X "range") (hm : X.mg "range" = none) (ha : KA X T W [a, b, c] α)
    (hs : starEach [a, b, c] X.env = (false, eval a X.env) :: starEach [b, c] X.env := by rfl) (hpl : (backTo pos (starEach [b, c] X.env)).any (·.1) = false := by rfl) : KI X T W tg (.Call (.Name "range" p) [a, b, c] [] pos) (iRange3 α) := ⟨fun rs => PI.imp (pi_range3 hg hm (ha.pa rs) hs hpl) fun σ H Q h => by
  obtain ⟨ι, F, s, M, r, rS, p⟩ := h
  refine ⟨ι, F, s, M, r, rS, p.step fun vs H1 ι1 F1 M1 ds l1 r1 rv p1 => ?_⟩
  unfold rng3K at p1
  split at p1
  · rename_i m n c
    split at p1
    · rename_i hc
      rw [Bool.and_eq_true, Bool.and_eq_true, mid_iff, mid_iff, beq_iff_eq] at hc
      obtain ⟨⟨⟨a1, a2⟩, a3, a4⟩, rfl⟩ := hc
      obtain ⟨v1, q1, rfl, h1, rv⟩ := rv
      obtain ⟨v2, q2, rfl, h2, rv⟩ := rv
      obtain ⟨v3, q3, rfl, h3, rv⟩ := rv
      cases h1; cases h2; cases h3
      have rv : q3 = [] := rv
      subst rv
      exact ⟨m, n, -1, (m - n).toNat, rfl, RgC.neg (by omega) (by omega) (by omega) (by omega), p1.fin r1 (repI.mk walk_rangeC trivial)⟩
    · exact p1.elim
  · exact p1.elim⟩
/-! ### reversed -/
def revR (M : Mem) : D → R Src
  | .tup xs => .ok ⟨xs.reverse, fun _ => true⟩ M
  | .lst xs => .ok ⟨xs.reverse, fun _ => true⟩ M
  | .ref i => match M[i]? with
    | some (.lst xs) => .ok ⟨xs.reverse, mutChk i xs⟩ M
    | _ => .bad
  | _ => .bad
def iRev (φ : Sem1 D) : Sem1 Src := fun s M => (φ s M).bind fun x M1 => revR M1 x
theorem rev_get {α : Type} {xs : List α} {i : Nat} (h : i < xs.length) : xs.reverse[i]? = xs[xs.length - 1 - i]? := by
  rw [List.getElem?_reverse h]
theorem walk_revT {a : Addr} {xs : List D} : WalkD K (RT.ItvT K.fr a xs.length) ⟨xs.reverse, fun _ => true⟩ (fun ι F => Rep K ι F (.tup xs) (.ref a)) where
  mono := fun l h => l _ _ h
  go := fun {ι F rs H M i} _ h r _ hi => by
    obtain ⟨a', vs, e, s1, h2⟩ := h
    cases e
    have hi : i < xs.reverse.length := hi
    rw [List.length_reverse] at hi
    have hl : vs.length = xs.length := RepL.length h2
    exact ⟨hi, vs, vs[xs.length - 1 - i]'(by omega), sqt_sub r s1, List.getElem?_eq_getElem (by omega)⟩
  stop := fun {ι F rs H M} _ h r _ => by
    show xs.length ≤ xs.reverse.length
    rw [List.length_reverse]
    exact Nat.le_refl _
  yld := fun {ι F rs H M i d x H'} _ h r _ e y => by
    obtain ⟨a', vs, e1, s1, h2⟩ := h
    cases e1
    obtain ⟨rfl, y⟩ := y
    have e : xs.reverse[i]? = some d := e
    have hi : i < xs.length := by have := (List.getElem?_eq_some_iff.mp e).1; rw [List.length_reverse] at this; exact this
    rw [rev_get hi] at e
    obtain ⟨v, h3, h4⟩ := RepL.get h2 e
    have q := y vs (sqt_sub r s1)
    rw [h3] at q
    cases q
    exact ⟨ι, F, Le.refl, r, h4⟩
theorem walk_revL {a : Addr} {xs : List D} : WalkD K (Itv K.fr a xs.length) ⟨xs.reverse, fun _ => true⟩ (fun ι F => Rep K ι F (.lst xs) (.ref a)) where
  mono := fun l h => l _ _ h
  go := fun {ι F rs H M i} _ h r _ hi => by
    obtain ⟨a', vs, e, s1, h2⟩ := h
    cases e
    have hi : i < xs.reverse.length := hi
    rw [List.length_reverse] at hi
    have hl : vs.length = xs.length := RepL.length h2
    exact ⟨hi, vs, vs[xs.length - 1 - i]'(by omega), sql_sub r s1, List.getElem?_eq_getElem (by omega)⟩
  stop := fun {ι F rs H M} _ h r _ => by
    show xs.length ≤ xs.reverse.length
    rw [List.length_reverse]
    exact Nat.le_refl _
  yld := fun {ι F rs H M i d x H'} _ h r _ e y => by
    obtain ⟨a', vs, e1, s1, h2⟩ := h
    cases e1
    obtain ⟨rfl, y⟩ := y
    have e : xs.reverse[i]? = some d := e
    have hi : i < xs.length := by have := (List.getElem?_eq_some_iff.mp e).1; rw [List.length_reverse] at this; exact this
    rw [rev_get hi] at e
    obtain ⟨v, h3, h4⟩ := RepL.get h2 e
    have q := y vs (sql_sub r s1)
    rw [h3] at q
    cases q
    exact ⟨ι, F, Le.refl, r, h4⟩
theorem walk_revM {a : Addr} {j : Nat} {xs : List D} : WalkD K (Itv K.fr a xs.length) ⟨xs.reverse, mutChk j xs⟩ (fun ι F => Rep K ι F (.ref j) (.ref a)) where
  mono := fun l h => l _ _ h
  go := fun {ι F rs H M i} _ h r c hi => by
    obtain ⟨a', e, q⟩ := h
    cases e
    obtain ⟨_, vs, s1, h2⟩ := r.obj j _ a (mutChk_at c) q rfl
    have hi : i < xs.reverse.length := hi
    rw [List.length_reverse] at hi
    have hl : vs.length = xs.length := RepL.length h2
    exact ⟨hi, vs, vs[xs.length - 1 - i]'(by omega), .inl (.inl s1), List.getElem?_eq_getElem (by omega)⟩
  stop := fun {ι F rs H M} _ h r _ => by
    show xs.length ≤ xs.reverse.length
    rw [List.length_reverse]
    exact Nat.le_refl _
  yld := fun {ι F rs H M i d x H'} _ h r c e y => by
    obtain ⟨a', e1, q⟩ := h
    cases e1
    obtain ⟨_, vs, s1, h2⟩ := r.obj j _ a (mutChk_at c) q rfl
    obtain ⟨rfl, y⟩ := y
    have e : xs.reverse[i]? = some d := e
    have hi : i < xs.length := by have := (List.getElem?_eq_some_iff.mp e).1; rw [List.length_reverse] at this; exact this
    rw [rev_get hi] at e
    obtain ⟨v, h3, h4⟩ := RepL.get h2 e
    have q := y vs (.inl (.inl s1))
    rw [h3] at q
    cases q
    exact ⟨ι, F, Le.refl, r, h4⟩
theorem ki_rev (hg : Gl X "reversed") (hm : X.mg "reversed" = none) (he : KE X T W e φ) (hs : starEach [e] X.env = (false, eval e X.env) :: starEach [] X.env := by rfl) : KI X T W tg (.Call (.Name "reversed" p) [e] [] pos) (iRev φ) := ⟨fun rs => PI.imp (RT.pi_revA hg hm (he rs) hs) fun σ H Q h => by
  obtain ⟨ι, F, s, M, r, rS, p⟩ := h
  refine ⟨ι, F, s, M, r, rS, p.step fun v H1 ι1 F1 M1 d l1 r1 rv p1 => ?_⟩
  cases d with
  | tup xs =>
    obtain ⟨a, vs, rfl, s1, ll⟩ := id rv
    refine ⟨a, vs, rfl, .inr ⟨sqt_sub r1 s1, ?_⟩⟩
    rw [RepL.length ll]
    exact p1 ι1 F1 H1 _ Le.refl r1 (repI.mk walk_revT rv)
  | lst xs =>
    obtain ⟨a, vs, rfl, s1, ll⟩ := id rv
    refine ⟨a, vs, rfl, .inl ⟨sql_sub r1 s1, ?_⟩⟩
    rw [RepL.length ll]
    exact p1 ι1 F1 H1 _ Le.refl r1 (repI.mk walk_revL rv)
  | ref i =>
    simp only [revR] at p1
    split at p1
    · rename_i xs hM
      obtain ⟨a, rfl, hi⟩ := id rv
      obtain ⟨_, vs, s1, ll⟩ := r1.obj i _ a hM hi rfl
      refine ⟨a, vs, rfl, .inl ⟨.inl (.inl s1), ?_⟩⟩
      rw [RepL.length ll]
      exact p1 ι1 F1 H1 _ Le.refl r1 (repI.mk walk_revM rv)
    · exact p1.elim
  | _ => exact p1.elim⟩
end
/-! ### in, a tuple of data -/
def inTD (M : Mem) (x y : D) : Option Bool := match y with
  | .tup xs => (pyOf M x).bind fun p => (pyL xs).bind fun ps => if SeqAt.shaped p && SeqAt.shaped (.tuple ps) then some (ps.any fun z => PyData.eqv z p) else none
  | _ => none
section
variable {X : Cx} {T : Tab} {rs : List (Addr × HO)}
theorem canLay_tup {ps : List PyData} (h : SeqAt.shaped (.tuple ps) = true) : PyData.canLayAll0 ps = true := SeqAt.canLay_of_shaped h
theorem o_inT (hu : X.A.units + 65 < cLine) : OpR X (compareOp .In) (RO2 (kx X T) rs (boD inTD)) := fun pins s σ H x y v u Q I rx ry h => by
  obtain ⟨ι, F, M, d, e, z, M', r, h1, h2, g, q⟩ := h
  unfold boD at g
  obtain ⟨k, g1, g2⟩ := Option.map_eq_some_iff.mp g
  cases g2
  unfold inTD at g1
  split at g1
  · rename_i xs
    obtain ⟨p, e1, g1⟩ := Option.bind_eq_some_iff.mp g1
    obtain ⟨ps, e2, g1⟩ := Option.bind_eq_some_iff.mp g1
    split at g1
    · rename_i hs
      rw [Bool.and_eq_true] at hs
      cases g1
      obtain ⟨as, r1⟩ := Dp.reads I p x v (pyOf_dp r e1 h1) rx
      obtain ⟨bs, r2⟩ := Dp.reads I (.tuple ps) y u (pyD_dp r (.tup xs) (.tuple ps) y (by rw [pyD, e2] <;> rfl) h2) ry
      exact SeqAt.in_tuple_reads r2 r1 (canLay_tup hs.2) (SeqAt.canLay_of_shaped hs.1) (room_in_shaped hs.1 hu) ⟨.bl _, H, I, rfl, q ι F H _ Le.refl r rfl⟩
    · cases g1
  · cases g1
theorem o_notinT (hu : X.A.units + 65 < cLine) : OpR X (compareOp .NotIn) (RO2 (kx X T) rs (boD (notB inTD))) := fun pins s σ H x y v u Q I rx ry h => by
  obtain ⟨ι, F, M, d, e, z, M', r, h1, h2, g, q⟩ := h
  unfold boD at g
  obtain ⟨k, g1, g2⟩ := Option.map_eq_some_iff.mp g
  cases g2
  obtain ⟨k', g1, g3⟩ := Option.map_eq_some_iff.mp g1
  unfold inTD at g1
  split at g1
  · rename_i xs _
    obtain ⟨p, e1, g1⟩ := Option.bind_eq_some_iff.mp g1
    obtain ⟨ps, e2, g1⟩ := Option.bind_eq_some_iff.mp g1
    split at g1
    · rename_i hs
      rw [Bool.and_eq_true] at hs
      cases g1
      subst g3
      obtain ⟨as, r1⟩ := Dp.reads I p x v (pyOf_dp r e1 h1) rx
      obtain ⟨bs, r2⟩ := Dp.reads I (.tuple ps) y u (pyD_dp r (.tup xs) (.tuple ps) y (by rw [pyD, e2] <;> rfl) h2) ry
      exact SeqAt.notIn_tuple_reads r2 r1 (canLay_tup hs.2) (SeqAt.canLay_of_shaped hs.1) (room_in_shaped hs.1 hu) ⟨.bl _, H, I, rfl, q ι F H _ Le.refl r rfl⟩
    · cases g1
  · cases g1
end
/-! ### rows -/
section
variable {s : DS} {M : Mem} {a : Sem1 D} {α : Sem1 (List D)} {xs : List D} {d : D} {i : Nat}
theorem q_Pop : eBm isLst popG a aNil s M = bnd (a s M) (fun x M1 => okS (isLst M1 x) (bnd (aNil s M1) (fun ds M2 => ofO (popG x ds M2)) .mk) .mk) .mk := rfl
theorem v_pop : popG (.ref i) [] M = popK i M[i]? M := by
  unfold popG popK
  first
  | (dsimp only; done)
  | (dsimp only
     rcases M[i]? with _ | o
     · rfl
     · cases o <;> rfl)
theorem popK_s : popK i (some (.lst (xs ++ [d]))) M = some (d, M.set i (.lst xs)) := by
  unfold popK
  simp
theorem q_Range3 : iRange3 α s M = bnd (α s M) (fun xs M1 => rng3K xs M1) .mk := rfl
theorem q_iRev : iRev a s M = bnd (a s M) (fun x M1 => revR M1 x) .mk := rfl
theorem revR_t : revR M (.tup xs) = .ok ⟨xs.reverse, fun _ => true⟩ M := rfl
theorem revR_l : revR M (.lst xs) = .ok ⟨xs.reverse, fun _ => true⟩ M := rfl
theorem revR_m (h : M[i]? = some (.lst xs)) : revR M (.ref i) = .ok ⟨xs.reverse, mutChk i xs⟩ M := by simp only [revR, h]
theorem q_DicF : eDic0 false s M = .ok (.dic [] []) M := rfl
end
end LD
namespace LD
open PySem PySem.Spec PyProof.Rows L2 SrtO

/-! ### sorted(d), d a dict whose keys are texts -/
theorem cps_tot : ∀ x y : List Nat, ltCps x y = false → ltCps y x = false → x = y
  | [], [], _, _ => rfl
  | [], _ :: _, h, _ => by simp [ltCps] at h
  | _ :: _, [], _, h => by simp [ltCps] at h
  | a :: r, b :: t, h1, h2 => by
    simp only [ltCps, Bool.or_eq_false_iff, decide_eq_false_iff_not, Bool.and_eq_false_iff] at h1 h2
    have e : a = b := by omega
    subst e
    have h1' : ltCps r t = false := h1.2.resolve_left (by simp)
    have h2' : ltCps t r = false := h2.2.resolve_left (by simp)
    rw [cps_tot r t h1' h2']
theorem cps_asym : ∀ x y : List Nat, ltCps x y = true → ltCps y x = false
  | [], [], h => by simp [ltCps] at h
  | [], _ :: _, _ => by simp [ltCps]
  | _ :: _, [], h => by simp [ltCps] at h
  | a :: r, b :: t, h => by
    simp only [ltCps, Bool.or_eq_true, decide_eq_true_eq, Bool.and_eq_true, beq_iff_eq] at h
    simp only [ltCps, Bool.or_eq_false_iff, decide_eq_false_iff_not, Bool.and_eq_false_iff]
    rcases h with h | ⟨rfl, h⟩
    · exact ⟨by omega, .inl (by simp; omega)⟩
    · exact ⟨by omega, .inr (cps_asym r t h)⟩
/-- not below, through -/
theorem cps_tr : ∀ x y z : List Nat, ltCps y x = false → ltCps z y = false → ltCps z x = false
  | [], _, [], _, _ => by simp [ltCps]
  | [], _, _ :: _, _, _ => by simp [ltCps]
  | a :: r, [], z, h, _ => by simp [ltCps] at h
  | a :: r, b :: t, [], _, h => by simp [ltCps] at h
  | a :: r, b :: t, c :: u, h1, h2 => by
    simp only [ltCps, Bool.or_eq_false_iff, decide_eq_false_iff_not, Bool.and_eq_false_iff] at h1 h2 ⊢
    refine ⟨by omega, ?_⟩
    by_cases e : c = a
    · have e1 : b = a := by omega
      subst e1
      subst e
      exact .inr (cps_tr r t u (h1.2.resolve_left (by simp)) (h2.2.resolve_left (by simp)))
    · exact .inl (by simpa using e)
def ltS (a b : Str) : Bool := ltCps a.cps.toList b.cps.toList
theorem ltS_swo : Swo ltS := ⟨fun x y h => cps_asym _ _ h, fun x y z h1 h2 => cps_tr _ _ _ h1 h2⟩
theorem ltS_tot (x y : Str) (h1 : ltS x y = false) (h2 : ltS y x = false) : x = y := by
  have := cps_tot _ _ h1 h2
  obtain ⟨a⟩ := x
  obtain ⟨b⟩ := y
  have e : a = b := by simpa using congrArg List.toArray this
  rw [e]
def srtS (l : List Str) : List Str := isort ltS l
theorem srtd_uniq {α : Type} {lt : α → α → Bool} (tot : ∀ x y, lt x y = false → lt y x = false → x = y) : ∀ l m : List α, l.Perm m → Srtd lt l → Srtd lt m → l = m
  | [], m, p, _, _ => (List.Perm.nil_eq p).symm ▸ rfl
  | x :: r, [], p, _, _ => by have := p.length_eq; simp at this
  | x :: r, y :: t, p, h1, h2 => by
    have h1' := List.pairwise_cons.mp h1
    have h2' := List.pairwise_cons.mp h2
    have e : x = y := by
      rcases List.mem_cons.mp (p.mem_iff.mp (List.mem_cons_self (a := x) (l := r))) with e | hx
      · exact e
      · rcases List.mem_cons.mp (p.mem_iff.mpr (List.mem_cons_self (a := y) (l := t))) with e | hy
        · exact e.symm
        · exact tot _ _ (h2'.1 x hx) (h1'.1 y hy)
    subst e
    rw [srtd_uniq tot r t (List.Perm.cons_inv p) h1'.2 h2'.2]
theorem rising_srtd : ∀ (l : List Str) (p : Str), risingS p l = true → Srtd ltS (p :: l)
  | [], p, _ => srtd_one p
  | x :: r, p, h => by
    rw [risingS, Bool.and_eq_true] at h
    have hx : ltS x p = false := by
      have := h.1
      unfold ltS
      simpa using this
    have ih := rising_srtd r x h.2
    refine List.pairwise_cons.mpr ⟨fun z hz => ?_, ih⟩
    rcases List.mem_cons.mp hz with rfl | hz
    · exact hx
    · exact ltS_swo.tr _ _ _ hx ((List.pairwise_cons.mp ih).1 z hz)
theorem sortedS_srtd : ∀ l : List Str, sortedS l = true → Srtd ltS l
  | [], _ => List.Pairwise.nil
  | x :: r, h => rising_srtd r x h
theorem srtS_of {l m : List Str} (p : m.Perm l) (h : sortedS m = true) : m = srtS l :=
  srtd_uniq ltS_tot m (srtS l) (p.trans (isort_perm l).symm) (sortedS_srtd m h) (isort_srtd ltS_swo l)
def strK : List Key → Option (List Str)
  | [] => some []
  | .inr x :: r => (strK r).map fun ys => x :: ys
  | _ => none
theorem strK_map : ∀ ks : List Str, strK (ks.map Sum.inr) = some ks
  | [] => rfl
  | k :: ks => by rw [List.map_cons, strK, strK_map ks] <;> rfl
theorem strK_of : ∀ {ks : List Key} {ys : List Str}, strK ks = some ys → ks = ys.map Sum.inr
  | [], ys, h => by cases h; rfl
  | .inr x :: r, ys, h => by
    rw [strK] at h
    obtain ⟨zs, h1, rfl⟩ := Option.map_eq_some_iff.mp h
    rw [strK_of h1] <;> rfl
  | .inl _ :: _, _, h => by cases h
def sortDC : OL := fun ds M => match ds with
  | [x] => (dcOf M x).bind fun kvs => (strK (kvs.map (·.1))).bind fun ks => if ks.length < 64 then some (.lst ((srtS ks).map .str), M) else none
  | _ => none
theorem repL_strs {K : KX} {ι : List Addr} {F : Hp} : ∀ L : List Str, RepL K ι F (L.map D.str) (L.map V.str)
  | [] => rfl
  | y :: L => ⟨_, _, rfl, rfl, repL_strs L⟩
section
variable {X : Cx} {T : Tab} {rs : List (Addr × HO)}
theorem c_sortedD (hc : X.calm = true) : CallR X (.builtin "sorted") (RC (kx X T) rs sortDC) := CallR.imp (call_sortedD hc) fun vs H Q h => by
  obtain ⟨ι, F, M, ds, z, M', r, rd, e, q⟩ := h
  unfold sortDC at e
  split at e
  · rename_i x
    obtain ⟨kvs, e1, e⟩ := Option.bind_eq_some_iff.mp e
    obtain ⟨ks, e2, e⟩ := Option.bind_eq_some_iff.mp e
    split at e
    · rename_i hl
      cases e
      obtain ⟨v, rfl, hv⟩ := one_of rd
      obtain ⟨a, vs, rfl, s1, m1, m2⟩ := dcOf_at r e1 hv
      refine ⟨a, vs, ks, rfl, s1, by rw [m1]; exact strK_of e2, hl, fun ys p hp hs hn => ?_⟩
      have e3 := srtS_of hp hs
      subst e3
      have l := Le.new (K := kx X T) (ι := ι) (F := F) (o := .lst ((srtS ks).map V.str)) (r.free hn)
      refine q ι (upd F p (.lst ((srtS ks).map V.str))) _ _ l (r.frozen hn) ⟨p, _, rfl, .inl (.inl upd_same), repL_strs _⟩
    · cases e
  · cases e
end
section
variable {M : Mem} {i : Nat} {kvs : List (Key × D)} {ks : List Str}
theorem v_sortD (h : dcOf M (.ref i) = some kvs) (h2 : kvs.map (·.1) = ks.map Sum.inr) (hl : ks.length < 64) : sortDC [.ref i] M = some (.lst ((srtS ks).map .str), M) := by
  unfold sortDC
  simp only [h, Option.bind_some, h2, strK_map]
  exact if_pos hl
end
end LD
namespace LD
open PySem PySem.Spec PyProof.Rows L2 SrtO

/-! ### sorted(xs), xs pairs of texts -/
theorem cps_lt : ∀ x y : List Nat, ltCps x y = decide (x < y)
  | [], [] => by simp [ltCps]
  | [], b :: t => by simp [ltCps]
  | a :: r, [] => by simp [ltCps]
  | a :: r, b :: t => by
    rw [ltCps, cps_lt r t]
    refine Bool.eq_iff_iff.mpr ?_
    rw [decide_eq_true_eq, List.cons_lt_cons_iff]
    simp
def ltPr (a b : Str × Str) : Bool := if a.1 = b.1 then ltS a.2 b.2 else ltS a.1 b.1
theorem ltPr_swo : Swo ltPr := ⟨fun x y h => by
    unfold ltPr at h ⊢
    by_cases e : x.1 = y.1
    · rw [if_pos e] at h
      rw [if_pos e.symm]
      exact ltS_swo.asym _ _ h
    · rw [if_neg e] at h
      rw [if_neg (fun z => e z.symm)]
      exact ltS_swo.asym _ _ h, fun x y z h1 h2 => by
    unfold ltPr at h1 h2 ⊢
    by_cases e1 : y.1 = x.1
    · rw [if_pos e1] at h1
      by_cases e2 : z.1 = y.1
      · rw [if_pos e2] at h2
        rw [if_pos (e2.trans e1)]
        exact ltS_swo.tr _ _ _ h1 h2
      · rw [if_neg e2] at h2
        rw [if_neg (fun w => e2 (w.trans e1.symm)), ← e1]
        exact h2
    · rw [if_neg e1] at h1
      by_cases e2 : z.1 = y.1
      · rw [if_neg (fun w => e1 (e2.symm.trans w)), e2]
        exact h1
      · rw [if_neg e2] at h2
        by_cases e3 : z.1 = x.1
        · rw [e3] at h2
          exact absurd (ltS_tot _ _ h1 h2) e1
        · rw [if_neg e3]
          exact ltS_swo.tr _ _ _ h1 h2⟩
theorem ltPr_tot (x y : Str × Str) (h1 : ltPr x y = false) (h2 : ltPr y x = false) : x = y := by
  unfold ltPr at h1 h2
  by_cases e : x.1 = y.1
  · rw [if_pos e] at h1
    rw [if_pos e.symm] at h2
    exact Prod.ext e (ltS_tot _ _ h1 h2)
  · rw [if_neg e] at h1
    rw [if_neg (fun z => e z.symm)] at h2
    exact absurd (ltS_tot _ _ h1 h2) e
def srtP (l : List (Str × Str)) : List (Str × Str) := isort ltPr l
theorem srtP_perm {l m : List (Str × Str)} : srtP l = srtP m ↔ l.Perm m := by
  constructor
  · intro e
    exact ((isort_perm l).symm.trans (by rw [show isort ltPr l = isort ltPr m from e])).trans (isort_perm m)
  · intro p
    exact srtd_uniq ltPr_tot _ _ (((isort_perm l).trans p).trans (isort_perm m).symm) (isort_srtd ltPr_swo l) (isort_srtd ltPr_swo m)
def tupQ (d : D) : Option (Str × Str) := match d with
  | .tup [.str x, .str y] => some (x, y)
  | _ => none
def keyQ (d : D) : Str × Str := (tupQ d).getD ("", "")
def ltQ (a b : D) : Bool := ltPr (keyQ a) (keyQ b)
def sortPC : OL := fun ds M => match ds with
  | [x] => match lsOf M x with
    | some xs => match mapO tupQ xs with
      | some _ => some (.lst (isort ltQ xs), M)
      | none => none
    | none => none
  | _ => none
def TupQ (h : Heap) (u : Value) (k : Str × Str) : Prop := ∃ a o n t t', u = .ref a ∧ h.get? a = some o ∧ o.cls = .type "tuple" ∧ o.data = .seq #[.str k.1 t, .str k.2 t'] n
theorem TupQ.keeps {h h' : Heap} {u : Value} {k : Str × Str} (x : TupQ h u k) (kk : ∀ b o, h.get? b = some o → o.cls = .type "tuple" → h'.get? b = some o) : TupQ h' u k := by
  obtain ⟨a, o, n, t, t', e, ho, hc, hd⟩ := x
  exact ⟨a, o, n, t, t', e, kk _ _ ho hc, hc, hd⟩
def kvQ (h : Heap) (u : Value) : Str × Str := match u with
  | .ref a => match h.get? a with
    | some o => match o.data with
      | .seq its _ => match its.toList with
        | [.str x _, .str y _] => (x, y)
        | _ => ("", "")
      | _ => ("", "")
    | none => ("", "")
  | _ => ("", "")
theorem TupQ.key {h : Heap} {u : Value} {k : Str × Str} (x : TupQ h u k) : kvQ h u = k := by
  obtain ⟨a, o, n, t, t', rfl, ho, hc, hd⟩ := x
  simp only [kvQ, ho, hd]
section
variable {prog : Program} {w : World} {A : Around} {s : Shared}
theorem tupsQ_cmp {vs : List Value} {K : Value → Str × Str} (hp : ∀ v ∈ vs, TupQ s.heap v (K v)) : Cmp prog w A s (tuples' true) (fun p => p.1 ∈ vs) (lt2 fun v u => ltPr (K v) (K u)) := by
  intro p q hm hm'
  obtain ⟨a, o, n, t, t2, e, ho, hc, hd⟩ := hp _ hm
  obtain ⟨a', o', n', t', t2', e', ho', hc', hd'⟩ := hp _ hm'
  show wpAny (model prog w) A (keyLt' (tuples' true) p.1 q.1) (fun rr s' => s' = s ∧ rr = ltPr (K p.1) (K q.1)) (fun _ _ => False) s
  rw [e, e']
  refine PySem.W.kat_lt ho hd ho' hd' ?_
  show PySem.W.KatLex prog w A true (decide (2 < 2)) _ [(.str (K p.1).1 t, .str (K q.1).1 t'), (.str (K p.1).2 t2, .str (K q.1).2 t2')] 0 s
  rw [← e, ← e', show decide (2 < 2) = false from rfl]
  generalize K p.1 = x
  generalize K q.1 = y
  refine PySem.W.kat_cons (SeqAt.EqAt.str_str x.1 t y.1 t' prog w _ _ ?_)
  refine PySem.W.kat_go (fun e1 => ?_) (fun e1 => ?_)
  · have e1 : x.1 = y.1 := by simpa using e1
    refine PySem.W.kat_yes (PySem.W.kat_cons (SeqAt.EqAt.str_str x.2 t2 y.2 t2' prog w _ _ ?_))
    refine PySem.W.kat_go (fun e2 => ?_) (fun e2 => ?_)
    · have e2 : x.2 = y.2 := by simpa using e2
      refine PySem.W.kat_yes (PySem.W.kat_nil ⟨rfl, ?_⟩)
      unfold ltPr
      rw [if_pos e1, e2]
      cases h : ltS y.2 y.2 with
      | false => rfl
      | true => exact absurd (ltS_swo.asym _ _ h) (by rw [h]; simp)
    · refine PySem.W.kat_no (PySem.W.kat_one _ _ (PyProof.Rows.lt_str ⟨rfl, ?_⟩))
      unfold ltPr
      rw [if_pos e1]
      unfold ltS
      rw [cps_lt]
  · have e1 : ¬ x.1 = y.1 := by simpa using e1
    refine PySem.W.kat_no (oneLt_str ⟨rfl, ?_⟩)
    unfold ltPr
    rw [if_neg e1]
    unfold ltS
    rw [cps_lt]
theorem tupsQ_firsts {h : Heap} {K : Value → Str × Str} : ∀ {vs : List Value}, (∀ v ∈ vs, TupQ h v (K v)) → ∃ fs : List Value, PySem.W.KatTups h vs fs ∧ fs.length = vs.length ∧ ∀ f ∈ fs, ∃ x t, f = Value.str x t
  | [], _ => ⟨[], PySem.W.KatTups.nil, rfl, fun _ hm => by simp at hm⟩
  | v :: vs, hp => by
    obtain ⟨fs, h1, h2, h3⟩ := tupsQ_firsts (vs := vs) fun v' hm => hp v' (List.mem_cons_of_mem _ hm)
    obtain ⟨a, o, n, t, t', e, ho, hc, hd⟩ := hp v (List.mem_cons_self ..)
    subst e
    refine ⟨.str (K (.ref a)).1 t :: fs, PySem.W.KatTups.cons ho hc hd rfl h1, by rw [List.length_cons, List.length_cons, h2], fun f hm => ?_⟩
    rcases List.mem_cons.mp hm with rfl | hm
    · exact ⟨_, t, rfl⟩
    · exact h3 f hm
theorem tupsQ_sortable {a : Addr} {vs : List Value} {K : Value → Str × Str} (h0 : 0 < vs.length) (hp : ∀ v ∈ vs, TupQ s.heap v (K v)) (ha : ∀ o, s.heap.get? a = some o → o.cls ≠ .type "tuple") :
    SortableO prog w A s a vs fun v u => ltPr (K v) (K u) := by
  intro h' keep
  have hp' : ∀ v ∈ vs, TupQ h' v (K v) := fun v hm => (hp v hm).keeps fun b o e c => keep b o (fun z => by subst z; exact ha o e c) e
  obtain ⟨fs, h1, h2, h3⟩ := tupsQ_firsts hp'
  refine ⟨tuples' true, fun Q E hq => ?_, tupsQ_cmp hp'⟩
  refine PySem.W.kat_kind (T := .type "str") h1 (by omega) (fun f hm => ?_) (by rfl) ?_
  · obtain ⟨x, t, rfl⟩ := h3 f hm
    exact PySem.W.Looks.now
  · have e : (Value.type "str" != Value.type "tuple") = true := by first | decide +kernel | rfl | decide
    rw [e]
    exact hq
end
section
variable {X : Cx} {T : Tab} {ι : List Addr} {F H : Hp} {M : Mem} {rs : List (Addr × HO)} {pins : List (Addr × Obj)} {σ : L2.St} {s : Shared}
theorem tupQ_rep (I : Inv X pins σ H s) (r : Rel (kx X T) ι F rs H M) {d : D} {v : V} {u : Value} {k : Str × Str} (e : tupQ d = some k) (rd : Rep (kx X T) ι F d v) (rv : RelV v u) : TupQ s.heap u k := by
  unfold tupQ at e
  split at e
  · rename_i x y
    cases e
    obtain ⟨a, ws, rfl, s1, l1⟩ := rd
    obtain rfl : u = Value.ref a := rv
    obtain ⟨its, rvs, ⟨o, ho, hc, m, hd⟩, _⟩ := I.tuple (sqt_sub r s1)
    obtain ⟨v1, v2, rfl, h1, h2⟩ := two_of l1
    cases h1
    cases h2
    obtain ⟨u1, u2, rfl, r1, r2⟩ := vals2 rvs
    obtain ⟨t1, rfl⟩ := r1
    obtain ⟨t2, rfl⟩ := r2
    exact ⟨a, o, m, t1, t2, rfl, ho, hc, hd⟩
  · cases e
theorem c_sortedQ : CallR X (.builtin "sorted") (RC (kx X T) rs sortPC) := by
  intro pins s σ H vs us Q I rv h
  obtain ⟨ι, F, M, ds, z, M', r, rd, e, q⟩ := h
  unfold sortPC at e
  split at e
  · rename_i x
    split at e
    · rename_i xs hxs
      split at e
      · rename_i ks hks
        cases e
        obtain ⟨v, rfl, h1⟩ := one_of rd
        obtain ⟨u, rfl, ru⟩ := vals1 rv
        obtain ⟨a, ws, rfl, s1, l1⟩ := lsOf_at r hxs h1
        obtain rfl : u = Value.ref a := ru
        obtain ⟨its, rvs, hl, hz⟩ := I.list s1
        obtain ⟨P, p1, p2, p3, hP⟩ := zipP l1 rvs
        have hT : ∀ p ∈ P, ∃ k, tupQ p.1 = some k ∧ TupQ s.heap p.2.2 k := fun p hp => by
          obtain ⟨k, hk, e⟩ := mapO_mem hks (by rw [← p1]; exact List.mem_map.mpr ⟨p, hp, rfl⟩)
          exact ⟨k, e, tupQ_rep I r e (hP p hp).1 (hP p hp).2⟩
        have hV : ∀ v ∈ its, TupQ s.heap v (kvQ s.heap v) := fun v hv => by
          rw [← p3] at hv
          obtain ⟨p, hp, rfl⟩ := List.mem_map.mp hv
          obtain ⟨k, _, ht⟩ := hT p hp
          rw [ht.key]
          exact ht
        have O : Swo (fun v u : Value => ltPr (kvQ s.heap v) (kvQ s.heap u)) := ⟨fun x y h => ltPr_swo.asym _ _ h, fun x y z h1 h2 => ltPr_swo.tr _ _ _ h1 h2⟩
        refine sorted_ord O hl.isList (by rw [← rvs.length]; exact hz) (fun h2 h₁ a ha kk => ?_) fun out hs hb => ?_
        · refine tupsQ_sortable (s := { s with heap := h₁ }) (by omega) (fun v hm => (hV v hm).keeps fun b o e _ => (kk b o e).2) fun o e => ?_
          have e' : some o = some (seqObj "list" its.toArray 0) := e.symm.trans ha
          cases e'
          intro c
          exact absurd (Value.type.inj c) (by decide)
        · have O2 : Swo (fun p q : D × V × Value => ltPr (kvQ s.heap p.2.2) (kvQ s.heap q.2.2)) := ⟨fun x y h => ltPr_swo.asym _ _ h, fun x y z h1 h2 => ltPr_swo.tr _ _ _ h1 h2⟩
          have eout : out = (isort (fun p q : D × V × Value => ltPr (kvQ s.heap p.2.2) (kvQ s.heap q.2.2)) P).map (·.2.2) := by
            refine stb_uniq O hs (List.pairwise_map.mpr (isort_srtd O2 P)) ?_
            have h3 := Stb.map O (fun p : D × V × Value => p.2.2) (isort_stb O2 P)
            rw [p3] at h3
            exact hb.trans ⟨h3.perm.symm, fun x => (h3.cls x).symm⟩
          have hsame : isort ltQ xs = (isort (fun p q : D × V × Value => ltPr (kvQ s.heap p.2.2) (kvQ s.heap q.2.2)) P).map (·.1) := by
            rw [← p1, isort_map]
            congr 1
            refine isort_congr fun p hp q hq => ?_
            obtain ⟨k, e1, t1⟩ := hT p hp
            obtain ⟨k', e2, t2⟩ := hT q hq
            rw [t1.key, t2.key]
            unfold ltQ keyQ
            rw [e1, e2] <;> rfl
          generalize hP' : isort (fun p q : D × V × Value => ltPr (kvQ s.heap p.2.2) (kvQ s.heap q.2.2)) P = P' at eout hsame
          have hm : ∀ p ∈ P', p ∈ P := fun p hp => by rw [← hP'] at hp; exact (isort_perm P).mem_iff.mp hp
          have kp := fun b o (e : s.heap.get? b = some o) => sortedAll_old (vs := its) (out := out.toArray) e
          obtain ⟨n, hn⟩ := sortedAll_at s.heap its out.toArray
          subst eout
          have hlen : (P'.map (·.2.1)).length ≤ sizeLine := by
            have : P'.length = P.length := by rw [← hP']; exact (isort_perm P).length_eq
            have h4 := congrArg List.length p2
            rw [List.length_map] at h4 ⊢
            omega
          have hnone := I.hok.fresh (Nat.le_succ s.heap.objs.size)
          refine ⟨.ref _, _, I.laid (t' := s.toks) (o := .lst (P'.map (·.2.1))) kp (Nat.le_succ _) ⟨hlen, _, n, vals_P fun p hp => (hP p (hm p hp)).2, hn⟩, rfl, ?_⟩
          rw [hsame] at q
          exact q ι (upd F _ (.lst (P'.map (·.2.1)))) _ _ (Le.new (r.free hnone)) (r.frozen hnone) ⟨_, _, rfl, .inl (.inl upd_same), RepL.le (Le.new (r.free hnone)) (rep_P fun p hp => (hP p (hm p hp)).1)⟩
      · cases e
    · cases e
  · cases e
end
abbrev prQ (p : Str × Str) : D := .tup [.str p.1, .str p.2]
theorem v_sortQ {M : Mem} {x : D} {ps : List (Str × Str)} (h : lsOf M x = some (ps.map prQ)) : sortPC [x] M = some (.lst ((srtP ps).map prQ), M) := by
  have e1 : ∀ ps : List (Str × Str), mapO tupQ (ps.map prQ) = some ps := fun ps => by
    induction ps with
    | nil => rfl
    | cons a as ih =>
      show ((tupQ (prQ a)).bind fun b => (mapO tupQ (as.map prQ)).map fun bs => b :: bs) = _
      rw [ih] <;> rfl
  have e2 : isort ltQ (ps.map prQ) = (srtP ps).map prQ := by
    rw [isort_map]
    rfl
  simp only [sortPC, h, e1, e2]
end LD
namespace LD
open PySem PySem.Spec PyProof.Rows L2

/-! ### e.f += value, ints -/
def augS (j : Nat) (i c : Nat) (p : Int) (s : DS) (y : D) (M2 : Mem) : RS := match y with
  | .int q => match M2[i]? with
    | some (.ins c2 fs2) => if c2 = c then .nx s (M2.set i (.ins c (fs2.set j (some (.int (p + q)))))) else .bad
    | _ => .bad
  | _ => .bad
def augF (tf : List (Nat × Nat)) (a : Sem1 D) (s : DS) (i : Nat) (M1 : Mem) : Option DO → RS
  | some (.ins c fs) => match tf.lookup c with
    | some j => match fs[j]? with
      | some (some (.int p)) => bindS (a s M1) s fun y M2 => augS j i c p s y M2
      | _ => .bad
    | none => .bad
  | _ => .bad
def augR (tf : List (Nat × Nat)) (a : Sem1 D) (s : DS) (x : D) (M1 : Mem) : RS := match x with
  | .ref i => augF tf a s i M1 M1[i]?
  | _ => .bad
def sAugD (tf : List (Nat × Nat)) (o a : Sem1 D) : SSem := fun s M => bindS (o s M) s fun x M1 => augR tf a s x M1
section
variable {X : Cx} {T : Tab} {W : WX} {K : KX} {ι ι' : List Addr} {F F' H : Hp} {M M' : Mem} {rs : List (Addr × HO)} {s : DS} {σ : L2.St} {o i a : Expr} {φ ψ χ : Sem1 LD.D} {pos pos' tpos : Pos} {x y d : LD.D}
theorem s_aug {tf : List (Nat × Nat)} {m : Str} (hf : ∀ c j, tf.lookup c = some j → ∃ C ly, T.ct[c]? = some (C, ly) ∧ Cls X.K C ∧ NoAttr X.K C m ∧ ly[j]? = some m ∧ ly.length < 1000 ∧ ly.Nodup)
    (ha : KE X T W a φ) (ho : KE X T W o ψ) : KS X T W (.AugAssign (.Attribute o m tpos) .Add a pos) (sAugD tf ψ φ) := ⟨fun rs => PS.imp (ps_fldaug (ho rs) (ha rs) in_add) fun D σ H h => by
  obtain ⟨ι, F, s, M, r, rS, p⟩ := h
  refine ⟨ι, F, s, M, r, rS, p.step rS fun ov H2 ι1 F1 M1 x _ l1 r1 ro p1 => ?_⟩
  cases x with
  | ref i =>
    simp only [augR] at p1
    cases hM : M1[i]? with
    | none => rw [hM] at p1; exact p1.elim
    | some u =>
    rw [hM] at p1
    cases u with
    | ins c fs =>
      simp only [augF] at p1
      split at p1
      · rename_i j hj
        split at p1
        · rename_i pp hpp
          obtain ⟨a, rfl, hi⟩ := ro
          obtain ⟨C, ly, hc, cl, na, hl, hz, hn⟩ := hf c j hj
          obtain ⟨f0, C', ly', dx, vs, hc', hH, hnd, hsub, hlen, hg⟩ := r1.obj i _ a hM hi rfl
          have e2 : (C, ly) = (C', ly') := Option.some.inj (hc.symm.trans hc')
          cases e2
          obtain ⟨v0, hv0, hr0⟩ := hg j m hl _ hpp
          cases hr0
          refine ⟨a, C, dx, vs, .int pp, rfl, hH, cl, na, hv0, ?_⟩
          refine ⟨ι1, F1, s, M1, r1, rS.le l1, SPost.step p1 (rS.le l1) fun yv H3 ι2 F2 M2 y _ l2 r2 ry p2 => ?_⟩
          cases y with
          | int q =>
            cases ry
            simp only [augS] at p2
            cases hM2 : M2[i]? with
            | none => rw [hM2] at p2; exact p2.elim
            | some u2 =>
            rw [hM2] at p2
            cases u2 with
            | ins c2 fs2 =>
              simp only at p2
              split at p2
              · rename_i hcc
                subst hcc
                have ro2 : Rep (kx X T) ι2 F2 (.ref i) (.ref a) := l2 _ _ ⟨a, rfl, hi⟩
                obtain ⟨a', ea, hi2⟩ := ro2
                cases ea
                obtain ⟨f1, C1, ly1, dx1, vs1, hc1, hH1, hnd1, hsub1, hlen1, hg1⟩ := r2.obj i _ a hM2 hi2 rfl
                have e3 : (C, ly) = (C1, ly1) := Option.some.inj (hc.symm.trans hc1)
                cases e3
                have hvl : vs1.length ≤ ly.length := by
                  have := nodup_len hnd1 hsub1
                  rwa [List.length_map] at this
                refine ⟨pp, q, rfl, rfl, dx1, vs1, hH1, by omega, p2 ι2 F2 _ σ Le.refl (r2.write hM2 hi2 rfl ?_) ((rS.le l1).le l2)⟩
                have hm : m ∈ ly := List.mem_of_getElem? hl
                refine ⟨C, ly, dx1, putF m (.int (pp + q)) vs1, hc, upd_same, ?_, ?_, by rw [List.length_set]; exact hlen1, fun j' f e1 d' e2 => ?_⟩
                · rw [keys_putF']
                  split
                  · exact hnd1
                  · rename_i hnm
                    rw [List.nodup_append]
                    refine ⟨hnd1, List.nodup_cons.mpr ⟨by simp, List.nodup_nil⟩, fun x hx y hy e => ?_⟩
                    rw [List.mem_singleton.mp hy] at e
                    exact hnm (by rw [← e]; exact hx)
                · intro f hf'
                  rw [keys_putF'] at hf'
                  split at hf'
                  · exact hsub1 f hf'
                  · rcases List.mem_append.mp hf' with h | h
                    · exact hsub1 f h
                    · rw [List.mem_singleton.mp h]; exact hm
                · rw [lookup_putF]
                  by_cases hjj : j = j'
                  · subst hjj
                    rw [hl] at e1
                    cases e1
                    have hlt : j < fs2.length := by rw [hlen1]; exact (List.getElem?_eq_some_iff.mp hl).1
                    rw [List.getElem?_set_self hlt] at e2
                    cases e2
                    exact ⟨.int (pp + q), if_pos rfl, rfl⟩
                  · rw [List.getElem?_set_ne hjj] at e2
                    have hff : f ≠ m := fun e => by
                      subst e
                      exact hjj (nodup_inj hn hl e1)
                    rw [if_neg hff]
                    exact hg1 j' f e1 d' e2
              · exact p2.elim
            | _ => exact p2.elim
          | _ => exact p2.elim
        · exact p1.elim
      · exact p1.elim
    | _ => exact p1.elim
  | _ => exact p1.elim⟩
end
def augV (a : Sem1 D) (s : DS) (i : Nat) (M : Mem) (c j : Nat) : Option (Option D) → RS
  | some (some (.int p)) => bindS (a s M) s fun y M2 => augS j i c p s y M2
  | _ => .bad
def augT (j i c : Nat) (p q : Int) (s : DS) (M2 : Mem) : Option DO → RS
  | some (.ins c2 fs2) => if c2 = c then .nx s (M2.set i (.ins c (fs2.set j (some (.int (p + q)))))) else .bad
  | _ => .bad
section
variable {a o : Sem1 D} {s : DS} {M : Mem} {tf : List (Nat × Nat)} {i c j : Nat} {fs : List (Option D)} {p q : Int}
theorem q_Aug : sAugD tf o a s M = bndS (o s M) s (fun x M1 => augR tf a s x M1) .mk := rfl
theorem augR_r : augR tf a s (.ref i) M = augF tf a s i M M[i]? := rfl
theorem augF_c : augF tf a s i M (some (.ins c fs)) = lookS (tf.lookup c) (fun j => augV a s i M c j fs[j]?) .mk := by
  simp only [augF]
  cases tf.lookup c with
  | none => rfl
  | some j =>
    show (match fs[j]? with | some (some (.int p)) => bindS (a s M) s (fun y M2 => augS j i c p s y M2) | _ => RS.bad) = augV a s i M c j fs[j]?
    generalize fs[j]? = z
    cases z with
    | none => rfl
    | some d => cases d with
      | none => rfl
      | some d => cases d <;> rfl
theorem augV_i : augV a s i M c j (some (some (.int p))) = bndS (a s M) s (fun y M2 => augS j i c p s y M2) .mk := rfl
theorem augS_i : augS j i c p s (.int q) M = augT j i c p q s M M[i]? := by
  simp only [augS]
  cases M[i]? with
  | none => rfl
  | some u => cases u <;> rfl
theorem augT_i : augT j i c p q s M (some (.ins c fs)) = .nx s (M.set i (.ins c (fs.set j (some (.int (p + q)))))) := if_pos rfl
end
end LD
namespace LD
open PySem PySem.Spec PyProof.Rows L2

/-! ### an own exception over ValueError whose __init__ says super().__init__(..) and then stores fields -/
structure SupSc (N P : List Str) (sc : Scope) : Prop where
  kind : sc.kind = .function
  co : sc.isCoroutine = false
  gen : sc.isGenerator = false
  nd : N.Nodup
  pre : N.take P.length = P
  par : ∀ x ∈ P, sc.names.lookup x = some .local
  ncell : ∀ y ∈ sc.names, y.2 ≠ .cell
  free : ∀ y ∈ sc.names, y.2 = .free → y.1 = "__class__"
  cls : sc.names.lookup ("__class__" : Str) = some .free
  sup : sc.names.lookup ("super" : Str) = some .globalImplicit
def cxS (CX : CXT) (P : Program) (w : World) (K : PySem.W.Frag) (mg : Str → Option Value) (base : Heap) (N : List Str) (qual : Str) (scope : Scope) (f : Addr) (cd : Value) (cc : Addr) (A : Around) (outer : List Env) (s : Shared) (H : Hp) (E : XK) : Cx where
  prog := P
  w := w
  K := K
  mg := mg
  base := base
  A := A.deeper (PySem.W.ksEnv qual scope s.heap.objs.size f cd cc)
  N := N
  s_0 := s
  H_0 := H
  env := PySem.W.ksEnv qual scope s.heap.objs.size f cd cc
  outer := outer
  stack := PySem.W.ksEnv qual scope s.heap.objs.size f cd cc :: outer
  ex := []
  calm := true
  fn := fun x => x != "__class__"
  pn := []
  xe := fun e s' => wpAny (model P w) (A.deeper (PySem.W.ksEnv qual scope s.heap.objs.size f cd cc)) (leaving (PySem.W.ksEnv qual scope s.heap.objs.size f cd cc) e) (fun _ s'' => CX outer H s E e s'') (fun e' s'' => CX outer H s E e' s'') s'
theorem one_cell {x : Str} {c cc : Addr} (h : ([("__class__", cc)] : List (Str × Addr)).lookup x = some c) : x = "__class__" ∧ c = cc := by
  unfold List.lookup at h
  split at h
  · rename_i e
    cases h
    exact ⟨by simpa using e, rfl⟩
  · cases h
section
variable {CX : CXT} {P : Program} {w : World} {K : PySem.W.Frag} {mg : Str → Option Value} {base : Heap} {N ps : List Str} {qual name : Str} {scope : Scope} {f cc : Addr} {cd : Value} {A : Around} {outer : List Env} {s : Shared} {H : Hp} {E : XK} {us : List Value} {vs : List V}
theorem rev_lookup : ∀ {ps : List Str} {us : List Value} {i : Nat} {x : Str} {v : Value}, ps.Nodup → ps[i]? = some x → us[i]? = some v → (ps.zip us).reverse.lookup x = some v := fun {ps us i x v} nd h1 h2 => by
  have e := bindL_loc (kindOf := fun _ => some .local) (ps.zip us) (fun _ => none) (fun _ _ => rfl) x
  rw [bindL_get nd h1 h2 rfl] at e
  rw [Option.or_none] at e
  exact e.symm
theorem inv_sup {ccl : Value} {cld : Option Addr} {csl : Array (Option Value)} {u0 : Value} {h1 : Heap} {tk : Nat} (S : SupSc N ps scope) (hcell : K.lookup cc = some ⟨ccl, cld, .cell (some u0), csl⟩) (hd : A.handled = none) (e0 : Env0 P w K mg base A outer s H) (hl : vs.length = ps.length) (r : Vals vs us)
    (hns : h1.Ns s.heap.objs.size (fun x => (ps.zip us).reverse.lookup x)) (keep : ∀ b o, s.heap.get? b = some o → h1.get? b = some o) :
    Inv (cxS CX P w K mg base N qual scope f cd cc A outer s H E) [] (L2.start N vs) H { s with heap := h1, toks := tk } := by
  have hpl : ps.length ≤ N.length := by
    have q := congrArg List.length S.pre
    rw [List.length_take] at q
    omega
  have hb := e0.mod.kin _ _ hcell
  obtain ⟨hs, hH⟩ := e0.bs _ _ hb
  have nofree : ∀ y : Str, scope.names.lookup y = some .free → y = "__class__" := fun y q => S.free (y, .free) (PySem.mem_of_lookup q) rfl
  refine {
    ok := { mod := e0.mod, kind := S.kind, glob := rfl, blt := rfl, above := Nat.le_refl _
            inj := fun x y c a b => (one_cell a).1.trans (one_cell b).1.symm
            has := fun y hy => ?has
            cab := fun x c q e => by
              have q : (x != "__class__") = true := q
              rw [(one_cell e).1] at q
              simp at q
            hd := fun _ => hd, frames := Around.frames_deeper e0.frames, stk := .inr ⟨rfl, rfl⟩
            exf := fun b z => absurd (show b ∈ ([] : List Addr) from z) (by simp)
            bs := e0.bs, bsz := e0.bsz
            noex := fun b _ _ => fun z => absurd (show b ∈ ([] : List Addr) from z) (by simp)
            exfs := fun b z => absurd (show b ∈ ([] : List Addr) from z) (by simp)
            funs := e0.funs, frf := e0.frf }
    os := rfl, bare := e0.bare, base := Un.kept keep
    loc := ⟨_, hns, fun i y v a b c => ?loc⟩
    cell := fun x c e => ⟨some u0, by rw [(one_cell e).2]; exact ⟨_, keep _ _ hs, rfl⟩⟩
    free := e0.hok.fresh (Nat.le_refl _)
    freeC := fun x c e => by rw [(one_cell e).2]; exact hH
    pin := fun p hp => absurd (show p ∈ ([] : List (Addr × Obj)) from hp) (by simp)
    hok := e0.hok.kept keep
    len := ?len }
  case has =>
    rcases hy with hy | hy
    · exact absurd rfl (S.ncell _ (PySem.mem_of_lookup (show scope.names.lookup y = some .cell from hy)))
    · exact ⟨cc, by rw [nofree y hy]; rfl⟩
  case len =>
    unfold L2.start
    show _ = N.length
    rw [List.length_append, List.length_map, List.length_replicate]
    omega
  case loc =>
    have hi : i < vs.length := by
      unfold L2.start at b
      by_cases hi : i < vs.length
      · exact hi
      · rw [List.getElem?_append_right (by simpa using hi), List.getElem?_replicate] at b
        split at b <;> cases b
    have ha : vs[i]? = some v := by
      unfold L2.start at b
      rw [List.getElem?_append_left (by simpa using hi), List.getElem?_map] at b
      cases q : vs[i]? with
      | none => rw [q] at b; cases b
      | some z => rw [q] at b; cases b; rfl
    obtain ⟨u, hu, rv⟩ := r.get ha
    have hp : ps[i]? = some y := by
      rw [← S.pre, List.getElem?_take_of_lt (by omega)]
      exact a
    have ndP : ps.Nodup := by
      rw [← S.pre]
      exact S.nd.sublist (List.take_sublist _ _)
    exact ⟨u, rv, .inl ⟨S.par y (List.mem_of_getElem? hp), rev_lookup ndP hp hu⟩⟩
end
/-- what the text says of such a class C, whose __init__ stands at f -/
structure SupC (P : Program) (K : PySem.W.Frag) (mg : Str → Option Value) (C f : Addr) (name qual : Str) (params : Arguments) (body : List Stmt) (scope : Scope) (cda cc : Addr) (fd : FuncData) : Prop where
  fn : ∃ (kV doc pm ct oc : Value) (an od : Option Addr) (osl : Array (Option Value)), fd = PySem.W.ksFn name qual params body scope .none kV doc pm an (.ref cda) ct cc ∧ K.lookup f = some ⟨oc, od, .func fd, osl⟩
  cd : PySem.W.codeIn K (.ref cda) qual = true
  fl : ∃ (ccl : Value) (cdd : Option Addr) (vs : Array Value) (ccs : Array (Option Value)) (file : Str) (tf : Tok), K.lookup cda = some ⟨ccl, cdd, .fields vs, ccs⟩ ∧ vs[2]? = some (.str file tf) ∧ ((P.main.file : Str) == file) = true
  ce : ∃ (cl : Value) (cld : Option Addr) (csl : Array (Option Value)), K.lookup cc = some ⟨cl, cld, .cell (some (.ref C)), csl⟩
  ex : OexC K C
  su : PySem.W.ks_superIn K C C "__init__" = some (some (.builtin "ValueError.__init__"))
  op : PySem.W.nsIn K cStatics "thirdparty.any" = some none
  sb : PySem.W.subIn K (.ref C) (.type "ValueError") = some true
  mr : PySem.W.mroIn K C (.ref C) = some true
  ms : mg "super" = none
  tp : (P.main.scope.names.lookup ("super" : Str)).isSome = false
theorem fn_sup {CX : CXT} {P : Program} {w : World} {K : PySem.W.Frag} {mg : Str → Option Value} {base : Heap} {k : Nat} {C f cda cc : Addr} {name qual : Str} {params : Arguments} {scope : Scope} {fd : FuncData} {N ps : List Str} {sp : Sp} {p0 p1 p2 p3 p4 : Pos} {e : Expr} {es : List Expr} {rest : List Stmt} {ar : Arg}
    (T : SupC P K mg C f name qual params (.Expr (.Call (.Attribute (.Call (.Name "super" p0) [] [] p1) "__init__" p2) (e :: es) [] p3) p4 :: rest) scope cda cc fd) (S : SupSc N ps scope) (hp : (params.posonlyargs ++ params.args).head? = some ar) (hps : ps[0]? = some ar.arg)
    (len : ∀ vs H Q E, sp vs H Q E → vs.length = ps.length) (hsp : ∀ vs H Q E, sp vs H Q E → ∃ a ws, vs = .ref a :: ws ∧ H a = some (exo a C none))
    (hbody : ∀ (A : Around) (outer : List Env) (s : Shared) (H : Hp) (vs : List V) (Q : VK) (E : XK), L2.Room k (A.deeper (PySem.W.ksEnv qual scope s.heap.objs.size f (.ref cda) cc)) → sp vs H Q E →
      ∃ ta t, PA (cxS CX P w K mg base N qual scope f (.ref cda) cc A outer s H E) (e :: es) ta ∧ PSs (cxS CX P w K mg base N qual scope f (.ref cda) cc A outer s H E) rest t ∧ ta (L2.start N vs) H (fun us H' => us.length ≤ 1000 ∧ H' = H) ∧ t { nx := fun _ H' => Q .non H', rt := Q } (L2.start N vs) H)
    (hne : ∀ env : Env, starEach (e :: es) env = (false, eval e env) :: starEach es env := by intro _; rfl) (hpl : ∀ env : Env, (backTo p3 (starEach (e :: es) env)).any (·.1) = false := by intro _; rfl)
    (hat : ∀ env : Env, env.locals ≠ mainGlobals → True := by intro _ _; trivial)
    (hcall : ∀ env : Env, ∃ pl : Sem Bool, eval (.Call (.Attribute (.Call (.Name "super" p0) [] [] p1) "__init__" p2) (e :: es) [] p3) env = (do
      let ov ← attributeBase (.Call (.Name "super" p0) [] [] p1) "__init__" env (eval (.Call (.Name "super" p0) [] [] p1) env)
      standAt p2.atName
      let (f, first) ← holding [ov] (getMethod ov "__init__" pl)
      callWith p3 f first (backTo p3 (starEach (e :: es) env)) []) := by intro _; exact ⟨_, rfl⟩)
    (hin : ∀ (L : Addr) (cd : Value), interactive (PySem.W.ksEnv qual scope L f cd cc) = false := by intro _ _; rfl)
    (hsw : ∀ env : Env, swapsWith (.Call (.Attribute (.Call (.Name "super" p0) [] [] p1) "__init__" p2) (e :: es) [] p3) none p4.line env = pure false := by intro _; rfl) :
    FnOk P w K mg base CX (k + 1) f fd ps sp := by
  refine ⟨len, fun A outer s H args us vs Q E hr e0 hb r hq => ?_⟩
  have hl := len _ _ _ _ hq
  have KX : K.In s.heap := e0.mod.kin.keeps fun b o e => (e0.bs b o e).1
  have lim : s.heap.NoLimit := e0.mod.nolimit.keeps fun b o e => (e0.bs b o e).1
  obtain ⟨kV, doc, pm, ct, oc, an, od, osl, rfl, lk⟩ := T.fn
  obtain ⟨cl, cld, csl, hcell⟩ := T.ce
  refine ks_codeAny_call_defAt (fd := PySem.W.ksFn name qual params _ scope .none kV doc pm an (.ref cda) ct cc) hr.depth (KX _ _ lk) rfl lim (PySem.W.codeRec_of KX T.cd) rfl hb S.ncell (fun y hy => S.par _ (List.of_mem_zip hy).1) (fun h1 hns keep => ?_) S.co S.gen S.kind
  obtain ⟨ta, t, hta, ht, qa, qt⟩ := hbody A outer s H vs Q E (hr.deeper _) hq
  have I : Inv (cxS CX P w K mg base N qual scope f (.ref cda) cc A outer s H E) [] (L2.start N vs) H { s with heap := h1, toks := s.toks + (ps.zip us).length } := inv_sup S hcell hr.hd e0 hl r hns keep
  obtain ⟨a, ws, rfl, ea⟩ := hsp _ _ _ _ hq
  obtain ⟨ccl, cdd, cvs, ccs, file, tf, hcode, hvs, hfile⟩ := T.fl
  obtain ⟨nm, q', Nn, bs, bm, sn, sub, ab, col, dd, k0, k1, k2, k3, k5, hC, hbm⟩ := T.ex.cls
  cases r with
  | @cons _ u0 _ ur ra rw' =>
  obtain rfl : u0 = Value.ref a := ra
  have ndP : ps.Nodup := by
    rw [← S.pre]
    exact S.nd.sublist (List.take_sublist _ _)
  have hself : (ps.zip (Value.ref a :: ur)).reverse.lookup ar.arg = some (.ref a) := rev_lookup ndP hps rfl
  have hka : scope.names.lookup ar.arg = some .local := S.par _ (List.mem_of_getElem? hps)
  obtain ⟨t1, ho⟩ := exo_at I.hok ea
  have hcl : PySem.W.clsIn K C = some { name := nm, bases := bs, mro := .ref C :: bm, ns := Nn, qualname := q', hasDict := true, slotNames := sn, subclasses := sub, abstract := ab, collection := col, hasDel := false } := by unfold PySem.W.clsIn; rw [hC] <;> rfl
  have haC : a ≠ C := fun z => by
    have hz := (I.bs _ _ (I.mod.kin _ _ hC)).2
    rw [← z, ea] at hz
    cases hz
  obtain ⟨pl, hev⟩ := hcall (PySem.W.ksEnv qual scope s.heap.objs.size f (.ref cda) cc)
  refine ks_wpAt_execs_cons ?_
  refine ks_wpAt_Expr_any ?_ (hin _ _) (hsw _)
  refine ks_wpAt_MethodCall ?_ hev
  refine ks_wpAt_super_base (env := PySem.W.ksEnv qual scope s.heap.objs.size f (.ref cda) cc) S.sup S.cls (by decide) rfl (I.kIn _ _ lk) rfl hp rfl (I.kIn _ _ hcode) rfl hvs hfile T.tp ?_
  obtain ⟨mb, hb1, hb2⟩ := I.mod.blt
  refine PySem.W.ks_loadName_global S.kind S.sup (Calls.loadGlobal_builtin (env := PySem.W.ksEnv qual scope s.heap.objs.size f (.ref cda) cc) (I.mod.glob.keeps I.bk) T.ms (hb1.keeps I.bk) ((hb2 "super" (by decide)).trans (by first | rfl | kernel_rfl)) ⟨rfl, ?_⟩)
  refine wpAny_loadName_free S.kind S.cls rfl ⟨_, I.kIn _ _ hcell, rfl⟩ ?_
  refine wpAny_loadName_local S.kind hka hns hself ?_
  refine ks_wpAny_isType_cls (I.kIn _ _ hC) rfl ⟨rfl, ?_⟩
  refine ks_wpAny_call_super (I.kIn _ _ hC) rfl ho rfl (fun c e => by cases e) (PySem.W.looks_mroIn I.kIn T.mr) (fun h2 e2 k2 => ?_)
  have I2 := I.kept (t' := s.toks + (ps.zip (Value.ref a :: ur)).length) k2
  have hin2 : PySem.W.InstAt h2 a { cls := .ref C, dict := none, data := .fields #[.ref t1, .none, .none, .none, .bool false, .none] } C none := ⟨k2 _ _ ho, rfl, rfl, trivial⟩
  have hsu := T.su
  unfold PySem.W.ks_superIn at hsu
  rw [hcl] at hsu
  refine PySem.W.kxs_getMethod PySem.W.kxs_ValueError e2 (PySem.W.looks_opaque I2.kIn T.op) (l₀ := .ref C :: bm) (fun A Q E s k q => wpAny_bind ((PySem.W.looks_clsIn I2.kIn hcl) A _ E s k (wpAny_pure q))) rfl I2.kIn hsu (hin2.type.andThen (PySem.W.looks_subIn I2.kIn T.sb)) haC (by decide) ?_
  have hu2 : (h2.push (PySem.W.kxs_mw "ValueError.__init__" a)).get? h2.objs.size = some (PySem.W.kxs_mw "ValueError.__init__" a) := Heap.get?_push_size _ rfl
  have I3 : Inv (cxS CX P w K mg base N qual scope f (.ref cda) cc A outer s H E) [(h2.objs.size, PySem.W.kxs_mw "ValueError.__init__" a)] (L2.start N (.ref a :: ws)) H { s with heap := h2.push (PySem.W.kxs_mw "ValueError.__init__" a), toks := s.toks + (ps.zip (Value.ref a :: ur)).length + 1 } :=
    (I2.kept (t' := s.toks + (ps.zip (Value.ref a :: ur)).length + 1) fun b o z => Heap.get?_push_of_some _ z).pins_of fun p hp => by
      rw [List.mem_singleton.mp hp]
      exact ⟨hu2, I2.hok.fresh (Nat.le_refl _), Nat.ne_of_gt I2.lt, I2.nofs (Nat.le_refl _), fun v z => by cases z⟩
  have hne' := hne (PySem.W.ksEnv qual scope s.heap.objs.size f (.ref cda) cc)
  have hpl' := hpl (PySem.W.ksEnv qual scope s.heap.objs.size f (.ref cda) cc)
  show wpAny _ _ (callWith p3 (Value.ref h2.objs.size) [] (backTo p3 (starEach (e :: es) (PySem.W.ksEnv qual scope s.heap.objs.size f (.ref cda) cc))) []) _ _ _
  have h0 : wpAny (model P w) (A.deeper (PySem.W.ksEnv qual scope s.heap.objs.size f (.ref cda) cc)) (spliced (backTo p3 (starEach (e :: es) (PySem.W.ksEnv qual scope s.heap.objs.size f (.ref cda) cc)))) _ _ _ := hta.run p3 _ _ _ _ _ I3 qa
  rw [hne'] at h0 hpl' ⊢
  refine PySem.W.kxs_callWith (i := "ValueError.__init__") (x := a) hpl' (Calls.evalArgs_plain (thn h0 fun us4 s4 z4 => ?_))
  obtain ⟨vs4, H4, I4, r4, hlen, hH⟩ := z4
  rw [hH] at I4
  have hu4 := (I4.pin (h2.objs.size, PySem.W.kxs_mw "ValueError.__init__" a) (by simp [cxS])).1
  obtain ⟨t4, ho4⟩ := exo_at I4.hok ea
  have hC4 := I4.kIn _ _ hC
  refine ⟨hu4, ?_⟩
  have hz4 : us4.length ≤ sizeLine := by
    rw [← Paired.length r4, sizeLine_eq]
    omega
  show wpAny _ _ (call (Value.ref h2.objs.size) us4) _ _ _
  obtain ⟨h4, g4, d4, k4, os4⟩ := s4
  have hu4 : h4.get? h2.objs.size = some (PySem.W.kxs_mw "ValueError.__init__" a) := hu4
  refine wpAny_call (codeAny_of_tree ?_)
  show wpAny _ (A.deeper (PySem.W.ksEnv qual scope s.heap.objs.size f (.ref cda) cc)).in1 (callAny (.ref h2.objs.size) ⟨us4, []⟩) _ _ _
  simp only [callAny]
  refine wpAny_bind (wpAny_load hu4 ?_)
  simp only [PySem.W.kxs_mw, show (Value.type "method-wrapper" == Value.type "method" || Value.type "method-wrapper" == Value.type "builtin_function_or_method" || Value.type "method-wrapper" == Value.type "method-wrapper") = true by decide, if_true]
  refine PySem.W.KFB.if_so (by decide) ?_
  refine wpAny_bind (PySem.W.check_bound_init F.excBase_ValueError.toExcCallFacts hC4 ho4 rfl ?_)
  refine wpAny_bind (wpAny_pure (wpAny_pure ?_))
  refine ⟨plainId_quiet F.excBase_ValueError.init.plain _, codeAny_builtin F.excBase_ValueError.initEntry ?_⟩
  rw [Around.under_plainId F.excBase_ValueError.init.plain _]
  refine PySem.W.exc_init_tree (cls := .ref C) (t0 := t4) (dv := none) (c2 := .none) (c3 := .none) (b4 := .bool false) ho4 hz4 fun h5 k5 e5 _ => ?_
  have J := I4.write (t' := k4) (x := a) (e := a) (o := exo a C none) (by rw [ea]; exact True.intro) (.inl rfl) k5 ⟨_, e5⟩ (exo_ok e5)
  have eu : upd H a (exo a C none) = H := by
    funext b
    by_cases hb : b = a
    · rw [hb, upd_same, ea]
    · rw [upd_ne hb]
  rw [eu] at J
  refine wpAt_of_wpAny (wpAny_mono (ht.run _ _ _ _ _ J qt) (fun fl s' hs => ?_) fun e s' hs => hs)
  have fin : ∀ {pins : List (Addr × Obj)} {σ' : L2.St} {H' : Hp} {v : V} {u : Value}, Inv (cxS CX P w K mg base N qual scope f (.ref cda) cc A outer s H E) pins σ' H' s' → RelV v u → Q v H' → CE outer P w H s Q u s' :=
    fun {pins σ' H' v u} J rv q => ⟨v, H', J.os, J.bare, J.base, J.hok, rv, q⟩
  cases fl with
  | ret u =>
    obtain ⟨v, σ', H', J, rv, q⟩ := hs
    exact fin J rv q
  | next =>
    obtain ⟨σ', H', J, q⟩ := hs
    exact fin (v := V.non) (u := Value.none) J rfl q
  | brk => exact (hs.choose_spec.choose_spec.2 : False).elim
  | cont => exact (hs.choose_spec.choose_spec.2 : False).elim
/-! the stores -/
def fldV : List (Str × Nat) → List V → List (Str × V) → List (Str × V)
  | [], _, acc => acc
  | (f, j) :: r, ws, acc => fldV r ws ((f, (ws[j]?).getD .non) :: acc)
def fldD : List (Str × Nat) → List D → List (Str × D) → List (Str × D)
  | [], _, acc => acc
  | (f, j) :: r, ds, acc => fldD r ds ((f, (ds[j]?).getD .non) :: acc)
def tSto (K : PySem.W.Frag) : List (Str × Nat) → TS
  | [] => tNext
  | (f, j) :: r => tSeq (tOst K f (tVar 0) (tVar (j + 1))) (tSto K r)
theorem upd_upd {H : Hp} {d : Addr} {x y : HO} : upd (upd H d x) d y = upd H d y := by
  funext b
  by_cases h : b = d
  · rw [h, upd_same, upd_same]
  · rw [upd_ne h, upd_ne h, upd_ne h]
theorem upd_comm {H : Hp} {a d : Addr} {x y : HO} (n : d ≠ a) : upd (upd H d x) a y = upd (upd H a y) d x := by
  funext b
  by_cases h : b = a
  · rw [h, upd_same, upd_ne (Ne.symm n), upd_same]
  · by_cases h' : b = d
    · rw [h', upd_ne n, upd_same, upd_same]
    · rw [upd_ne h, upd_ne h', upd_ne h', upd_ne h]
theorem sto_old {K : PySem.W.Frag} {C a d : Addr} {ws : List V} {σ : L2.St} {D : Ends} (T : OexC K C) (hn : d ≠ a) (h0 : σ[0]? = some (some (.ref a))) (hw : ∀ (j : Nat) v, ws[j]? = some v → σ[j + 1]? = some (some v)) :
    ∀ (fs : List (Str × Nat)) (acc : List (Str × V)) (H : Hp), (∀ p ∈ fs, p.2 < ws.length ∧ PySem.W.findIn K (.ref C) p.1 = some none) → acc.length + fs.length ≤ 900 → H a = some (exo a C (some d)) → H d = some (exd d acc) → D.nx σ (upd H d (exd d (fldV fs ws acc))) → tSto K fs D σ H
  | [], acc, H, _, _, _, hd, q => by
    have e : upd H d (exd d acc) = H := by
      funext b
      by_cases hb : b = d
      · rw [hb, upd_same, hd]
      · rw [upd_ne hb]
    show D.nx σ H
    rw [← e]
    exact q
  | (f, j) :: r, acc, H, hf, hl, ha, hd, q => by
    rw [List.length_cons] at hl
    obtain ⟨hj, hno⟩ := hf (f, j) List.mem_cons_self
    have hv : ws[j]? = some ws[j] := List.getElem?_eq_getElem hj
    refine ⟨ws[j], hw j _ hv, .ref a, h0, a, C, rfl, T, hno, .inr ⟨d, acc, ha, hd, by omega, ?_⟩⟩
    refine sto_old T hn h0 hw r ((f, ws[j]) :: acc) _ (fun p hp => hf p (List.mem_cons_of_mem _ hp)) (by rw [List.length_cons]; omega) (by rw [upd_ne (Ne.symm hn)]; exact ha) upd_same ?_
    rw [upd_upd]
    have e : fldV ((f, j) :: r) ws acc = fldV r ws ((f, ws[j]) :: acc) := by
      rw [fldV, hv] <;> rfl
    rw [e] at q
    exact q
theorem sto_new {K : PySem.W.Frag} {C a : Addr} {ws : List V} {σ : L2.St} {D : Ends} {H : Hp} {f : Str} {j : Nat} {r : List (Str × Nat)} (T : OexC K C) (h0 : σ[0]? = some (some (.ref a))) (hw : ∀ (j : Nat) v, ws[j]? = some v → σ[j + 1]? = some (some v))
    (hf : ∀ p ∈ (f, j) :: r, p.2 < ws.length ∧ PySem.W.findIn K (.ref C) p.1 = some none) (hl : r.length ≤ 800) (ha : H a = some (exo a C none)) (q : ∀ d, H d = none → d ≠ a → D.nx σ (upd (upd H d (exd d (fldV ((f, j) :: r) ws []))) a (exo a C (some d)))) : tSto K ((f, j) :: r) D σ H := by
  obtain ⟨hj, hno⟩ := hf (f, j) List.mem_cons_self
  have hv : ws[j]? = some ws[j] := List.getElem?_eq_getElem hj
  refine ⟨ws[j], hw j _ hv, .ref a, h0, a, C, rfl, T, hno, .inl ⟨ha, fun d hd hn => ?_⟩⟩
  refine sto_old T hn h0 hw r [(f, ws[j])] _ (fun p hp => hf p (List.mem_cons_of_mem _ hp)) (by rw [List.length_singleton]; omega) upd_same (by rw [upd_ne hn]; exact upd_same) ?_
  have e : fldV ((f, j) :: r) ws [] = fldV r ws [(f, ws[j])] := by
    rw [fldV, hv] <;> rfl
  have q := q d hd hn
  rw [e] at q
  have e2 : upd (upd (upd H d (exd d [(f, ws[j])])) a (exo a C (some d))) d (exd d (fldV r ws [(f, ws[j])])) = upd (upd H d (exd d (fldV r ws [(f, ws[j])]))) a (exo a C (some d)) := by
    rw [← upd_comm hn, upd_upd]
  rw [e2]
  exact q
/-- what such an __init__ does -/
def supSp (C : Addr) (n : Nat) (fs : List (Str × Nat)) (ok : List V → Prop) : Sp := fun vs H Q _ => ∃ a ws, vs = .ref a :: ws ∧ ws.length = n ∧ ok ws ∧ H a = some (exo a C none) ∧ ∀ d, H d = none → d ≠ a → Q .non (upd (upd H d (exd d (fldV fs ws []))) a (exo a C (some d)))
theorem start_at {N : List Str} {v0 : V} {ws : List V} : (L2.start N (v0 :: ws))[0]? = some (some v0) ∧ ∀ (j : Nat) v, ws[j]? = some v → (L2.start N (v0 :: ws))[j + 1]? = some (some v) := by
  refine ⟨rfl, fun j v h => ?_⟩
  unfold L2.start
  have hj := (List.getElem?_eq_some_iff.mp h).1
  rw [List.map_cons, List.cons_append, List.getElem?_cons_succ, List.getElem?_append_left (by rw [List.length_map]; exact hj), List.getElem?_map, h] <;> rfl
theorem fn_supF {CX : CXT} {P : Program} {w : World} {K : PySem.W.Frag} {mg : Str → Option Value} {base : Heap} {k : Nat} {C f cda cc : Addr} {name qual : Str} {params : Arguments} {scope : Scope} {fd : FuncData} {N ps : List Str} {p0 p1 p2 p3 p4 : Pos} {e : Expr} {es : List Expr} {rest : List Stmt} {ar : Arg} {fn : Str} {j : Nat} {fs : List (Str × Nat)} {ok : List V → Prop} {ta : TA}
    (T : SupC P K mg C f name qual params (.Expr (.Call (.Attribute (.Call (.Name "super" p0) [] [] p1) "__init__" p2) (e :: es) [] p3) p4 :: rest) scope cda cc fd) (S : SupSc N ps scope) (hp : (params.posonlyargs ++ params.args).head? = some ar) (hps : ps[0]? = some ar.arg)
    (hfs : ∀ p ∈ (fn, j) :: fs, p.2 + 1 < ps.length ∧ PySem.W.findIn K (.ref C) p.1 = some none) (hl : fs.length ≤ 800)
    (hbody : ∀ (A : Around) (outer : List Env) (s : Shared) (H : Hp) (E : XK), L2.Room k (A.deeper (PySem.W.ksEnv qual scope s.heap.objs.size f (.ref cda) cc)) →
      PA (cxS CX P w K mg base N qual scope f (.ref cda) cc A outer s H E) (e :: es) ta ∧ PSs (cxS CX P w K mg base N qual scope f (.ref cda) cc A outer s H E) rest (tSto K ((fn, j) :: fs)))
    (hta : ∀ (a : Addr) (ws : List V) (H : Hp), ws.length + 1 = ps.length → ok ws → ta (L2.start N (.ref a :: ws)) H (fun us H' => us.length ≤ 1000 ∧ H' = H))
    (hne : ∀ env : Env, starEach (e :: es) env = (false, eval e env) :: starEach es env := by intro _; rfl) (hpl : ∀ env : Env, (backTo p3 (starEach (e :: es) env)).any (·.1) = false := by intro _; rfl)
    (hcall : ∀ env : Env, ∃ pl : Sem Bool, eval (.Call (.Attribute (.Call (.Name "super" p0) [] [] p1) "__init__" p2) (e :: es) [] p3) env = (do
      let ov ← attributeBase (.Call (.Name "super" p0) [] [] p1) "__init__" env (eval (.Call (.Name "super" p0) [] [] p1) env)
      standAt p2.atName
      let (f, first) ← holding [ov] (getMethod ov "__init__" pl)
      callWith p3 f first (backTo p3 (starEach (e :: es) env)) []) := by intro _; exact ⟨_, rfl⟩)
    (hin : ∀ (L : Addr) (cd : Value), interactive (PySem.W.ksEnv qual scope L f cd cc) = false := by intro _ _; rfl)
    (hsw : ∀ env : Env, swapsWith (.Call (.Attribute (.Call (.Name "super" p0) [] [] p1) "__init__" p2) (e :: es) [] p3) none p4.line env = pure false := by intro _; rfl) :
    FnOk P w K mg base CX (k + 1) f fd ps (supSp C (ps.length - 1) ((fn, j) :: fs) ok) := by
  have hpos : 0 < ps.length := (List.getElem?_eq_some_iff.mp hps).1
  refine fn_sup T S hp hps (fun vs H Q E q => ?_) (fun vs H Q E q => ?_) (fun A outer s H vs Q E hr q => ?_) hne hpl (fun _ _ => trivial) hcall hin hsw
  · obtain ⟨a, ws, rfl, hw, _⟩ := q
    rw [List.length_cons]
    omega
  · obtain ⟨a, ws, rfl, _, _, ha, _⟩ := q
    exact ⟨a, ws, rfl, ha⟩
  · obtain ⟨a, ws, rfl, hw, hok, ha, q⟩ := q
    obtain ⟨h1, h2⟩ := hbody A outer s H E hr
    obtain ⟨g1, g2⟩ := start_at (N := N) (v0 := .ref a) (ws := ws)
    exact ⟨ta, _, h1, h2, hta a ws H (by omega) hok, sto_new T.ex g1 g2 (fun p hp => ⟨by have := (hfs p hp).1; omega, (hfs p hp).2⟩) hl ha q⟩
/-! ### raise C(..), C such a class -/
def sRaiseF (c n : Nat) (fs : List (Str × Nat)) (ok : List D → Bool) (α : Sem1 (List D)) : SSem := fun s M => bindS (α s M) s fun ds M1 => if ds.length = n ∧ ok ds = true then .er ⟨c, some (fldD fs ds [])⟩ s M1 else .bad
section
variable {X : Cx} {T : Tab} {W : WX} {K : KX} {ι : List Addr} {F H : Hp} {M : Mem} {rs : List (Addr × HO)} {e : Expr} {es : List Expr} {α : Sem1 (List LD.D)} {pos pos' p np : Pos} {x n : Str}
theorem getD_rep : ∀ {ds : List LD.D} {vs : List V} (j : Nat), RepL K ι F ds vs → Rep K ι F ((ds[j]?).getD .non) ((vs[j]?).getD .non)
  | [], vs, j, r => by
    have e : vs = [] := r
    subst e
    exact rfl
  | d :: ds, vs, 0, r => by
    obtain ⟨v, us, rfl, h1, h2⟩ := r
    exact h1
  | d :: ds, vs, j + 1, r => by
    obtain ⟨v, us, rfl, h1, h2⟩ := r
    exact getD_rep j h2
theorem fld_rep {ds : List LD.D} {vs : List V} (r : RepL K ι F ds vs) : ∀ (fs : List (Str × Nat)) (a : List (Str × LD.D)) (b : List (Str × V)), b.map (·.1) = a.map (·.1) → RepL K ι F (a.map (·.2)) (b.map (·.2)) → (fldV fs vs b).map (·.1) = (fldD fs ds a).map (·.1) ∧ RepL K ι F ((fldD fs ds a).map (·.2)) ((fldV fs vs b).map (·.2))
  | [], a, b, h1, h2 => ⟨h1, h2⟩
  | (f, j) :: fs, a, b, h1, h2 => fld_rep r fs ((f, (ds[j]?).getD .non) :: a) ((f, (vs[j]?).getD .non) :: b) (by rw [List.map_cons, List.map_cons, h1]) ⟨_, _, rfl, getD_rep j r, h2⟩
theorem s_raiseF {ci k k' n : Nat} {C fI : Addr} {fd : FuncData} {ps : List Str} {fs : List (Str × Nat)} {okV : List V → Prop} {okD : List LD.D → Bool} (T0 : OexC X.K C) (iC : PySem.W.findIn X.K (.ref C) "__init__" = some (some (.ref fI))) (tI : PySem.W.typeIn X.K (.ref fI) = some (.type "function"))
    (F1 : FnOk X.prog X.w X.K X.mg X.base CX0 k fI fd ps (supSp C n fs okV)) (hb : Binds X.K fd ps []) (hr : Room k' X.A) (gC : X.mg x = some (.ref C)) (hT : T.et[ci]? = some (.ref C)) (tk : Takes X W) (ha : KA X T W (e :: es) α)
    (hok : ∀ ι F ds vs, RepL (kx X T) ι F ds vs → okD ds = true → okV vs) (hn : n ≤ 1000 := by decide) (hl : k + 1 ≤ k' := by first | decide | omega) (hc : X.calm = true := by rfl) (hg : Gl X x := by rfl) (hdb : (x == ("__debug__" : Str)) = false := by decide) (h2 : (e :: es).any isStar = false := by rfl) :
    KS X T W (.Raise (some (.Call (.Name x p) (e :: es) [] pos')) none pos) (sRaiseF ci n fs okD α) := ⟨fun rs => by
  have h2' := h2
  rw [List.any_cons, Bool.or_eq_false_iff] at h2'
  refine PS.imp (ps_raise hc tk (pmk_oex T0 iC tI F1 (hr.mono hl).l2 hb .nil pass0 hg gC (ha.pa rs) hdb (star_cons h2'.1) (star_any h2'.2))) fun D σ H h => ?_
  obtain ⟨ι, F, s, M, r, rS, p⟩ := h
  refine ⟨ι, F, s, M, r, rS, p.step rS fun vs H1 ι1 F1 M1 ds _ l1 r1 rv p1 => ?_⟩
  split at p1
  · rename_i hq
    have hlv : vs.length = n := by rw [RepL.length rv, hq.1]
    refine ⟨by omega, fun a hna => ?_⟩
    refine ⟨a, vs, by rw [List.append_nil], hlv, hok _ _ _ _ rv hq.2, upd_same, fun d hd hda => ⟨rfl, d, fldV fs vs [], upd_same, ?_, ?_, ?_⟩⟩
    · rw [upd_ne hda, upd_same]
    · rw [upd_ne hda] at hd
      exact hd
    · rw [upd_ne hda] at hd
      have eH : upd (del (upd (upd (upd H1 a (exo a C none)) d (exd d (fldV fs vs []))) a (exo a C (some d))) a) d (.xd (fldV fs vs [])) = upd H1 d (.xd (fldV fs vs [])) := by
        funext b
        by_cases hb : b = d
        · rw [hb, upd_same, upd_same]
        · rw [upd_ne hb, upd_ne hb]
          by_cases hba : b = a
          · rw [hba, del_same, hna]
          · rw [del_ne hba, upd_ne hba, upd_ne hb, upd_ne hba]
      rw [eH]
      obtain ⟨q1, q2⟩ := fld_rep rv fs [] [] rfl rfl
      exact p1 ι1 (upd F1 d (.xd (fldV fs vs []))) _ σ (.ref C) (some d) (Le.new (r1.free hd)) (r1.frozen hd) ((rS.le l1).le (Le.new (r1.free hd))) ⟨hT, fldV fs vs [], upd_same, q1, q2.le (Le.new (r1.free hd))⟩
  · exact p1.elim⟩
end

/-! ### try .. except X as e, the exception with fields that are flat -/
def flV : D → V
  | .bl b => .bl b
  | .int i => .int i
  | .str x => .str x
  | _ => .non
theorem f_rep {K : KX} {ι : List Addr} {F : Hp} {d : D} {v : V} (h : isF d = true) : Rep K ι F d v → v = flV d := fun r => by
  cases d <;> first | exact r | cases h
theorem rep_f {K : KX} {ι : List Addr} {F : Hp} {d : D} (h : isF d = true) : Rep K ι F d (flV d) := by
  cases d <;> first | rfl | cases h
theorem le_drop {K : KX} {ι : List Addr} {F : Hp} {dd : Addr} {vs : List (Str × V)} (h : F dd = some (.xd vs)) : Le K ι F ι (del F dd) := Le.of (fun b u hu q => by
  have nb : b ≠ dd := fun z => by
    subst z
    rcases q with q | ⟨o, q⟩
    · rw [h] at q
      rcases hu with ⟨_, rfl⟩ | ⟨_, rfl⟩ | ⟨_, rfl⟩ <;> cases q
    · rw [h] at q
      cases q
  rcases q with q | ⟨o, q⟩
  · exact .inl (by rw [del_ne nb]; exact q)
  · exact .inr ⟨o, by rw [del_ne nb]; exact q⟩) fun _ _ q => q
theorem rel_drop {K : KX} {ι : List Addr} {F H : Hp} {M : Mem} {rs : List (Addr × HO)} {dd : Addr} {vs : List (Str × V)} (r : Rel K ι F rs H M) (h : F dd = some (.xd vs)) : Rel K ι (del F dd) rs (del H dd) M where
  len := r.len
  sub := fun b o q => by
    have nb : b ≠ dd := fun z => by rw [z, del_same] at q; cases q
    rw [del_ne nb] at q ⊢
    exact r.sub _ _ q
  obj := fun i o a h1 h2 h3 => by
    obtain ⟨f0, ro⟩ := r.obj i o a h1 h2 h3
    have na : a ≠ dd := fun z => by rw [z, h] at f0; cases f0
    exact ⟨by rw [del_ne na]; exact f0, (ro.le (le_drop h)).at (del_ne na)⟩
  inj := r.inj
  there := fun i a q => by
    obtain ⟨u, hu, hb⟩ := r.there i a q
    have na : a ≠ dd := fun z => by
      rw [z, r.sub _ _ h] at hu
      cases hu
      cases hb
    exact ⟨u, by rw [del_ne na]; exact hu, hb⟩
  rsv := fun p hp => by
    obtain ⟨r1, r2, r3⟩ := r.rsv p hp
    have np : p.1 ≠ dd := fun z => by rw [z, h] at r2; cases r2
    exact ⟨by rw [del_ne np]; exact r1, by rw [del_ne np]; exact r2, r3⟩
  lck := r.lck
/-! isinstance of an exception that has a dict -/
section
variable {P : Program} {w : World} {A0 : Around} {E0 : Value → Shared → Prop} {sh : Shared} {K : PySem.W.Frag} {y D : Addr} {oy od : Obj}
theorem cls_of (hd : PySem.W.hasDictIn K D = true) : ∃ c dd cd sl, K.lookup D = some ⟨c, dd, .cls cd, sl⟩ ∧ PySem.W.clsIn K D = some cd := by
  obtain ⟨cd, hc, _⟩ := PySem.W.any_some hd
  have hc' := hc
  unfold PySem.W.clsIn at hc'
  split at hc'
  · rename_i c dd cd' sl ho
    cases hc'
    exact ⟨c, dd, cd, sl, ho, hc⟩
  · cases hc'
theorem cls_attrF {Q : Option Value → Shared → Prop} (C : ExcC K D) (kin : K.In sh.heap) (J : PySem.W.InstAt sh.heap y oy D (some od)) (q : Q (some (.ref D)) { sh with toks := sh.toks + 1 }) : wpAny (model P w) A0 (getAttr? (.ref y) "__class__") Q E0 sh := by
  obtain ⟨_, _, cd, _, _, hcl⟩ := cls_of C.hd
  have fnd := PySem.W.findObj_data (od := od) (show PySem.W.isClsIn K D = true by unfold PySem.W.isClsIn; rw [hcl] <;> rfl) C.ha C.hn C.ht
  obtain ⟨h0, g0, d0, t0, o0⟩ := sh
  have ty := J.type (M := model P w)
  have below : PySem.W.Looks (model P w) h0 (isInstance (.ref y) (.type "BaseException")) true := ty.andThen (PySem.W.looks_subIn kin C.hs)
  have own : (Value.builtin "BaseException.__getattribute__" == Value.builtin "object.__getattribute__") = false := by decide +kernel
  unfold getAttr? getAttrBy? getAttrBy
  refine wpAny_bind (wpAny_mkText (wpAny_bind (wpAny_attempt (wpAny_holding (wpAny_bind (ty.at (wpAny_bind ((PySem.W.looks_findIn kin C.hg).at (?_ : wpAny (model P w) A0 (if (onTheHeap (Value.ref D) && Value.builtin "BaseException.__getattribute__" == Value.builtin "object.__getattribute__") = true then _ else _) _ _ _)))))))))
  rw [if_neg (by rw [own, Bool.and_false]; exact Bool.false_ne_true)]
  unfold getAttrByItsOwn hookBefore
  refine wpAny_bind (?_ : wpAny (model P w) A0 (if onTheHeap (Value.ref D) = true then _ else _) _ _ _)
  have onH : onTheHeap (Value.ref D) = true := rfl
  rw [if_pos onH]
  refine (PySem.W.looks_findIn kin C.hk).at (wpAny_bind (wpAny_attempt (wpAny_holding ?_)))
  unfold callGetattribute
  rw [if_neg (show ¬ ((false && onTheHeap (Value.builtin "BaseException.__getattribute__")) = true) from Bool.false_ne_true)]
  unfold boundAndCalled
  rw [PySem.F.excAttr_ValueError.ga.bind (.ref y)]
  refine wpAny_bind (wpAny_pure (?_ : wpAny (model P w) A0 (call (.builtin "BaseException.__getattribute__") [.ref y, .str "__class__" t0]) _ _ _))
  refine wpAny_call (codeAny_call_builtin PySem.F.excAttr_ValueError.ga.plain PySem.F.entry_bexc_ga (@PySem.W.check_slot (model P w) _ _ ⟨h0, g0, d0, t0 + 1, o0⟩ "BaseException.__getattribute__" "BaseException" "__getattribute__" (.ref y) [.str "__class__" t0] [] _ (by decide +kernel) (by decide +kernel) below (PySem.F.args_bexc_ga (.ref y) (.str "__class__" t0)) ?_))
  unfold Builtin.«object.__getattribute__»
  refine wpAny_bind (wpAny_of_eq (a := ((Value.ref y : Value), [Value.str "__class__" t0])) (by first | rfl | (simp only [slotArgs]; rfl)) (wpAny_bind (wpAny_pure (wpAny_bind (ty.at (wpAny_bind ((PySem.W.looks_find kin J fnd).at (?_ : wpAny _ _ (holding [Value.builtin "object.__class__"] (call (.builtin "getset_descriptor.__get__") [.builtin "object.__class__", .ref y, .ref D]) >>= ret) _ _ _))))))))
  refine wpAny_bind (wpAny_holding (wpAny_call (PySem.W.class_get (s := ⟨h0, g0, d0, t0 + 1, o0⟩) (ox := oy) (od := some od) kin J C.hm (wpAny_pure (?_ : wpAny _ _ (handedOut (.ref D)) _ _ _)))))
  rw [PySem.W.handedOut_of (v := .ref D) rfl]
  first
    | exact wpAny_pure (wpAny_pure q)
    | exact wpAny_pure q
    | exact wpAny_pure (wpAny_bind (wpAny_pure (wpAny_pure q)))
theorem kitx_excF (C : ExcC K D) : PySem.W.KitX K (.ref y) (.ref D) (fun h => PySem.W.InstAt h y oy D (some od)) where
  ty := fun _ _ _ J => J.type
  it := fun _ _ kin _ => by
    obtain ⟨_, _, _, _, ho, _⟩ := cls_of C.hd
    intro A' Q' E' s' k q
    unfold isType loadHead
    exact wpAny_bind (wpAny_loadPart (k _ _ (kin _ _ ho)) (wpAny_pure q))
  ne := fun h tp dd its n sl kin htp => by
    obtain ⟨_, _, _, _, ho, _⟩ := cls_of C.hd
    refine Bool.eq_false_iff.mpr fun q => ?_
    obtain rfl : D = tp := Value.ref.inj (beq_iff_eq.mp q)
    cases (kin _ _ ho).symm.trans htp
  ca := fun kin J q => cls_attrF C kin J q
end
/-- what an exception's own dict says -/
def Says (od : Obj) (fs : List (Str × V)) : Prop := ∀ (f : Str) v, fs.lookup f = some v → ∃ u, PySem.W.lookIn f od = some (some u) ∧ RelV v u
section
variable {X : Cx} {pins : List (Addr × Obj)} {σ : L2.St} {H : Hp} {s : Shared} {a dd : Addr} {oe od : Obj} {pn : List (Addr × Obj)} {vs : List (Str × V)}
theorem xd_says (I : Inv X pins σ H s) (h : H dd = some (.xd vs)) : ∃ od, s.heap.get? dd = some od ∧ Says od vs ∧ ∀ v, od.data ≠ .cell v := by
  have hx : ObjOk X.prog X.w H s.heap dd (.xd vs) := I.hok dd _ h
  obtain ⟨mA, hns, hr⟩ := hx
  obtain ⟨od, ho, hl⟩ := lookIn_ns hns
  obtain ⟨o', es, ep, ho', hd', _⟩ := hns
  rw [ho] at ho'
  cases ho'
  refine ⟨od, ho, fun f v e => ?_, fun v z => by rw [hd'] at z; cases z⟩
  obtain ⟨u, hu, ru⟩ := RelO.some_of (v := v) (o := mA f) (by rw [← e]; exact hr f)
  exact ⟨u, by rw [hl, hu], ru⟩
theorem inv_pin (I : Inv (X.suite a ((a, oe) :: pn)) pins σ H s) (h : H dd = some (.xd vs)) (ho : s.heap.get? dd = some od) (nc : ∀ v, od.data ≠ .cell v) : Inv (X.suite a ((a, oe) :: (dd, od) :: pn)) pins σ (del H dd) s := by
  have ne : ∀ {b : Addr} {o : HO}, H b = some o → (∀ vs, o ≠ .xd vs) → b ≠ dd := fun {b o} q n z => by
    rw [z, h] at q
    exact n vs (Option.some.inj q).symm
  have nn : ∀ {b : Addr}, H b = none → del H dd b = none := fun {b} q => by
    by_cases hb : b = dd
    · rw [hb, del_same]
    · rw [del_ne hb]; exact q
  have ok := I.ok
  refine {
    ok := ⟨ok.mod, ok.kind, ok.glob, ok.blt, ok.above, ok.inj, ok.has, ok.cab, fun z => absurd (show false = true from z) Bool.false_ne_true, ok.frames, ok.stk, ok.exf, ok.bs, ok.bsz, ok.noex, ok.exfs, ok.funs, ok.frf⟩
    os := I.os, bare := I.bare
    base := ⟨I.base.keep, I.base.slot, fun b o q n hx => nn (I.base.free b o q n hx), I.base.there, fun b xs q => ?tups, fun b o u q => ?frzs, fun b ps q => ?tbls⟩
    loc := I.loc, cell := I.cell, free := nn I.free, freeC := fun x c q => nn (I.freeC x c q)
    pin := fun p hp => ?pin
    hok := fun b o q => ?hok
    len := I.len }
  case tups =>
    have q' := I.base.tups b xs q
    rw [del_ne (ne q' fun _ z => nomatch z)]
    exact q'
  case frzs =>
    have q' := I.base.frzs b o u q
    rw [del_ne (ne q' fun _ z => nomatch z)]
    exact q'
  case tbls =>
    obtain ⟨m, q'⟩ := I.base.tbls b ps q
    exact ⟨m, by rw [del_ne (ne q' fun _ z => nomatch z)]; exact q'⟩
  case pin =>
    have old : ∀ p, p ∈ ((a, oe) :: pn) ++ pins → s.heap.get? p.1 = some p.2 ∧ del H dd p.1 = none ∧ p.1 ≠ X.env.locals ∧ p.1 ∉ X.fs ∧ ∀ v, p.2.data ≠ .cell v := fun p hp => by
      obtain ⟨e1, e2, e3, e4, e5⟩ := I.pin p hp
      exact ⟨e1, nn e2, e3, e4, e5⟩
    have hp' : p ∈ (a, oe) :: (dd, od) :: (pn ++ pins) := hp
    rcases List.mem_cons.mp hp' with rfl | hp'
    · exact old _ (List.mem_append_left _ List.mem_cons_self)
    · rcases List.mem_cons.mp hp' with rfl | hp'
      · refine ⟨ho, del_same, fun z => ?_, fun z => ?_, nc⟩
        · have f0 : H X.env.locals = none := I.free
          rw [← show dd = X.env.locals from z, h] at f0
          cases f0
        · obtain ⟨_, o, hq, _⟩ := ok.funs.mem z
          have f0 := I.base.free dd o hq (ok.frf dd z) fun z' => ok.exfs dd z' z
          rw [h] at f0
          cases f0
      · exact old p (List.mem_cons_of_mem _ hp')
  case hok =>
    have nb : b ≠ dd := fun z => by rw [z, del_same] at q; cases q
    rw [del_ne nb] at q
    refine (I.hok b o q).stay (fun c v _ z => z) (fun c q' => ?_) fun c xs q' => ?_
    · rw [del_ne (ne q' fun _ z => nomatch z)]
      exact q'
    · rw [del_ne (ne q' fun _ z => nomatch z)]
      exact q'
theorem inv_unpin (I : Inv (X.suite a ((a, oe) :: (dd, od) :: pn)) pins σ H s) : Inv (X.suite a ((a, oe) :: pn)) pins σ H s :=
  ⟨⟨I.ok.mod, I.ok.kind, I.ok.glob, I.ok.blt, I.ok.above, I.ok.inj, I.ok.has, I.ok.cab, fun z => absurd (show false = true from z) Bool.false_ne_true, I.ok.frames, I.ok.stk, I.ok.exf, I.ok.bs, I.ok.bsz, I.ok.noex, I.ok.exfs, I.ok.funs, I.ok.frf⟩, I.os, I.bare, I.base, I.loc, I.cell, I.free, I.freeC, fun p hp => I.pin p (by
    have hp' : p ∈ (a, oe) :: (pn ++ pins) := hp
    show p ∈ (a, oe) :: (dd, od) :: (pn ++ pins)
    rcases List.mem_cons.mp hp' with h | h
    · rw [h]; exact List.mem_cons_self
    · exact List.mem_cons_of_mem _ (List.mem_cons_of_mem _ h)), I.hok, I.len⟩
end
/-- what a suite gives, if it does not hang on the exception's address -/
noncomputable def sameR (f : Addr → RS) : RS := by
  classical
  exact if h : ∃ r, ∀ a, f a = r then h.choose else .bad
theorem sameR_eq {f : Addr → RS} {r : RS} (h : ∀ a, f a = r) : sameR f = r := by
  have e : ∃ r, ∀ a, f a = r := ⟨r, h⟩
  unfold sameR
  rw [dif_pos e]
  exact (e.choose_spec 0).symm.trans (h 0)
theorem sameR_or (f : Addr → RS) : sameR f = .bad ∨ ∀ a, f a = sameR f := by
  by_cases e : ∃ r, ∀ a, f a = r
  · right
    unfold sameR
    rw [dif_pos e]
    exact e.choose_spec
  · left
    unfold sameR
    rw [dif_neg e]
noncomputable def sTryF (j i : Nat) (ψ : SSem) (χ : Addr → List (Str × D) → SSem) : SSem := fun s M => match ψ s M with
  | .er x s1 M1 => match x.fs with
    | some fs => if x.cls = j ∧ (fs.all fun p => isF p.2) = true then sameR fun a => blurS i (χ a fs (s1.set i (some (.glb a))) M1) else .bad
    | none => .bad
  | r => r
theorem v_tryF {j i : Nat} {ψ : SSem} {χ : Addr → List (Str × D) → SSem} {s s1 : DS} {M M1 : Mem} {fs : List (Str × D)} {r : RS} (h : ψ s M = .er ⟨j, some fs⟩ s1 M1) (hf : (fs.all fun p => isF p.2) = true) (hr : ∀ a, blurS i (χ a fs (s1.set i (some (.glb a))) M1) = r) : sTryF j i ψ χ s M = r := by
  unfold sTryF
  rw [h]
  show (if j = j ∧ _ then _ else _) = _
  rw [if_pos ⟨rfl, hf⟩]
  exact sameR_eq hr
def eXf (i : Nat) (a : Addr) (fs : List (Str × D)) (n : Str) : Sem1 D := fun s M => match s[i]? with
  | some (some (.glb a')) => if a' = a then match fs.lookup n with
    | some d => .ok d M
    | none => .bad else .bad
  | _ => .bad
abbrev flatFs (fs : List (Str × D)) : List (Str × V) := fs.map fun p => (p.1, flV p.2)
theorem flat_all {K : KX} {ι : List Addr} {F : Hp} : ∀ {fs : List (Str × D)} {vs : List (Str × V)}, (fs.all fun p => isF p.2) = true → vs.map (·.1) = fs.map (·.1) → RepL K ι F (fs.map (·.2)) (vs.map (·.2)) → vs = flatFs fs
  | [], [], _, _, _ => rfl
  | [], _ :: _, _, e, _ => by cases e
  | _ :: _, [], _, e, _ => by cases e
  | (f, d) :: fs, (g, v) :: vs, h, e, r => by
    rw [List.all_cons, Bool.and_eq_true] at h
    obtain ⟨v', us, e1, r1, r2⟩ := r
    have e1' : v = v' ∧ vs.map (·.2) = us := List.cons.inj e1
    obtain ⟨rfl, rfl⟩ := e1'
    have e' : g = f ∧ vs.map (·.1) = fs.map (·.1) := List.cons.inj e
    obtain ⟨rfl, e2⟩ := e'
    rw [flat_all h.2 e2 r2, f_rep h.1 r1] <;> rfl
theorem flat_look {n : Str} {d : D} : ∀ {fs : List (Str × D)}, fs.lookup n = some d → (flatFs fs).lookup n = some (flV d)
  | (f, e) :: fs, h => by
    show List.lookup n ((f, flV e) :: flatFs fs) = _
    unfold List.lookup at h ⊢
    split at h
    · rename_i hb
      cases h
      rfl
    · exact flat_look h
theorem flat_mem {n : Str} {d : D} : ∀ {fs : List (Str × D)}, (fs.all fun p => isF p.2) = true → fs.lookup n = some d → isF d = true
  | (f, e) :: fs, h, q => by
    rw [List.all_cons, Bool.and_eq_true] at h
    unfold List.lookup at q
    split at q
    · cases q
      exact h.1
    · exact flat_mem h.2 q
section
variable {X : Cx} {T : Tab} {W : WX} {pos pos' p np p2 p3 : Pos} {x n y z : Str} {i j : Nat} {body suite : List Stmt} {b₀ : Stmt} {ψ : SSem} {χ : Addr → List (Str × LD.D) → SSem} {C : Addr}
theorem pss_pin {a : Addr} {oe : Obj} {pn : List (Addr × Obj)} {b : List Stmt} {t : List (Str × LD.D) → TS} (h : ∀ (dd : Addr) (od : Obj) (fs : List (Str × LD.D)), Zc (.ref C) (some dd) oe → (fs.all fun p => isF p.2) = true → Says od (flatFs fs) → PSs (X.suite a ((a, oe) :: (dd, od) :: pn)) b (t fs)) {cls : Value} {d : Option Addr} (hz : Zc cls d oe) :
    PSs (X.suite a ((a, oe) :: pn)) b (fun D σ H => cls = .ref C ∧ ∃ dd fs, d = some dd ∧ (fs.all fun p => isF p.2) = true ∧ H dd = some (.xd (flatFs fs)) ∧ t fs D σ (del H dd)) := ⟨fun pins s σ H D I q => by
  obtain ⟨rfl, dd, fs, rfl, hall, hd, q⟩ := q
  obtain ⟨od, ho, hs, nc⟩ := xd_says I hd
  refine thn ((h dd od fs hz hall hs).run pins s σ _ D (inv_pin I hd ho nc) q) fun f s' hf => ?_
  cases f with
  | next =>
    obtain ⟨σ', H', J, k⟩ := hf
    exact ⟨σ', H', inv_unpin J, k⟩
  | brk =>
    obtain ⟨σ', H', J, k⟩ := hf
    exact ⟨σ', H', inv_unpin J, k⟩
  | cont =>
    obtain ⟨σ', H', J, k⟩ := hf
    exact ⟨σ', H', inv_unpin J, k⟩
  | ret u =>
    obtain ⟨v, σ', H', J, rv, k⟩ := hf
    exact ⟨v, σ', H', inv_unpin J, rv, k⟩⟩
theorem s_try_f (hs : X.stack = X.env :: X.outer) (hf : X.env.frame = some X.env.locals) (hN : X.N.Nodup) (hi : X.N[i]? = some n) (hln : X.env.kindOf n = some .local) (hc : Names X x (.ref C)) (tk : Takes X W)
    (D0 : Addr) (hj : T.et[j]? = some (.ref D0)) (hx : PySem.W.exmOne X.K (.ref D0) (.ref C) = some true)
    (hb : ∀ (W : WX) (pn : List (Addr × Obj)) (xe : Value → Shared → Prop), Takes (X.tr pn xe) W → PassesOwn (model X.prog X.w) X.A X.env xe → KB (X.tr pn xe) T W body ψ)
    (hsu : ∀ (a : Addr) (oe : Obj) (pn : List (Addr × Obj)) (dd : Addr) (od : Obj) (fs : List (Str × LD.D)), Zc (.ref D0) (some dd) oe → (∃ vs, oe.data = .fields vs) → (fs.all fun p => isF p.2) = true → Says od (flatFs fs) → KB (X.suite a ((a, oe) :: (dd, od) :: pn)) T WN (b₀ :: suite) (χ a fs)) :
    KS X T W (.Try body [.ExceptHandler (some (.Name x np)) (some n) (b₀ :: suite) pos'] [] [] pos) (sTryF j i ψ χ) := ⟨fun rs =>
  PS.imp (ps_try_as (tb := fun W => LS (kx X T) rs W ψ) (ts := fun a cls d D σ H => cls = .ref D0 ∧ ∃ dd fs, d = some dd ∧ (fs.all fun p => isF p.2) = true ∧ H dd = some (.xd (flatFs fs)) ∧ LS (kx X T) rs WN (χ a fs) D σ (del H dd)) (Wout := W) hs hf hN hi hln hc tk (fun W pn xe t ho => (hb W pn xe t ho).ps rs)
    fun a oe cls d pn hz hfl => pss_pin (fun dd od fs hz' hall hsay => (hsu a oe pn dd od fs hz' hfl hall hsay).ps rs) hz) fun D σ H h => by
    obtain ⟨ι, F, s, M, r, rS, p⟩ := h
    refine ⟨ι, F, s, M, r, rS, ?_⟩
    unfold sTryF at p
    cases ep : ψ s M with
    | nx s' M' => rw [ep] at p; exact p
    | rt d M' => rw [ep] at p; exact p
    | bk s' M' => rw [ep] at p; exact p
    | ct s' M' => rw [ep] at p; exact p
    | bad => rw [ep] at p; exact p
    | er x s1 M1 =>
      rw [ep] at p
      intro ι1 F1 H1 σ1 cls dx l1 r1 rs1 rx
      simp only at p
      split at p
      · rename_i fs efs
        by_cases hcl : x.cls = j ∧ (fs.all fun p => isF p.2) = true
        · rw [if_pos hcl] at p
          have ec : cls = .ref D0 := by
            have := rx.1
            rw [hcl.1, hj] at this
            exact (Option.some.inj this).symm
          have h2 := rx.2
          rw [efs] at h2
          cases dx with
          | none => exact h2.elim
          | some d =>
            obtain ⟨vs, hF, e1, e2⟩ := h2
            have ev := flat_all hcl.2 e1 e2
            subst ev
            subst ec
            refine ⟨true, hx, fun _ a ha => ⟨rfl, d, fs, rfl, hcl.2, r1.sub _ _ hF, ι1, del F1 d, s1.set i (some (.glb a)), M1, rel_drop r1 hF, (rs1.le (le_drop hF)).set rfl, ?_⟩, fun h => by cases h⟩
            have lt := l1.trans (le_drop (K := kx X T) (ι := ι1) hF)
            rcases sameR_or (fun a => blurS i (χ a fs (s1.set i (some (.glb a))) M1)) with hbad | hall
            · rw [hbad] at p
              exact p.elim
            rw [← hall a] at p
            cases ex : χ a fs (s1.set i (some (.glb a))) M1 with
            | nx s' M' => rw [ex] at p; exact fun ι2 F2 H2 σ2 l2 r2 rs2 => p ι2 F2 H2 _ (lt.trans l2) r2 rs2.unset
            | bk s' M' => rw [ex] at p; exact fun ι2 F2 H2 σ2 l2 r2 rs2 => p ι2 F2 H2 _ (lt.trans l2) r2 rs2.unset
            | ct s' M' => rw [ex] at p; exact fun ι2 F2 H2 σ2 l2 r2 rs2 => p ι2 F2 H2 _ (lt.trans l2) r2 rs2.unset
            | rt d M' => rw [ex] at p; exact fun ι2 F2 H2 v l2 r2 rv => p ι2 F2 H2 v (lt.trans l2) r2 rv
            | er y s' M' => rw [ex] at p; exact p.elim
            | bad => rw [ex] at p; exact p.elim
        · rw [if_neg hcl] at p
          exact p.elim
      · exact p.elim⟩
section
variable {a D0 B dd : Addr} {oe od : Obj} {pn : List (Addr × Obj)} {b : Bool} {fs : List (Str × LD.D)}
theorem inst_f {s : Shared} {pins : List (Addr × Obj)} {σ : L2.St} {H : Hp} (I : Inv (X.suite a ((a, oe) :: (dd, od) :: pn)) pins σ H s) (hz : Zc (.ref D0) (some dd) oe) (hfl : ∃ vs, oe.data = .fields vs) : PySem.W.InstAt s.heap a oe D0 (some od) := by
  have h1 := (I.pin (a, oe) (List.mem_append_left _ List.mem_cons_self)).1
  have h2 := (I.pin (dd, od) (List.mem_append_left _ (List.mem_cons_of_mem _ List.mem_cons_self))).1
  obtain ⟨vs, hv⟩ := hfl
  obtain ⟨oc, od', oda, osl⟩ := oe
  obtain ⟨z1, z2⟩ := hz
  dsimp only at z1 z2 hv
  subst z1 z2 hv
  exact ⟨h1, rfl, rfl, h2⟩
/-- e.f in the suite -/
theorem d_xf (ga : PySem.W.findIn X.K (.ref D0) "__getattribute__" = some (some (.builtin "BaseException.__getattribute__"))) (gg : PySem.W.findIn X.K (.ref D0) "__getattr__" = some none) (exC : PySem.W.subIn X.K (.ref D0) (.type "BaseException") = some true) (hdC : PySem.W.hasDictIn X.K D0 = true)
    (hno : PySem.W.findIn X.K (.ref D0) n = some none) (hz : Zc (.ref D0) (some dd) oe) (hfl : ∃ vs, oe.data = .fields vs) (hall : (fs.all fun p => isF p.2) = true) (hsay : Says od (flatFs fs)) (hi : X.N[i]? = some y) (hln : Vis X.env.scope y)
    (hdy : (y == ("__debug__" : Str)) = false := by decide) (hcy : (y == ("__classdict__" : Str)) = false := by decide) (hb : attributeBase (.Name y p2) n X.env (eval (.Name y p2) X.env) = eval (.Name y p2) X.env := by rfl) :
    KE (X.suite a ((a, oe) :: (dd, od) :: pn)) T WN (.Attribute (.Name y p2) n pos) (eXf i a fs n) := fun rs => ⟨fun pins s σ H Q I h => by
  obtain ⟨ι, F, st, M, r, rS, q⟩ := h
  unfold eXf at q
  split at q
  · rename_i a' e
    split at q
    · rename_i ea
      subst ea
      split at q
      · rename_i d el
        obtain ⟨v, h1, h2⟩ := rS.2 _ _ e
        cases h2
        refine attr_of hb (thn ((pe_var (X := X.suite a' ((a', oe) :: (dd, od) :: pn)) (i := i) hi hln hdy hcy).run pins s σ H (fun v H' => v = .ref a' ∧ H' = H) I ⟨_, h1, rfl, rfl⟩) fun u s1 hh => ?_)
        obtain ⟨w, H1, I1, rx, rfl, rfl⟩ := hh
        obtain rfl : u = Value.ref a' := rx
        obtain ⟨u, hl, ru⟩ := hsay n _ (flat_look el)
        have J := inst_f I1 hz hfl
        have ep := q.fin r (rep_f (flat_mem hall el))
        exact HandSPX.exc_get I1.kIn J ga gg exC (PySem.W.findObj_own hdC hno rfl hl) (handed_of ru) ⟨flV d, H1, I1.tok _, ru, ep⟩
      · exact q.elim
    · exact q.elim
  · exact q.elim⟩
/-- isinstance(e, C) in such a suite -/
theorem call_isF (C : ExcC X.K D0) (hz : Zc (.ref D0) (some dd) oe) (hfl : ∃ vs, oe.data = .fields vs) : CallR (X.suite a ((a, oe) :: (dd, od) :: pn)) (.builtin "isinstance") (rIsE X.K D0 a) := by
  intro pins s σ H xs us Q I r h
  obtain ⟨c, cv, b, rfl, hcv, e, q⟩ := h
  obtain ⟨u1, r1, rfl, rx, r'⟩ : ∃ u1 r1, us = u1 :: r1 ∧ RelV (.ref a) u1 ∧ Vals [c] r1 := by cases r with | cons rx rr => exact ⟨_, _, rfl, rx, rr⟩
  obtain ⟨u2, rfl, rt⟩ := vals1 r'
  obtain rfl : u1 = Value.ref a := rx
  have ec := hcv _ rt
  subst ec
  have J := inst_f I hz hfl
  exact PySem.W.kia_one (kitx_excF C) I.kIn J e (fun z => nomatch z) fun tk => ⟨.bl b, H, I.kept (t' := tk) fun _ _ z => z, rfl, q⟩
theorem d_isF (ec : ExcC X.K D0) (hz : Zc (.ref D0) (some dd) oe) (hfl : ∃ vs, oe.data = .fields vs) (hi : X.N[i]? = some y) (hln : Vis X.env.scope y) (gB : X.mg z = some (.ref B)) (hk : PySem.W.kitOne X.K (.ref D0) (.ref B) = some b) (hm : X.mg "isinstance" = none)
    (hg : Gl X "isinstance" := by rfl) (hgz : Gl X z := by rfl) (hdb : (z == ("__debug__" : Str)) = false := by decide) (hdy : (y == ("__debug__" : Str)) = false := by decide) (hcy : (y == ("__classdict__" : Str)) = false := by decide) :
    KE (X.suite a ((a, oe) :: (dd, od) :: pn)) T WN (.Call (.Name "isinstance" p) [.Name y p2, .Name z p3] [] pos) (eIsE i a b) := fun rs =>
  PE.imp (pe_callB (X := X.suite a ((a, oe) :: (dd, od) :: pn)) (call_isF ec hz hfl) hg hm (by rfl) (pa_cons (pe_var (i := i) hi hln hdy hcy) (pa_cons (pe_glob (v := .ref B) hgz gB rfl hdb) pa_nil (by rfl)) (by rfl)) (by decide) (by decide) (by rfl) (by rfl)) fun σ H Q h => by
    obtain ⟨ι, F, s, M, r, rS, q⟩ := h
    unfold eIsE at q
    split at q
    · rename_i a' e
      split at q
      · rename_i ea
        subst ea
        obtain ⟨v, h1, h2⟩ := rS.2 _ _ e
        cases h2
        exact ⟨_, h1, V.ref B, Value.ref B, b, rfl, fun u hu => hu, hk, q.fin r rfl⟩
      · exact q.elim
    · exact q.elim
end
end
end LD
namespace LD
open PySem PySem.Spec PyProof.Rows L2
/-! ### further evaluation rows -/
section
variable {s : DS} {M : Mem} {α : Sem1 (List D)} {a b c : Sem1 D} {g g' : O2} {k n : Nat} {fs : List (Str × Nat)} {ok : List D → Bool} {f f' f'' : Str} {d d' d'' : D}
def raiK (k n : Nat) (fs : List (Str × Nat)) (ok : List D → Bool) (ds : List D) (s : DS) (M : Mem) : RS := if ds.length = n ∧ ok ds = true then .er ⟨k, some (fldD fs ds [])⟩ s M else .bad
theorem q_RaiseF : sRaiseF k n fs ok α s M = bndS (α s M) s (fun ds M1 => raiK k n fs ok ds s M1) .mk := rfl
theorem raiK_1 : raiK k 1 [(f, 0)] (fun _ => true) [d] s M = .er ⟨k, some [(f, d)]⟩ s M := rfl
theorem raiK_2 : raiK k 2 [(f, 0), (f', 1)] (fun _ => true) [d, d'] s M = .er ⟨k, some [(f', d'), (f, d)]⟩ s M := rfl
theorem raiK_3 : raiK k 3 [(f, 0), (f', 1), (f'', 2)] (fun _ => true) [d, d', d''] s M = .er ⟨k, some [(f'', d''), (f', d'), (f, d)]⟩ s M := rfl
def chC (z : D) (k : R D) (M : Mem) (_ : Tg k) : R D := match z with
  | .bl true => k
  | .bl false => .ok (.bl false) M
  | _ => .bad
theorem chC_t {k : R D} {t : Tg k} : chC (.bl true) k M t = k := rfl
theorem chC_f {k : R D} {t : Tg k} : chC (.bl false) k M t = .ok (.bl false) M := rfl
theorem q_Chain : eChain g g' a b c s M = bnd (a s M) (fun x M1 => bnd (b s M1) (fun y M2 => bnd (ofO (g x y M2)) (fun z M3 => chC z (bnd (c s M3) (fun w M4 => ofO (g' y w M4)) .mk) M3 .mk) .mk) .mk) .mk := by
  show R.bind (a s M) _ = R.bind (a s M) _
  refine congrArg (R.bind (a s M)) (funext fun x => funext fun M1 => congrArg (R.bind (b s M1)) (funext fun y => funext fun M2 => congrArg (R.bind (ofO (g x y M2))) (funext fun z => funext fun M3 => ?_)))
  cases z with
  | bl k => cases k <;> rfl
  | _ => rfl
end
end LD
namespace LD
open PySem PySem.Spec PyProof.Rows L2
/-! ### e.replace(..) of written texts: a token must be out -/
def KET (X : Cx) (T : Tab) (W : WX) (e : Expr) (φ : Sem1 D) : Prop := ∀ rs, PET X e (LE (kx X T) rs W φ)
def eRepl (φ : Sem1 D) (y z : Str) : Sem1 D := fun s M => (φ s M).bind fun d M1 => match d with
  | .str x => if x.length + (x.length + 1) * z.length ≤ LINE then .ok (.str (Txt.replace x y z)) M1 else .bad
  | _ => .bad
section
variable {X : Cx} {T : Tab} {W : WX} {o e f : Expr} {φ ψ : Sem1 LD.D} {y z : Str} {j k : Nat} {c0 c1 apos pos p p' : Pos} {rs : List (Addr × HO)}
theorem PET.imp {t t' : TE} (h : PET X e t) (g : ∀ σ H Q, t' σ H Q → t σ H Q) : PET X e t' := fun pins s σ H Q h0 I q => h pins s σ H Q h0 I (g _ _ _ q)
theorem ket_of (h : KE X T W e φ) : KET X T W e φ := fun rs => CwR.PET.of (h rs)
theorem repl_in {to : TE} (q : ∀ σ H Q, LE (kx X T) rs W φ σ H Q → to σ H Q) : ∀ σ H Q, LE (kx X T) rs W (eRepl φ y z) σ H Q → CwR.tReplC to y z σ H Q := fun σ H Q h => q _ _ _ (by
  obtain ⟨ι, F, s, M, r, rS, p⟩ := h
  refine ⟨ι, F, s, M, r, rS, p.step fun v H1 ι1 F1 M1 d l1 r1 rv p1 => ?_⟩
  split at p1
  · rename_i x
    split at p1
    · rename_i hl
      cases rv
      exact ⟨x, rfl, by rw [← show LINE = 16777216 from rfl]; exact hl, p1.fin r1 rfl⟩
    · exact p1.elim
  · exact p1.elim)
theorem ket_repl (h : KE X T W o φ) (hyz : (y == z) = false := by decide)
    (hst : starEach [.Constant (.str y) j c0, .Constant (.str z) k c1] X.env = [(false, eval (.Constant (.str y) j c0) X.env), (false, eval (.Constant (.str z) k c1) X.env)] := by rfl)
    (hbase : attributeBase o "replace" X.env (eval o X.env) = eval o X.env := by rfl) (hline : (apos.endLine == pos.line) = true := by rfl) :
    KET X T W (.Call (.Attribute o "replace" apos) [.Constant (.str y) j c0, .Constant (.str z) k c1] [] pos) (eRepl φ y z) := fun rs => PET.imp (CwR.pet_replC (h rs) hyz hst hbase hline) (repl_in fun _ _ _ q => q)
theorem ket_replT (h : KET X T W o φ) (hyz : (y == z) = false := by decide)
    (hst : starEach [.Constant (.str y) j c0, .Constant (.str z) k c1] X.env = [(false, eval (.Constant (.str y) j c0) X.env), (false, eval (.Constant (.str z) k c1) X.env)] := by rfl)
    (hbase : attributeBase o "replace" X.env (eval o X.env) = eval o X.env := by rfl) (hline : (apos.endLine == pos.line) = true := by rfl) :
    KET X T W (.Call (.Attribute o "replace" apos) [.Constant (.str y) j c0, .Constant (.str z) k c1] [] pos) (eRepl φ y z) := fun rs => PET.imp (CwR.pet_replT (h rs) hyz hst hbase hline) (repl_in fun _ _ _ q => q)
/-- return e, e wants a token -/
theorem ket_ret (h : KET X T W e φ) : ∀ rs, PSsT X [.Return (some e) pos] (LS (kx X T) rs W (sSeq (sRet φ) sNext)) := fun rs pins s σ H D h0 I q => CwR.psst_one (CwR.pst_ret (h rs)) pins s σ H D h0 I (by
  obtain ⟨ι, F, s, M, r, rS, p⟩ := q
  show tRet _ _ _ _
  refine ⟨ι, F, s, M, r, rS, ?_⟩
  unfold sSeq sRet at p
  cases e : φ s M with
  | ok d M' => rw [e] at p; exact fun ι' F' H' v l r' rv => p ι' F' H' v l r' rv
  | er x M' => rw [e] at p; exact fun ι' F' H' c dx l r' rx => p ι' F' H' σ c dx l r' (rS.le l) rx
  | bad => rw [e] at p; exact p.elim)
end
section
variable {P : Program} {w : World} {K : PySem.W.Frag} {mg : Str → Option Value} {base : Heap} {T : Tab}
theorem kfnT {x qual : Str} {st : Stmt} {f : Addr} {fd : FuncData} {N ps : List Str} {k : Nat} {ψ : SSem} (F : L2.Fun K x qual st f fd) (S : FnScope N ps (defScope st)) (hnc : ∀ y ∈ (defScope st).names, y.2 ≠ .cell) (hps : 1 ≤ ps.length)
    (hbody : ∀ (cdv : Value) (A : Around) (outer : List Env) (s : Shared) (H : Hp) (E : XK), ∀ rs, PSsT (cxOf (L2.CX P w) P w K mg base N qual (defScope st) f cdv A outer s H E) (defBody st) (LS (kx (cxOf (L2.CX P w) P w K mg base N qual (defScope st) f cdv A outer s H E) T) rs (fun c d _ H => E c d H) ψ)) :
    FnX P w K mg base T (k + 1) f fd ps (defD N.length ps.length ψ) := by
  obtain ⟨oc, od, kV, doc, pm, an, cdv, ct, osl, rfl, lk, hcd⟩ := F.ex
  have G := fn_ofT (CX := L2.CX P w) (P := P) (w := w) (mg := mg) (base := base) (k := k) (N := N) (ps := ps) (sp := fun vs H Q E => vs.length = ps.length ∧ ∃ rs, spD ⟨K, T⟩ rs (defD N.length ps.length ψ) vs H Q E) lk hcd S hnc hps (fun vs H Q E q => q.1) fun A outer s H vs Q E hr q => by
    obtain ⟨_, rs, ι, F', ds, M, r, rd, p⟩ := q
    refine ⟨_, hbody cdv A outer s H E rs, ?_⟩
    unfold defD at p
    split at p
    · refine ⟨ι, F', startD N.length ds, M, r, start_rep rd, ?_⟩
      cases e : ψ (startD N.length ds) M with
      | nx s' M' => rw [e] at p; exact fun ι' F' H' σ' l r' _ => p ι' F' H' .non l r' rfl
      | rt d M' => rw [e] at p; exact p
      | er x s' M' => rw [e] at p; exact fun ι' F' H' σ' c dx l r' _ rx => p ι' F' H' c dx l r' rx
      | bk s' M' => rw [e] at p; exact p.elim
      | ct s' M' => rw [e] at p; exact p.elim
      | bad => rw [e] at p; exact p.elim
    · exact p.elim
  refine ⟨fun rs A outer s H args us vs Q E hr e0 hb hv h => G.run A outer s H args us vs Q E hr.l2 e0 hb hv ⟨?_, rs, h⟩⟩
  obtain ⟨ι, F', ds, M, r, rd, p⟩ := h
  unfold defD at p
  split at p
  · rename_i hl
    rw [RepL.length rd, hl]
  · exact p.elim
end
end LD
namespace K68
open PySem PySem.Spec PyProof.Rows L2 LD

def top (i : Nat) : Stmt := PySem.Challenge.pw_viewloom_k68_plain_texts.main.body.getD i (.Pass ⟨0, 0, 0, 0⟩)
abbrev st_write_text : Stmt := (top 1)
abbrev st_write_value : Stmt := (top 2)
abbrev st_write_start : Stmt := (top 3)
abbrev st_plain_text : Stmt := (top 5)
abbrev st_write_tree : Stmt := (top 4)
abbrev st__law_joined : Stmt := (top 13)
abbrev st__law_flat : Stmt := (top 12)
abbrev st__law_text : Stmt := (top 8)
abbrev st__law_word : Stmt := (top 9)
abbrev st__law_tree : Stmt := (top 10)
abbrev st__law_drawn : Stmt := (top 11)
abbrev st__law_rows : Stmt := (top 7)
abbrev st_law : Stmt := (top 14)
abbrev N_write_text : List Str := ["text"]
abbrev N_write_value : List Str := ["text"]
abbrev N_write_start : List Str := ["tag", "attributes", "parts", "name", "text"]
abbrev N_plain_text : List Str := ["nodes", "parts", "node"]
abbrev N_write_tree : List Str := ["nodes", "parts", "before", "node", "number"]
abbrev N__law_joined : List Str := ["_law_nodes", "_law_joined_here", "_law_node"]
abbrev N__law_flat : List Str := ["_law_nodes", "_law_flat_here", "_law_node"]
abbrev N__law_text : List Str := ["_law_row", "_law_signs", "_law_j"]
abbrev N__law_word : List Str := ["_law_row"]
abbrev N__law_tree : List Str := ["_law_rows_here", "_law_world", "_law_depth", "_law_nodes", "_law_turn", "_law_row", "_law_kind", "_law_attributes", "_law_j", "_law_name", "_law_kids", "_law_number"]
abbrev N__law_drawn : List Str := ["_law_rows_here", "_law_at", "_law_most"]
abbrev N__law_rows : List Str := ["_law_script", "_law_count", "_law_rows_here", "_law_k", "_law_cell"]
abbrev N_law : List Str := ["_law_script", "_law_rows_here", "_law_k", "_law_tree_here", "_law_kept", "_law_told"]
abbrev P_write_text : List Str := ["text"]
abbrev P_write_value : List Str := ["text"]
abbrev P_write_start : List Str := ["tag", "attributes"]
abbrev P_plain_text : List Str := ["nodes"]
abbrev P_write_tree : List Str := ["nodes"]
abbrev P__law_joined : List Str := ["_law_nodes"]
abbrev P__law_flat : List Str := ["_law_nodes"]
abbrev P__law_text : List Str := ["_law_row"]
abbrev P__law_word : List Str := ["_law_row"]
abbrev P__law_tree : List Str := ["_law_rows_here", "_law_world", "_law_depth"]
abbrev P__law_drawn : List Str := ["_law_rows_here", "_law_at", "_law_most"]
abbrev P__law_rows : List Str := ["_law_script", "_law_count"]
abbrev P_law : List Str := ["_law_script"]
/-! ### what each def is worth -/
def ψ_write_text : SSem := (sSeq (sRet (eRepl (eRepl (eRepl (eVar 0) "&" "&amp;") "<" "&lt;") ">" "&gt;")) sNext)
def φ_write_text : FnD := defD 1 1 ψ_write_text
def ψ_write_value : SSem := (sSeq (sRet (eRepl (eRepl (eRepl (eVar 0) "&" "&amp;") "<" "&lt;") "\"" "&quot;")) sNext)
def φ_write_value : FnD := defD 1 1 ψ_write_value
def β_write_start_2 : SSem := (sSeq (sExpr (eBm isLst appG (eVar 2) (aCons (eBin addD (eBin addD (eBin addD (eBin addD (eC (.str " ")) (eVar 3)) (eC (.str "=\""))) (eCall φ_write_value (aCons (eVar 4) aNil) aNil)) (eC (.str "\""))) aNil))) sNext)
def ψ_write_start : SSem := (sSeq (sAsg (gNm 2) (eLst true (aCons (eBin addD (eC (.str "<")) (eVar 0)) aNil))) (sSeq (sFor (iOf (eVar 1)) (gTp [3, 4]) β_write_start_2) (sSeq (sRet (eBin addD (eBm isStrD joinG (eC (.str "")) (aCons (eVar 2) aNil)) (eC (.str ">")))) sNext)))
def φ_write_start : FnD := defD 5 2 ψ_write_start
def β_plain_text_2 (φr : FnD) : SSem := (sSeq (sIf (tCmp (boD eqD) (eBin ixD (eVar 2) (eC (.int 0))) (eC (.str "text"))) (sSeq (sExpr (eBm isLst appG (eVar 1) (aCons (eCall φ_write_text (aCons (eBin ixD (eVar 2) (eC (.int 1))) aNil) aNil) aNil))) sNext) (sSeq (sIf (tCmp (boD eqD) (eBin ixD (eVar 2) (eC (.int 0))) (eC (.str "element"))) (sSeq (sExpr (eBm isLst appG (eVar 1) (aCons (eBin addD (eBin addD (eBin addD (eBin addD (eCall φ_write_start (aCons (eBin ixD (eVar 2) (eC (.int 1))) (aCons (eBin ixD (eVar 2) (eC (.int 2))) aNil)) aNil) (eCall φr (aCons (eBin ixD (eVar 2) (eC (.int 3))) aNil) aNil)) (eC (.str "</"))) (eBin ixD (eVar 2) (eC (.int 1)))) (eC (.str ">"))) aNil))) sNext) (sSeq (sExpr (eBm isLst appG (eVar 1) (aCons (eCall φr (aCons (eBin ixD (eVar 2) (eC (.int 2))) aNil) aNil) aNil))) sNext)) sNext)) sNext)
def ψ_plain_text (φr : FnD) : SSem := (sSeq (sAsg (gNm 1) (eLst true aNil)) (sSeq (sFor (iOf (eVar 0)) (gNm 2) (β_plain_text_2 φr)) (sSeq (sRet (eBm isStrD joinG (eC (.str "")) (aCons (eVar 1) aNil))) sNext)))
def φ_plain_text : Nat → FnD
  | 0 => fun _ _ => .bad
  | m + 1 => defD 3 1 (ψ_plain_text (φ_plain_text m))
def β_write_tree_3 (φr : FnD) : SSem := (sSeq (sIf (tCmp (boD eqD) (eBin ixD (eVar 3) (eC (.int 0))) (eC (.str "text"))) (sSeq (sIf (tAnd (tCmp (boD (notB eqD)) (eVar 2) (eC (.str ""))) (tCmp (boD (notB eqD)) (eBin ixD (eVar 3) (eC (.int 1))) (eC (.str "")))) (sSeq (sExpr (eBm isLst appG (eVar 1) (aCons (eC (.str "<!--t-->")) aNil))) sNext) sNext) (sSeq (sExpr (eBm isLst appG (eVar 1) (aCons (eIf (tCmp (boD (notB eqD)) (eBin ixD (eVar 3) (eC (.int 1))) (eC (.str ""))) (eCall φ_write_text (aCons (eBin ixD (eVar 3) (eC (.int 1))) aNil) aNil) (eC (.str "<!--e-->"))) aNil))) sNext)) (sSeq (sIf (tCmp (boD eqD) (eBin ixD (eVar 3) (eC (.int 0))) (eC (.str "element"))) (sSeq (sExpr (eBm isLst appG (eVar 1) (aCons (eBin addD (eBin addD (eBin addD (eBin addD (eCall φ_write_start (aCons (eBin ixD (eVar 3) (eC (.int 1))) (aCons (eBin ixD (eVar 3) (eC (.int 2))) aNil)) aNil) (eCall φr (aCons (eBin ixD (eVar 3) (eC (.int 3))) aNil) aNil)) (eC (.str "</"))) (eBin ixD (eVar 3) (eC (.int 1)))) (eC (.str ">"))) aNil))) sNext) (sSeq (sAsg (gNm 4) (eIf (tCmp (boD isB) (eBin ixD (eVar 3) (eC (.int 1))) (eC .non)) (eC (.str "")) (eBlt strC (aCons (eBin ixD (eVar 3) (eC (.int 1))) aNil)))) (sSeq (sExpr (eBm isLst appG (eVar 1) (aCons (eBin addD (eBin addD (eBin addD (eBin addD (eC (.str "<!--[")) (eVar 4)) (eC (.str "-->"))) (eCall φr (aCons (eBin ixD (eVar 3) (eC (.int 2))) aNil) aNil)) (eC (.str "<!--]-->"))) aNil))) sNext))) sNext)) (sSeq (sAsg (gNm 2) (eIf (tCmp (boD eqD) (eBin ixD (eVar 3) (eC (.int 0))) (eC (.str "text"))) (eBin ixD (eVar 3) (eC (.int 1))) (eC (.str "")))) sNext))
def ψ_write_tree (φr : FnD) : SSem := (sSeq (sAsg (gNm 1) (eLst true aNil)) (sSeq (sAsg (gNm 2) (eC (.str ""))) (sSeq (sFor (iOf (eVar 0)) (gNm 3) (β_write_tree_3 φr)) (sSeq (sRet (eBm isStrD joinG (eC (.str "")) (aCons (eVar 1) aNil))) sNext))))
def φ_write_tree : Nat → FnD
  | 0 => fun _ _ => .bad
  | m + 1 => defD 5 1 (ψ_write_tree (φ_write_tree m))
def β__law_joined_2 (φr : FnD) : SSem := (sSeq (sIf (tAnd (tCmp (boD eqD) (eBin ixD (eVar 2) (eC (.int 0))) (eC (.str "text"))) (tAnd (tCmp (boD gtB) (eBlt lenC (aCons (eVar 1) aNil)) (eC (.int 0))) (tCmp (boD eqD) (eBin ixD (eBin ixD (eVar 1) (eBin subD (eBlt lenC (aCons (eVar 1) aNil)) (eC (.int 1)))) (eC (.int 0))) (eC (.str "text"))))) (sSeq (sSub (eVar 1) (eBin subD (eBlt lenC (aCons (eVar 1) aNil)) (eC (.int 1))) (eTup (aCons (eC (.str "text")) (aCons (eBin addD (eBin ixD (eBin ixD (eVar 1) (eBin subD (eBlt lenC (aCons (eVar 1) aNil)) (eC (.int 1)))) (eC (.int 1))) (eBin ixD (eVar 2) (eC (.int 1)))) aNil)))) sNext) (sSeq (sExpr (eBm isLst appG (eVar 1) (aCons (eVar 2) aNil))) sNext)) sNext)
def ψ__law_joined (φr : FnD) : SSem := (sSeq (sAsg (gNm 1) (eLst true aNil)) (sSeq (sFor (iOf (eCall φr (aCons (eVar 0) aNil) aNil)) (gNm 2) (β__law_joined_2 φr)) (sSeq (sRet (eVar 1)) sNext)))
def φ__law_joined (φr : FnD) : FnD := defD 3 1 (ψ__law_joined φr)
def β__law_flat_2 (φr : FnD) : SSem := (sSeq (sIf (tCmp (boD eqD) (eBin ixD (eVar 2) (eC (.int 0))) (eC (.str "await"))) (sSeq (sAsg (gNm 1) (eBin addM (eVar 1) (eCall φr (aCons (eBin ixD (eVar 2) (eC (.int 2))) aNil) aNil))) sNext) (sSeq (sIf (tCmp (boD eqD) (eBin ixD (eVar 2) (eC (.int 0))) (eC (.str "element"))) (sSeq (sExpr (eBm isLst appG (eVar 1) (aCons (eTup (aCons (eC (.str "element")) (aCons (eBin ixD (eVar 2) (eC (.int 1))) (aCons (eBin ixD (eVar 2) (eC (.int 2))) (aCons (eCall (φ__law_joined φr) (aCons (eBin ixD (eVar 2) (eC (.int 3))) aNil) aNil) aNil))))) aNil))) sNext) (sSeq (sIf (tCmp (boD (notB eqD)) (eBin ixD (eVar 2) (eC (.int 1))) (eC (.str ""))) (sSeq (sExpr (eBm isLst appG (eVar 1) (aCons (eVar 2) aNil))) sNext) sNext) sNext)) sNext)) sNext)
def ψ__law_flat (φr : FnD) : SSem := (sSeq (sAsg (gNm 1) (eLst true aNil)) (sSeq (sFor (iOf (eVar 0)) (gNm 2) (β__law_flat_2 φr)) (sSeq (sRet (eVar 1)) sNext)))
def φ__law_flat : Nat → FnD
  | 0 => fun _ _ => .bad
  | m + 1 => defD 3 1 (ψ__law_flat (φ__law_flat m))
def ψ__law_text : SSem := (sSeq (sAsg (gNm 1) (eC (.str "ab<>&\"- ;!\n=/1"))) (sSeq (sRet (eBm isStrD joinG (eC (.str "")) (aCons (eComp false (iRange (aCons (eBin modD (eBlt intC (aCons (eVar 0) aNil)) (eC (.int 6))) aNil)) (gNm 2) tTrue (eBin ixD (eVar 1) (eBin modD (eBlt intC (aCons (eBin fdivD (eVar 0) (eBin addD (eC (.int 3)) (eBin mulD (eC (.int 5)) (eVar 2)))) aNil)) (eC (.int 14)))) [2]) aNil))) sNext))
def φ__law_text : FnD := defD 3 1 ψ__law_text
def ψ__law_word : SSem := (sSeq (sRet (eBin ixD (eLst false (aCons (eC (.str "a")) (aCons (eC (.str "p")) (aCons (eC (.str "li")) (aCons (eC (.str "x-1")) (aCons (eC (.str "b2")) (aCons (eC (.str "span")) aNil))))))) (eBin modD (eBlt intC (aCons (eVar 0) aNil)) (eC (.int 6))))) sNext)
def φ__law_word : FnD := defD 1 1 ψ__law_word
def β__law_tree_12 (φr : FnD) : SSem := (sSeq (sAsg (gNm 9) (eBin ixD (eLst false (aCons (eC (.str "n")) (aCons (eC (.str "v-2")) (aCons (eC (.str "data")) aNil)))) (eBin modD (eBin addD (eBlt intC (aCons (eBin fdivD (eVar 5) (eC (.int 18))) aNil)) (eVar 8)) (eC (.int 3))))) (sSeq (sExpr (eBm isLst appG (eVar 7) (aCons (eTup (aCons (eVar 9) (aCons (eCall φ__law_text (aCons (eBin fdivD (eVar 5) (eBin addD (eC (.int 31)) (eBin mulD (eC (.int 7)) (eVar 8)))) aNil) aNil) aNil))) aNil))) sNext))
def β__law_tree_2 (φr : FnD) : SSem := (sSeq (sAsg (gNm 5) (eBin fdivD (eBin ixD (eVar 0) (eBin modD (eBin ixD (eVar 1) (eC (.str "at"))) (eBlt lenC (aCons (eVar 0) aNil)))) (eC (.int 4)))) (sSeq (sSub (eVar 1) (eC (.str "at")) (eBin addD (eBin ixD (eVar 1) (eC (.str "at"))) (eC (.int 1)))) (sSeq (sIf (tCmp (boD gtB) (eBin ixD (eVar 1) (eC (.str "at"))) (eBin ixD (eVar 1) (eC (.str "most")))) (sSeq sBk sNext) sNext) (sSeq (sAsg (gNm 6) (eBin modD (eBlt intC (aCons (eVar 5) aNil)) (eC (.int 6)))) (sSeq (sIf (tCmp (boD leB) (eVar 6) (eC (.int 1))) (sSeq (sExpr (eBm isLst appG (eVar 3) (aCons (eTup (aCons (eC (.str "text")) (aCons (eCall φ__law_text (aCons (eBin fdivD (eVar 5) (eC (.int 6))) aNil) aNil) aNil))) aNil))) sNext) (sSeq (sIf (tOr (tCmp (boD leB) (eVar 6) (eC (.int 3))) (tCmp (boD geB) (eVar 2) (eC (.int 6)))) (sSeq (sAsg (gNm 7) (eLst true aNil)) (sSeq (sFor (iRange (aCons (eBin modD (eBlt intC (aCons (eBin fdivD (eVar 5) (eC (.int 6))) aNil)) (eC (.int 3))) aNil)) (gNm 8) (β__law_tree_12 φr)) (sSeq (sAsg (gNm 10) (eLst true aNil)) (sSeq (sIf (tCmp (boD ltB) (eVar 2) (eC (.int 6))) (sSeq (sAsg (gNm 10) (eCall φr (aCons (eVar 0) (aCons (eVar 1) (aCons (eBin addD (eVar 2) (eC (.int 1))) aNil))) aNil)) sNext) sNext) (sSeq (sExpr (eBm isLst appG (eVar 3) (aCons (eTup (aCons (eC (.str "element")) (aCons (eCall φ__law_word (aCons (eBin fdivD (eVar 5) (eC (.int 50))) aNil) aNil) (aCons (eVar 7) (aCons (eVar 10) aNil))))) aNil))) sNext))))) (sSeq (sAsg (gNm 11) (eC .non)) (sSeq (sIf (tCmp (boD eqD) (eVar 6) (eC (.int 4))) (sSeq (sSub (eVar 1) (eC (.str "number")) (eBin addD (eBin addD (eBin ixD (eVar 1) (eC (.str "number"))) (eC (.int 1))) (eBin modD (eBlt intC (aCons (eBin fdivD (eVar 5) (eC (.int 6))) aNil)) (eC (.int 3))))) (sSeq (sAsg (gNm 11) (eBin ixD (eVar 1) (eC (.str "number")))) sNext)) sNext) (sSeq (sExpr (eBm isLst appG (eVar 3) (aCons (eTup (aCons (eC (.str "await")) (aCons (eVar 11) (aCons (eCall φr (aCons (eVar 0) (aCons (eVar 1) (aCons (eBin addD (eVar 2) (eC (.int 1))) aNil))) aNil) aNil)))) aNil))) sNext)))) sNext)) sNext)))))
def ψ__law_tree (φr : FnD) : SSem := (sSeq (sAsg (gNm 3) (eLst true aNil)) (sSeq (sFor (iRange (aCons (eBin modD (eBlt intC (aCons (eBin ixD (eVar 0) (eBin modD (eBin ixD (eVar 1) (eC (.str "at"))) (eBlt lenC (aCons (eVar 0) aNil)))) aNil)) (eC (.int 4))) aNil)) (gNm 4) (β__law_tree_2 φr)) (sSeq (sRet (eVar 3)) sNext)))
def φ__law_tree : Nat → FnD
  | 0 => fun _ _ => .bad
  | m + 1 => defD 12 3 (ψ__law_tree (φ__law_tree m))
def ψ__law_drawn : SSem := (sSeq (sRet (eCall (φ__law_tree 10) (aCons (eVar 0) (aCons (eDisp [.inr "at", .inr "most", .inr "number"] (aCons (eVar 1) (aCons (eBin addD (eVar 1) (eVar 2)) (aCons (eC (.int 0)) aNil)))) (aCons (eC (.int 0)) aNil))) aNil)) sNext)
def φ__law_drawn : FnD := defD 3 3 ψ__law_drawn
def β__law_rows_2 : SSem := (sSeq (sAsg (gNm 4) (eC (.int 0))) (sSeq (sIf (tCmp (boD gtB) (eBlt lenC (aCons (eVar 0) aNil)) (eC (.int 0))) (sSeq (sAsg (gNm 4) (eBlt intC (aCons (eBin ixD (eVar 0) (eBin modD (eBlt intC (aCons (eVar 3) aNil)) (eBlt lenC (aCons (eVar 0) aNil)))) aNil))) sNext) sNext) (sSeq (sIf (tCmp (boD ltB) (eVar 4) (eC (.int 0))) (sSeq (sAsg (gNm 4) (eBin subD (eC (.int 1)) (eBin mulD (eC (.int 2)) (eVar 4)))) sNext) sNext) (sSeq (sIf (tOr (tCmp (boD geB) (eVar 3) (eBlt lenC (aCons (eVar 0) aNil))) (tCmp (boD ltB) (eVar 4) (eC (.int 1000000000)))) (sSeq (sAsg (gNm 4) (eBin modD (eBlt intC (aCons (eBin addD (eBin mulD (eBin addD (eBin addD (eVar 4) (eBin mulD (eC (.int 131)) (eVar 3))) (eC (.int 7))) (eC (.int 48271))) (eBin mulD (eBin mulD (eVar 3) (eVar 3)) (eC (.int 69621)))) aNil)) (eC (.int 1000000007)))) (sSeq (sAsg (gNm 4) (eBin modD (eBlt intC (aCons (eBin mulD (eBin addD (eBin addD (eVar 4) (eBin mulD (eC (.int 17)) (eVar 3))) (eC (.int 3))) (eC (.int 2862933555777941757))) aNil)) (eC (.int 18446744073709551557)))) sNext)) sNext) (sSeq (sExpr (eBm isLst appG (eVar 2) (aCons (eVar 4) aNil))) sNext)))))
def ψ__law_rows : SSem := (sSeq (sAsg (gNm 2) (eLst true aNil)) (sSeq (sFor (iRange (aCons (eVar 1) aNil)) (gNm 3) β__law_rows_2) (sSeq (sRet (eVar 2)) sNext)))
def φ__law_rows : FnD := defD 5 2 ψ__law_rows
def β_law_2 : SSem := (sSeq (sAsg (gNm 3) (eCall φ__law_drawn (aCons (eVar 1) (aCons (eBin mulD (eC (.int 19)) (eVar 2)) (aCons (eC (.int 30)) aNil))) aNil)) (sSeq (sAsg (gNm 4) (eBlt reprC (aCons (eVar 3) aNil))) (sSeq (sAsg (gNm 5) (eCall (φ_plain_text 10) (aCons (eVar 3) aNil) aNil)) (sSeq (sIf (tOr (tNot (tOf (eBlt isiC (aCons (eVar 5) (aCons (eC (.ty "str")) aNil))))) (tOr (tCmp (boD (notB eqD)) (eVar 5) (eCall (φ_write_tree 12) (aCons (eCall (φ__law_joined (φ__law_flat 10)) (aCons (eVar 3) aNil) aNil) aNil) aNil)) (tCmp (boD (notB eqD)) (eBlt reprC (aCons (eVar 3) aNil)) (eVar 4)))) (sSeq (sRet (eC (.bl false))) sNext) sNext) (sSeq (sIf (tCmp (boD (notB eqD)) (eCall (φ_plain_text 10) (aCons (eVar 3) aNil) aNil) (eVar 5)) (sSeq (sRet (eC (.bl false))) sNext) sNext) sNext)))))
def ψ_law : SSem := (sSeq (sAsg (gNm 1) (eCall φ__law_rows (aCons (eVar 0) (aCons (eC (.int 60)) aNil)) aNil)) (sSeq (sFor (iRange (aCons (eC (.int 3)) aNil)) (gNm 2) β_law_2) (sSeq (sRet (eC (.bl true))) sNext)))
def φ_law : FnD := defD 6 1 ψ_law
/-! ### facts of the text -/
structure Ad where
  f_write_text : Addr
  f_write_value : Addr
  f_write_start : Addr
  f_plain_text : Addr
  f_write_tree : Addr
  f__law_joined : Addr
  f__law_flat : Addr
  f__law_text : Addr
  f__law_word : Addr
  f__law_tree : Addr
  f__law_drawn : Addr
  f__law_rows : Addr
  f_law : Addr
abbrev tb (a : Ad) : Tab := ⟨[], []⟩
structure Tx (K : PySem.W.Frag) (mg : Str → Option Value) (a : Ad) : Prop where
  fn_write_text : FnAt K "write_text" "write_text" st_write_text a.f_write_text
  fn_write_value : FnAt K "write_value" "write_value" st_write_value a.f_write_value
  fn_write_start : FnAt K "write_start" "write_start" st_write_start a.f_write_start
  fn_plain_text : FnAt K "plain_text" "plain_text" st_plain_text a.f_plain_text
  fn_write_tree : FnAt K "write_tree" "write_tree" st_write_tree a.f_write_tree
  fn__law_joined : FnAt K "_law_joined" "_law_joined" st__law_joined a.f__law_joined
  fn__law_flat : FnAt K "_law_flat" "_law_flat" st__law_flat a.f__law_flat
  fn__law_text : FnAt K "_law_text" "_law_text" st__law_text a.f__law_text
  fn__law_word : FnAt K "_law_word" "_law_word" st__law_word a.f__law_word
  fn__law_tree : FnAt K "_law_tree" "_law_tree" st__law_tree a.f__law_tree
  fn__law_drawn : FnAt K "_law_drawn" "_law_drawn" st__law_drawn a.f__law_drawn
  fn__law_rows : FnAt K "_law_rows" "_law_rows" st__law_rows a.f__law_rows
  fn_law : FnAt K "law" "law" st_law a.f_law
  no_range : mg "range" = none
  mg_write_text : mg "write_text" = some (.ref a.f_write_text)
  kp_write_text : PySem.W.keepIn K (.ref a.f_write_text) = true
  mg_write_value : mg "write_value" = some (.ref a.f_write_value)
  kp_write_value : PySem.W.keepIn K (.ref a.f_write_value) = true
  mg_write_start : mg "write_start" = some (.ref a.f_write_start)
  kp_write_start : PySem.W.keepIn K (.ref a.f_write_start) = true
  mg_plain_text : mg "plain_text" = some (.ref a.f_plain_text)
  kp_plain_text : PySem.W.keepIn K (.ref a.f_plain_text) = true
  no_str : mg "str" = none
  no_isinstance : mg "isinstance" = none
  mg_write_tree : mg "write_tree" = some (.ref a.f_write_tree)
  kp_write_tree : PySem.W.keepIn K (.ref a.f_write_tree) = true
  mg__law_flat : mg "_law_flat" = some (.ref a.f__law_flat)
  kp__law_flat : PySem.W.keepIn K (.ref a.f__law_flat) = true
  no_len : mg "len" = none
  mg__law_joined : mg "_law_joined" = some (.ref a.f__law_joined)
  kp__law_joined : PySem.W.keepIn K (.ref a.f__law_joined) = true
  no_repr : mg "repr" = none
  no_int : mg "int" = none
  mg__law_text : mg "_law_text" = some (.ref a.f__law_text)
  kp__law_text : PySem.W.keepIn K (.ref a.f__law_text) = true
  mg__law_word : mg "_law_word" = some (.ref a.f__law_word)
  kp__law_word : PySem.W.keepIn K (.ref a.f__law_word) = true
  mg__law_tree : mg "_law_tree" = some (.ref a.f__law_tree)
  kp__law_tree : PySem.W.keepIn K (.ref a.f__law_tree) = true
  mg__law_drawn : mg "_law_drawn" = some (.ref a.f__law_drawn)
  kp__law_drawn : PySem.W.keepIn K (.ref a.f__law_drawn) = true
  mg__law_rows : mg "_law_rows" = some (.ref a.f__law_rows)
  kp__law_rows : PySem.W.keepIn K (.ref a.f__law_rows) = true
section
variable {P : Program} {w : World} {K : PySem.W.Frag} {mg : Str → Option Value} {base : Heap} {a : Ad}
theorem sc_write_text : FnScope N_write_text P_write_text (defScope st_write_text) := ⟨rfl, rfl, rfl, by decide +kernel, rfl, by decide +kernel, by decide +kernel⟩
theorem kt_write_text (t : Tx K mg a) {cdv : Value} {A : Around} {outer : List Env} {s : Shared} {H : Hp} {E : XK} : ∀ rs, PSsT (cxOf (L2.CX P w) P w K mg base N_write_text "write_text" (defScope st_write_text) a.f_write_text cdv A outer s H E) (defBody st_write_text) (LS (kx (cxOf (L2.CX P w) P w K mg base N_write_text "write_text" (defScope st_write_text) a.f_write_text cdv A outer s H E) (tb a)) rs (fun c d _ H => E c d H) ψ_write_text) := by
  have hN := sc_write_text.nd
  exact (ket_ret (ket_replT (ket_replT (ket_repl (Vr 0)))))
theorem ce_write_text_1 (t : Tx K mg a) : Callee P w K mg base (tb a) 1 a.f_write_text 1 [] φ_write_text := by
  obtain ⟨oc, od, kV, doc, pm, an, cdv, ct, osl, l, c, k⟩ := t.fn_write_text
  exact callee_of (kfnT (fun_mk l c k) sc_write_text (by decide +kernel) (by decide) fun cdv A outer s H E => kt_write_text t) fun _ us ws h1 h2 => match us, ws, h1, h2 with | [_], [], _, _ => .of_eq rfl
theorem sc_write_value : FnScope N_write_value P_write_value (defScope st_write_value) := ⟨rfl, rfl, rfl, by decide +kernel, rfl, by decide +kernel, by decide +kernel⟩
theorem kt_write_value (t : Tx K mg a) {cdv : Value} {A : Around} {outer : List Env} {s : Shared} {H : Hp} {E : XK} : ∀ rs, PSsT (cxOf (L2.CX P w) P w K mg base N_write_value "write_value" (defScope st_write_value) a.f_write_value cdv A outer s H E) (defBody st_write_value) (LS (kx (cxOf (L2.CX P w) P w K mg base N_write_value "write_value" (defScope st_write_value) a.f_write_value cdv A outer s H E) (tb a)) rs (fun c d _ H => E c d H) ψ_write_value) := by
  have hN := sc_write_value.nd
  exact (ket_ret (ket_replT (ket_replT (ket_repl (Vr 0)))))
theorem ce_write_value_1 (t : Tx K mg a) : Callee P w K mg base (tb a) 1 a.f_write_value 1 [] φ_write_value := by
  obtain ⟨oc, od, kV, doc, pm, an, cdv, ct, osl, l, c, k⟩ := t.fn_write_value
  exact callee_of (kfnT (fun_mk l c k) sc_write_value (by decide +kernel) (by decide) fun cdv A outer s H E => kt_write_value t) fun _ us ws h1 h2 => match us, ws, h1, h2 with | [_], [], _, _ => .of_eq rfl
theorem sc_write_start : FnScope N_write_start P_write_start (defScope st_write_start) := ⟨rfl, rfl, rfl, by decide +kernel, rfl, by decide +kernel, by decide +kernel⟩
theorem kb_write_start (t : Tx K mg a) {cdv : Value} {A : Around} {outer : List Env} {s : Shared} {H : Hp} {E : XK} (hr : LD.Room 1 (A.deeper (envOfC "write_start" (defScope st_write_start) s.heap.objs.size a.f_write_start cdv))) :
    KB (cxOf (L2.CX P w) P w K mg base N_write_start "write_start" (defScope st_write_start) a.f_write_start cdv A outer s H E) (tb a) (fun c d _ H => E c d H) (defBody st_write_start) ψ_write_start := by
  have hN := sc_write_start.nd
  have h65 := u65 hr
  have h64 := u64 hr
  have h0 := u0 hr
  have h1 := u1 hr
  exact (b_cons (s_asg (d_lst (mu := true) (A1 (d_bin (fun _ => o_add) d_c_str (Vr 0)) a_nil)) (kg_name (i := 2) hN rfl (by first | exact Or.inl rfl | exact Or.inr rfl) (by first | exact Or.inl rfl | exact Or.inr rfl)) (by rfl) (by rfl) (by rfl)) (b_cons (s_for passes_k rfl (ki_of (Vr 1)) (kg_tup (is := [3, 4]) rfl hN ⟨rfl, (by first | exact Or.inl rfl | exact Or.inr rfl), (by first | exact Or.inl rfl | exact Or.inr rfl), ⟨rfl, (by first | exact Or.inl rfl | exact Or.inr rfl), (by first | exact Or.inl rfl | exact Or.inr rfl), trivial⟩⟩) (b_cons (s_expr (Append (Vr 2) (A1 (d_bin (fun _ => o_add) (d_bin (fun _ => o_add) (d_bin (fun _ => o_add) (d_bin (fun _ => o_add) d_c_str (Vr 3)) d_c_str) (Call (ce_write_value_1 t) hr takes_k t.mg_write_value t.kp_write_value (A1 (Vr 4) a_nil) k_nil)) d_c_str) a_nil)) (by rfl)) b_nil) (fun _ => rfl)) (b_cons (s_ret (d_bin (fun _ => o_add) (Join d_c_str (A1 (Vr 2) a_nil)) d_c_str)) b_nil)))
theorem ce_write_start_2 (t : Tx K mg a) : Callee P w K mg base (tb a) 2 a.f_write_start 2 [] φ_write_start := by
  obtain ⟨oc, od, kV, doc, pm, an, cdv, ct, osl, l, c, k⟩ := t.fn_write_start
  exact callee_of (kfn (fun_mk l c k) sc_write_start fun cdv A outer s H E hr => kb_write_start t hr) fun _ us ws h1 h2 => match us, ws, h1, h2 with | [_, _], [], _, _ => .of_eq rfl
theorem sc_plain_text : FnScope N_plain_text P_plain_text (defScope st_plain_text) := ⟨rfl, rfl, rfl, by decide +kernel, rfl, by decide +kernel, by decide +kernel⟩
theorem kb_plain_text (t : Tx K mg a) {m : Nat} {φr : FnD} (ihr : Callee P w K mg base (tb a) (2 + m) a.f_plain_text 1 [] φr) {cdv : Value} {A : Around} {outer : List Env} {s : Shared} {H : Hp} {E : XK} (hr : LD.Room (2 + m) (A.deeper (envOfC "plain_text" (defScope st_plain_text) s.heap.objs.size a.f_plain_text cdv))) :
    KB (cxOf (L2.CX P w) P w K mg base N_plain_text "plain_text" (defScope st_plain_text) a.f_plain_text cdv A outer s H E) (tb a) (fun c d _ H => E c d H) (defBody st_plain_text) (ψ_plain_text φr) := by
  have hN := sc_plain_text.nd
  have h65 := u65 hr
  have h64 := u64 hr
  have h0 := u0 hr
  have h1 := u1 hr
  exact (b_cons (s_asg (d_lst (mu := true) a_nil) (kg_name (i := 1) hN rfl (by first | exact Or.inl rfl | exact Or.inr rfl) (by first | exact Or.inl rfl | exact Or.inr rfl)) (by rfl) (by rfl) (by rfl)) (b_cons (s_for passes_k rfl (ki_of (Vr 0)) (kg_name (i := 2) hN rfl (by first | exact Or.inl rfl | exact Or.inr rfl) (by first | exact Or.inl rfl | exact Or.inr rfl)) (b_cons (s_if (Tq (fun _ => o_eq h64) (Ix h1 (Vr 2) d_c_int) d_c_str) (b_cons (s_expr (Append (Vr 1) (A1 (Call (ce_write_text_1 t) hr takes_k t.mg_write_text t.kp_write_text (A1 (Ix h1 (Vr 2) d_c_int) a_nil) k_nil) a_nil)) (by rfl)) b_nil) (b_cons (s_if (Tq (fun _ => o_eq h64) (Ix h1 (Vr 2) d_c_int) d_c_str) (b_cons (s_expr (Append (Vr 1) (A1 (d_bin (fun _ => o_add) (d_bin (fun _ => o_add) (d_bin (fun _ => o_add) (d_bin (fun _ => o_add) (Call (ce_write_start_2 t) hr takes_k t.mg_write_start t.kp_write_start (A1 (Ix h1 (Vr 2) d_c_int) (A1 (Ix h1 (Vr 2) d_c_int) a_nil)) k_nil) (Call ihr hr takes_k t.mg_plain_text t.kp_plain_text (A1 (Ix h1 (Vr 2) d_c_int) a_nil) k_nil)) d_c_str) (Ix h1 (Vr 2) d_c_int)) d_c_str) a_nil)) (by rfl)) b_nil) (b_cons (s_expr (Append (Vr 1) (A1 (Call ihr hr takes_k t.mg_plain_text t.kp_plain_text (A1 (Ix h1 (Vr 2) d_c_int) a_nil) k_nil) a_nil)) (by rfl)) b_nil)) b_nil)) b_nil) (fun _ => rfl)) (b_cons (s_ret (Join d_c_str (A1 (Vr 1) a_nil))) b_nil)))
theorem ce_plain_text_1 (t : Tx K mg a) : ∀ m : Nat, Callee P w K mg base (tb a) (2 + m) a.f_plain_text 1 [] (φ_plain_text m)
  | 0 => callee_bad
  | m + 1 => by
    obtain ⟨oc, od, kV, doc, pm, an, cdv, ct, osl, l, c, k⟩ := t.fn_plain_text
    exact callee_of (kfn (fun_mk l c k) sc_plain_text fun cdv A outer s H E hr => kb_plain_text t (ce_plain_text_1 t m) hr) fun _ us ws h1 h2 => match us, ws, h1, h2 with | [_], [], _, _ => .of_eq rfl
theorem sc_write_tree : FnScope N_write_tree P_write_tree (defScope st_write_tree) := ⟨rfl, rfl, rfl, by decide +kernel, rfl, by decide +kernel, by decide +kernel⟩
theorem kb_write_tree (t : Tx K mg a) {m : Nat} {φr : FnD} (ihr : Callee P w K mg base (tb a) (2 + m) a.f_write_tree 1 [] φr) {cdv : Value} {A : Around} {outer : List Env} {s : Shared} {H : Hp} {E : XK} (hr : LD.Room (2 + m) (A.deeper (envOfC "write_tree" (defScope st_write_tree) s.heap.objs.size a.f_write_tree cdv))) :
    KB (cxOf (L2.CX P w) P w K mg base N_write_tree "write_tree" (defScope st_write_tree) a.f_write_tree cdv A outer s H E) (tb a) (fun c d _ H => E c d H) (defBody st_write_tree) (ψ_write_tree φr) := by
  have hN := sc_write_tree.nd
  have h65 := u65 hr
  have h64 := u64 hr
  have h0 := u0 hr
  have h1 := u1 hr
  exact (b_cons (s_asg (d_lst (mu := true) a_nil) (kg_name (i := 1) hN rfl (by first | exact Or.inl rfl | exact Or.inr rfl) (by first | exact Or.inl rfl | exact Or.inr rfl)) (by rfl) (by rfl) (by rfl)) (b_cons (s_asg d_c_str (kg_name (i := 2) hN rfl (by first | exact Or.inl rfl | exact Or.inr rfl) (by first | exact Or.inl rfl | exact Or.inr rfl)) (by rfl) (by rfl) (by rfl)) (b_cons (s_for passes_k rfl (ki_of (Vr 0)) (kg_name (i := 3) hN rfl (by first | exact Or.inl rfl | exact Or.inr rfl) (by first | exact Or.inl rfl | exact Or.inr rfl)) (b_cons (s_if (Tq (fun _ => o_eq h64) (Ix h1 (Vr 3) d_c_int) d_c_str) (b_cons (s_if (Tw (t_and (Tq (fun _ => o_ne h64) (Vr 2) d_c_str) (t_and1 (Tq (fun _ => o_ne h64) (Ix h1 (Vr 3) d_c_int) d_c_str)))) (b_cons (s_expr (Append (Vr 1) (A1 d_c_str a_nil)) (by rfl)) b_nil) b_nil) (b_cons (s_expr (Append (Vr 1) (A1 (d_if (Tq (fun _ => o_ne h64) (Ix h1 (Vr 3) d_c_int) d_c_str) (Call (ce_write_text_1 t) hr takes_k t.mg_write_text t.kp_write_text (A1 (Ix h1 (Vr 3) d_c_int) a_nil) k_nil) d_c_str) a_nil)) (by rfl)) b_nil)) (b_cons (s_if (Tq (fun _ => o_eq h64) (Ix h1 (Vr 3) d_c_int) d_c_str) (b_cons (s_expr (Append (Vr 1) (A1 (d_bin (fun _ => o_add) (d_bin (fun _ => o_add) (d_bin (fun _ => o_add) (d_bin (fun _ => o_add) (Call (ce_write_start_2 t) hr takes_k t.mg_write_start t.kp_write_start (A1 (Ix h1 (Vr 3) d_c_int) (A1 (Ix h1 (Vr 3) d_c_int) a_nil)) k_nil) (Call ihr hr takes_k t.mg_write_tree t.kp_write_tree (A1 (Ix h1 (Vr 3) d_c_int) a_nil) k_nil)) d_c_str) (Ix h1 (Vr 3) d_c_int)) d_c_str) a_nil)) (by rfl)) b_nil) (b_cons (s_asg (d_if (Tq (fun _ => o_is) (Ix h1 (Vr 3) d_c_int) d_c_non) d_c_str (Bty (fun _ => c_str) t.no_str (A1 (Ix h1 (Vr 3) d_c_int) a_nil))) (kg_name (i := 4) hN rfl (by first | exact Or.inl rfl | exact Or.inr rfl) (by first | exact Or.inl rfl | exact Or.inr rfl)) (by rfl) (by rfl) (by rfl)) (b_cons (s_expr (Append (Vr 1) (A1 (d_bin (fun _ => o_add) (d_bin (fun _ => o_add) (d_bin (fun _ => o_add) (d_bin (fun _ => o_add) d_c_str (Vr 4)) d_c_str) (Call ihr hr takes_k t.mg_write_tree t.kp_write_tree (A1 (Ix h1 (Vr 3) d_c_int) a_nil) k_nil)) d_c_str) a_nil)) (by rfl)) b_nil))) b_nil)) (b_cons (s_asg (d_if (Tq (fun _ => o_eq h64) (Ix h1 (Vr 3) d_c_int) d_c_str) (Ix h1 (Vr 3) d_c_int) d_c_str) (kg_name (i := 2) hN rfl (by first | exact Or.inl rfl | exact Or.inr rfl) (by first | exact Or.inl rfl | exact Or.inr rfl)) (by rfl) (by rfl) (by rfl)) b_nil)) (fun _ => rfl)) (b_cons (s_ret (Join d_c_str (A1 (Vr 1) a_nil))) b_nil))))
theorem ce_write_tree_1 (t : Tx K mg a) : ∀ m : Nat, Callee P w K mg base (tb a) (2 + m) a.f_write_tree 1 [] (φ_write_tree m)
  | 0 => callee_bad
  | m + 1 => by
    obtain ⟨oc, od, kV, doc, pm, an, cdv, ct, osl, l, c, k⟩ := t.fn_write_tree
    exact callee_of (kfn (fun_mk l c k) sc_write_tree fun cdv A outer s H E hr => kb_write_tree t (ce_write_tree_1 t m) hr) fun _ us ws h1 h2 => match us, ws, h1, h2 with | [_], [], _, _ => .of_eq rfl
theorem sc__law_joined : FnScope N__law_joined P__law_joined (defScope st__law_joined) := ⟨rfl, rfl, rfl, by decide +kernel, rfl, by decide +kernel, by decide +kernel⟩
theorem kb__law_joined (t : Tx K mg a) {m : Nat} {φr : FnD} (ihr : Callee P w K mg base (tb a) (0 + 2 * m) a.f__law_flat 1 [] φr) {cdv : Value} {A : Around} {outer : List Env} {s : Shared} {H : Hp} {E : XK} (hr : LD.Room (0 + 2 * m) (A.deeper (envOfC "_law_joined" (defScope st__law_joined) s.heap.objs.size a.f__law_joined cdv))) :
    KB (cxOf (L2.CX P w) P w K mg base N__law_joined "_law_joined" (defScope st__law_joined) a.f__law_joined cdv A outer s H E) (tb a) (fun c d _ H => E c d H) (defBody st__law_joined) (ψ__law_joined φr) := by
  have hN := sc__law_joined.nd
  have h65 := u65 hr
  have h64 := u64 hr
  have h0 := u0 hr
  have h1 := u1 hr
  exact (b_cons (s_asg (d_lst (mu := true) a_nil) (kg_name (i := 1) hN rfl (by first | exact Or.inl rfl | exact Or.inr rfl) (by first | exact Or.inl rfl | exact Or.inr rfl)) (by rfl) (by rfl) (by rfl)) (b_cons (s_for passes_k rfl (ki_of (Call ihr hr takes_k t.mg__law_flat t.kp__law_flat (A1 (Vr 0) a_nil) k_nil)) (kg_name (i := 2) hN rfl (by first | exact Or.inl rfl | exact Or.inr rfl) (by first | exact Or.inl rfl | exact Or.inr rfl)) (b_cons (s_if (Tw (t_and (Tq (fun _ => o_eq h64) (Ix h1 (Vr 2) d_c_int) d_c_str) (t_and (Tq (fun _ => o_gt) (Blt (fun _ => c_len) t.no_len (A1 (Vr 1) a_nil)) d_c_int) (t_and1 (Tq (fun _ => o_eq h64) (Ix h1 (Ix h1 (Vr 1) (d_bin (fun _ => o_sub) (Blt (fun _ => c_len) t.no_len (A1 (Vr 1) a_nil)) d_c_int)) d_c_int) d_c_str))))) (b_cons (s_sub h1 (d_tup (A1 d_c_str (A1 (d_bin (fun _ => o_add) (Ix h1 (Ix h1 (Vr 1) (d_bin (fun _ => o_sub) (Blt (fun _ => c_len) t.no_len (A1 (Vr 1) a_nil)) d_c_int)) d_c_int) (Ix h1 (Vr 2) d_c_int)) a_nil))) (Vr 1) (d_bin (fun _ => o_sub) (Blt (fun _ => c_len) t.no_len (A1 (Vr 1) a_nil)) d_c_int) (by rfl) (by rfl) (by rfl) (fun _ => rfl)) b_nil) (b_cons (s_expr (Append (Vr 1) (A1 (Vr 2) a_nil)) (by rfl)) b_nil)) b_nil) (fun _ => rfl)) (b_cons (s_ret (Vr 1)) b_nil)))
theorem ce__law_joined_1 (t : Tx K mg a) {m : Nat} {φr : FnD} (ihr : Callee P w K mg base (tb a) (0 + 2 * m) a.f__law_flat 1 [] φr) : Callee P w K mg base (tb a) (0 + 2 * m + 1) a.f__law_joined 1 [] (φ__law_joined φr) := by
  obtain ⟨oc, od, kV, doc, pm, an, cdv, ct, osl, l, c, k⟩ := t.fn__law_joined
  exact callee_of (kfn (fun_mk l c k) sc__law_joined fun cdv A outer s H E hr => kb__law_joined t ihr hr) fun _ us ws h1 h2 => match us, ws, h1, h2 with | [_], [], _, _ => .of_eq rfl
theorem sc__law_flat : FnScope N__law_flat P__law_flat (defScope st__law_flat) := ⟨rfl, rfl, rfl, by decide +kernel, rfl, by decide +kernel, by decide +kernel⟩
theorem kb__law_flat (t : Tx K mg a) {m : Nat} {φr : FnD} (ihr : Callee P w K mg base (tb a) (0 + 2 * m) a.f__law_flat 1 [] φr) {cdv : Value} {A : Around} {outer : List Env} {s : Shared} {H : Hp} {E : XK} (hr : LD.Room (0 + 2 * m + 1) (A.deeper (envOfC "_law_flat" (defScope st__law_flat) s.heap.objs.size a.f__law_flat cdv))) :
    KB (cxOf (L2.CX P w) P w K mg base N__law_flat "_law_flat" (defScope st__law_flat) a.f__law_flat cdv A outer s H E) (tb a) (fun c d _ H => E c d H) (defBody st__law_flat) (ψ__law_flat φr) := by
  have hN := sc__law_flat.nd
  have h65 := u65 hr
  have h64 := u64 hr
  have h0 := u0 hr
  have h1 := u1 hr
  exact (b_cons (s_asg (d_lst (mu := true) a_nil) (kg_name (i := 1) hN rfl (by first | exact Or.inl rfl | exact Or.inr rfl) (by first | exact Or.inl rfl | exact Or.inr rfl)) (by rfl) (by rfl) (by rfl)) (b_cons (s_for passes_k rfl (ki_of (Vr 0)) (kg_name (i := 2) hN rfl (by first | exact Or.inl rfl | exact Or.inr rfl) (by first | exact Or.inl rfl | exact Or.inr rfl)) (b_cons (s_if (Tq (fun _ => o_eq h64) (Ix h1 (Vr 2) d_c_int) d_c_str) (b_cons (s_asg (d_bin (fun _ => o_addM) (Vr 1) (Call ihr hr takes_k t.mg__law_flat t.kp__law_flat (A1 (Ix h1 (Vr 2) d_c_int) a_nil) k_nil)) (kg_name (i := 1) hN rfl (by first | exact Or.inl rfl | exact Or.inr rfl) (by first | exact Or.inl rfl | exact Or.inr rfl)) (by rfl) (by rfl) (by rfl)) b_nil) (b_cons (s_if (Tq (fun _ => o_eq h64) (Ix h1 (Vr 2) d_c_int) d_c_str) (b_cons (s_expr (Append (Vr 1) (A1 (d_tup (A1 d_c_str (A1 (Ix h1 (Vr 2) d_c_int) (A1 (Ix h1 (Vr 2) d_c_int) (A1 (Call (ce__law_joined_1 t ihr) hr takes_k t.mg__law_joined t.kp__law_joined (A1 (Ix h1 (Vr 2) d_c_int) a_nil) k_nil) a_nil))))) a_nil)) (by rfl)) b_nil) (b_cons (s_if (Tq (fun _ => o_ne h64) (Ix h1 (Vr 2) d_c_int) d_c_str) (b_cons (s_expr (Append (Vr 1) (A1 (Vr 2) a_nil)) (by rfl)) b_nil) b_nil) b_nil)) b_nil)) b_nil) (fun _ => rfl)) (b_cons (s_ret (Vr 1)) b_nil)))
theorem ce__law_flat_1 (t : Tx K mg a) : ∀ m : Nat, Callee P w K mg base (tb a) (0 + 2 * m) a.f__law_flat 1 [] (φ__law_flat m)
  | 0 => callee_bad
  | m + 1 => by
    obtain ⟨oc, od, kV, doc, pm, an, cdv, ct, osl, l, c, k⟩ := t.fn__law_flat
    exact callee_of (kfn (fun_mk l c k) sc__law_flat fun cdv A outer s H E hr => kb__law_flat t (ce__law_flat_1 t m) hr) fun _ us ws h1 h2 => match us, ws, h1, h2 with | [_], [], _, _ => .of_eq rfl
theorem sc__law_text : FnScope N__law_text P__law_text (defScope st__law_text) := ⟨rfl, rfl, rfl, by decide +kernel, rfl, by decide +kernel, by decide +kernel⟩
theorem kb__law_text (t : Tx K mg a) {cdv : Value} {A : Around} {outer : List Env} {s : Shared} {H : Hp} {E : XK} (hr : LD.Room 0 (A.deeper (envOfC "_law_text" (defScope st__law_text) s.heap.objs.size a.f__law_text cdv))) :
    KB (cxOf (L2.CX P w) P w K mg base N__law_text "_law_text" (defScope st__law_text) a.f__law_text cdv A outer s H E) (tb a) (fun c d _ H => E c d H) (defBody st__law_text) ψ__law_text := by
  have hN := sc__law_text.nd
  have h65 := u65 hr
  have h64 := u64 hr
  have h0 := u0 hr
  have h1 := u1 hr
  exact (b_cons (s_asg d_c_str (kg_name (i := 1) hN rfl (by first | exact Or.inl rfl | exact Or.inr rfl) (by first | exact Or.inl rfl | exact Or.inr rfl)) (by rfl) (by rfl) (by rfl)) (b_cons (s_ret (Join d_c_str (A1 (d_comp (own := [("_law_j", 2)]) (mu := false) rfl hN (blkOk_by (N := N__law_text) (sc := defScope st__law_text) (by decide +kernel)) (by decide) (ki_range1 (by rfl) t.no_range (A1 (d_bin (fun _ => o_mod) (Bty (fun _ => c_int) t.no_int (A1 (Vr 0) a_nil)) d_c_int) a_nil) (by rfl)) (fun _ _ _ _ _ => (kg_name (i := 2) hN rfl (by first | exact Or.inl rfl | exact Or.inr rfl) (by first | exact Or.inl rfl | exact Or.inr rfl))) (fun _ _ _ _ _ => kts_nil) (fun _ _ _ _ _ => (Ix h1 (Vr 1) (d_bin (fun _ => o_mod) (Bty (fun _ => c_int) t.no_int (A1 (d_bin (fun _ => o_fdiv) (Vr 0) (d_bin (fun _ => o_add) d_c_int (d_bin (fun _ => o_mul) d_c_int (Vr 2)))) a_nil)) d_c_int))) (fun _ => rfl)) a_nil))) b_nil))
theorem ce__law_text_1 (t : Tx K mg a) : Callee P w K mg base (tb a) 1 a.f__law_text 1 [] φ__law_text := by
  obtain ⟨oc, od, kV, doc, pm, an, cdv, ct, osl, l, c, k⟩ := t.fn__law_text
  exact callee_of (kfn (fun_mk l c k) sc__law_text fun cdv A outer s H E hr => kb__law_text t hr) fun _ us ws h1 h2 => match us, ws, h1, h2 with | [_], [], _, _ => .of_eq rfl
theorem sc__law_word : FnScope N__law_word P__law_word (defScope st__law_word) := ⟨rfl, rfl, rfl, by decide +kernel, rfl, by decide +kernel, by decide +kernel⟩
theorem kb__law_word (t : Tx K mg a) {cdv : Value} {A : Around} {outer : List Env} {s : Shared} {H : Hp} {E : XK} (hr : LD.Room 0 (A.deeper (envOfC "_law_word" (defScope st__law_word) s.heap.objs.size a.f__law_word cdv))) :
    KB (cxOf (L2.CX P w) P w K mg base N__law_word "_law_word" (defScope st__law_word) a.f__law_word cdv A outer s H E) (tb a) (fun c d _ H => E c d H) (defBody st__law_word) ψ__law_word := by
  have hN := sc__law_word.nd
  have h65 := u65 hr
  have h64 := u64 hr
  have h0 := u0 hr
  have h1 := u1 hr
  exact (b_cons (s_ret (Ix h1 (d_lst (mu := false) (A1 d_c_str (A1 d_c_str (A1 d_c_str (A1 d_c_str (A1 d_c_str (A1 d_c_str a_nil))))))) (d_bin (fun _ => o_mod) (Bty (fun _ => c_int) t.no_int (A1 (Vr 0) a_nil)) d_c_int))) b_nil)
theorem ce__law_word_1 (t : Tx K mg a) : Callee P w K mg base (tb a) 1 a.f__law_word 1 [] φ__law_word := by
  obtain ⟨oc, od, kV, doc, pm, an, cdv, ct, osl, l, c, k⟩ := t.fn__law_word
  exact callee_of (kfn (fun_mk l c k) sc__law_word fun cdv A outer s H E hr => kb__law_word t hr) fun _ us ws h1 h2 => match us, ws, h1, h2 with | [_], [], _, _ => .of_eq rfl
theorem sc__law_tree : FnScope N__law_tree P__law_tree (defScope st__law_tree) := ⟨rfl, rfl, rfl, by decide +kernel, rfl, by decide +kernel, by decide +kernel⟩
theorem kb__law_tree (t : Tx K mg a) {m : Nat} {φr : FnD} (ihr : Callee P w K mg base (tb a) (1 + m) a.f__law_tree 3 [] φr) {cdv : Value} {A : Around} {outer : List Env} {s : Shared} {H : Hp} {E : XK} (hr : LD.Room (1 + m) (A.deeper (envOfC "_law_tree" (defScope st__law_tree) s.heap.objs.size a.f__law_tree cdv))) :
    KB (cxOf (L2.CX P w) P w K mg base N__law_tree "_law_tree" (defScope st__law_tree) a.f__law_tree cdv A outer s H E) (tb a) (fun c d _ H => E c d H) (defBody st__law_tree) (ψ__law_tree φr) := by
  have hN := sc__law_tree.nd
  have h65 := u65 hr
  have h64 := u64 hr
  have h0 := u0 hr
  have h1 := u1 hr
  exact (b_cons (s_asg (d_lst (mu := true) a_nil) (kg_name (i := 3) hN rfl (by first | exact Or.inl rfl | exact Or.inr rfl) (by first | exact Or.inl rfl | exact Or.inr rfl)) (by rfl) (by rfl) (by rfl)) (b_cons (s_for passes_k rfl (ki_range1 (by rfl) t.no_range (A1 (d_bin (fun _ => o_mod) (Bty (fun _ => c_int) t.no_int (A1 (Ix h1 (Vr 0) (d_bin (fun _ => o_mod) (Ix h1 (Vr 1) d_c_str) (Blt (fun _ => c_len) t.no_len (A1 (Vr 0) a_nil)))) a_nil)) d_c_int) a_nil) (by rfl)) (kg_name (i := 4) hN rfl (by first | exact Or.inl rfl | exact Or.inr rfl) (by first | exact Or.inl rfl | exact Or.inr rfl)) (b_cons (s_asg (d_bin (fun _ => o_fdiv) (Ix h1 (Vr 0) (d_bin (fun _ => o_mod) (Ix h1 (Vr 1) d_c_str) (Blt (fun _ => c_len) t.no_len (A1 (Vr 0) a_nil)))) d_c_int) (kg_name (i := 5) hN rfl (by first | exact Or.inl rfl | exact Or.inr rfl) (by first | exact Or.inl rfl | exact Or.inr rfl)) (by rfl) (by rfl) (by rfl)) (b_cons (s_sub h1 (d_bin (fun _ => o_add) (Ix h1 (Vr 1) d_c_str) d_c_int) (Vr 1) d_c_str (by rfl) (by rfl) (by rfl) (fun _ => rfl)) (b_cons (s_if (Tq (fun _ => o_gt) (Ix h1 (Vr 1) d_c_str) (Ix h1 (Vr 1) d_c_str)) (b_cons s_break b_nil) b_nil) (b_cons (s_asg (d_bin (fun _ => o_mod) (Bty (fun _ => c_int) t.no_int (A1 (Vr 5) a_nil)) d_c_int) (kg_name (i := 6) hN rfl (by first | exact Or.inl rfl | exact Or.inr rfl) (by first | exact Or.inl rfl | exact Or.inr rfl)) (by rfl) (by rfl) (by rfl)) (b_cons (s_if (Tq (fun _ => o_le) (Vr 6) d_c_int) (b_cons (s_expr (Append (Vr 3) (A1 (d_tup (A1 d_c_str (A1 (Call (ce__law_text_1 t) hr takes_k t.mg__law_text t.kp__law_text (A1 (d_bin (fun _ => o_fdiv) (Vr 5) d_c_int) a_nil) k_nil) a_nil))) a_nil)) (by rfl)) b_nil) (b_cons (s_if (Tw (t_or (Tq (fun _ => o_le) (Vr 6) d_c_int) (t_or1 (Tq (fun _ => o_ge) (Vr 2) d_c_int)))) (b_cons (s_asg (d_lst (mu := true) a_nil) (kg_name (i := 7) hN rfl (by first | exact Or.inl rfl | exact Or.inr rfl) (by first | exact Or.inl rfl | exact Or.inr rfl)) (by rfl) (by rfl) (by rfl)) (b_cons (s_for passes_k rfl (ki_range1 (by rfl) t.no_range (A1 (d_bin (fun _ => o_mod) (Bty (fun _ => c_int) t.no_int (A1 (d_bin (fun _ => o_fdiv) (Vr 5) d_c_int) a_nil)) d_c_int) a_nil) (by rfl)) (kg_name (i := 8) hN rfl (by first | exact Or.inl rfl | exact Or.inr rfl) (by first | exact Or.inl rfl | exact Or.inr rfl)) (b_cons (s_asg (Ix h1 (d_lst (mu := false) (A1 d_c_str (A1 d_c_str (A1 d_c_str a_nil)))) (d_bin (fun _ => o_mod) (d_bin (fun _ => o_add) (Bty (fun _ => c_int) t.no_int (A1 (d_bin (fun _ => o_fdiv) (Vr 5) d_c_int) a_nil)) (Vr 8)) d_c_int)) (kg_name (i := 9) hN rfl (by first | exact Or.inl rfl | exact Or.inr rfl) (by first | exact Or.inl rfl | exact Or.inr rfl)) (by rfl) (by rfl) (by rfl)) (b_cons (s_expr (Append (Vr 7) (A1 (d_tup (A1 (Vr 9) (A1 (Call (ce__law_text_1 t) hr takes_k t.mg__law_text t.kp__law_text (A1 (d_bin (fun _ => o_fdiv) (Vr 5) (d_bin (fun _ => o_add) d_c_int (d_bin (fun _ => o_mul) d_c_int (Vr 8)))) a_nil) k_nil) a_nil))) a_nil)) (by rfl)) b_nil)) (fun _ => rfl)) (b_cons (s_asg (d_lst (mu := true) a_nil) (kg_name (i := 10) hN rfl (by first | exact Or.inl rfl | exact Or.inr rfl) (by first | exact Or.inl rfl | exact Or.inr rfl)) (by rfl) (by rfl) (by rfl)) (b_cons (s_if (Tq (fun _ => o_lt h0) (Vr 2) d_c_int) (b_cons (s_asg (Call ihr hr takes_k t.mg__law_tree t.kp__law_tree (A1 (Vr 0) (A1 (Vr 1) (A1 (d_bin (fun _ => o_add) (Vr 2) d_c_int) a_nil))) k_nil) (kg_name (i := 10) hN rfl (by first | exact Or.inl rfl | exact Or.inr rfl) (by first | exact Or.inl rfl | exact Or.inr rfl)) (by rfl) (by rfl) (by rfl)) b_nil) b_nil) (b_cons (s_expr (Append (Vr 3) (A1 (d_tup (A1 d_c_str (A1 (Call (ce__law_word_1 t) hr takes_k t.mg__law_word t.kp__law_word (A1 (d_bin (fun _ => o_fdiv) (Vr 5) d_c_int) a_nil) k_nil) (A1 (Vr 7) (A1 (Vr 10) a_nil))))) a_nil)) (by rfl)) b_nil))))) (b_cons (s_asg d_c_non (kg_name (i := 11) hN rfl (by first | exact Or.inl rfl | exact Or.inr rfl) (by first | exact Or.inl rfl | exact Or.inr rfl)) (by rfl) (by rfl) (by rfl)) (b_cons (s_if (Tq (fun _ => o_eq h64) (Vr 6) d_c_int) (b_cons (s_sub h1 (d_bin (fun _ => o_add) (d_bin (fun _ => o_add) (Ix h1 (Vr 1) d_c_str) d_c_int) (d_bin (fun _ => o_mod) (Bty (fun _ => c_int) t.no_int (A1 (d_bin (fun _ => o_fdiv) (Vr 5) d_c_int) a_nil)) d_c_int)) (Vr 1) d_c_str (by rfl) (by rfl) (by rfl) (fun _ => rfl)) (b_cons (s_asg (Ix h1 (Vr 1) d_c_str) (kg_name (i := 11) hN rfl (by first | exact Or.inl rfl | exact Or.inr rfl) (by first | exact Or.inl rfl | exact Or.inr rfl)) (by rfl) (by rfl) (by rfl)) b_nil)) b_nil) (b_cons (s_expr (Append (Vr 3) (A1 (d_tup (A1 d_c_str (A1 (Vr 11) (A1 (Call ihr hr takes_k t.mg__law_tree t.kp__law_tree (A1 (Vr 0) (A1 (Vr 1) (A1 (d_bin (fun _ => o_add) (Vr 2) d_c_int) a_nil))) k_nil) a_nil)))) a_nil)) (by rfl)) b_nil)))) b_nil)) b_nil))))) (fun _ => rfl)) (b_cons (s_ret (Vr 3)) b_nil)))
theorem ce__law_tree_3 (t : Tx K mg a) : ∀ m : Nat, Callee P w K mg base (tb a) (1 + m) a.f__law_tree 3 [] (φ__law_tree m)
  | 0 => callee_bad
  | m + 1 => by
    obtain ⟨oc, od, kV, doc, pm, an, cdv, ct, osl, l, c, k⟩ := t.fn__law_tree
    exact callee_of (kfn (fun_mk l c k) sc__law_tree fun cdv A outer s H E hr => kb__law_tree t (ce__law_tree_3 t m) hr) fun _ us ws h1 h2 => match us, ws, h1, h2 with | [_, _, _], [], _, _ => .of_eq rfl
theorem sc__law_drawn : FnScope N__law_drawn P__law_drawn (defScope st__law_drawn) := ⟨rfl, rfl, rfl, by decide +kernel, rfl, by decide +kernel, by decide +kernel⟩
theorem kb__law_drawn (t : Tx K mg a) {cdv : Value} {A : Around} {outer : List Env} {s : Shared} {H : Hp} {E : XK} (hr : LD.Room 11 (A.deeper (envOfC "_law_drawn" (defScope st__law_drawn) s.heap.objs.size a.f__law_drawn cdv))) :
    KB (cxOf (L2.CX P w) P w K mg base N__law_drawn "_law_drawn" (defScope st__law_drawn) a.f__law_drawn cdv A outer s H E) (tb a) (fun c d _ H => E c d H) (defBody st__law_drawn) ψ__law_drawn := by
  have hN := sc__law_drawn.nd
  have h65 := u65 hr
  have h64 := u64 hr
  have h0 := u0 hr
  have h1 := u1 hr
  exact (b_cons (s_ret (Call (ce__law_tree_3 t 10) hr takes_k t.mg__law_tree t.kp__law_tree (A1 (Vr 0) (A1 (d_disp (kd_cons (k := Sum.inr "at") d_c_str (Vr 1) (kd_cons (k := Sum.inr "most") d_c_str (d_bin (fun _ => o_add) (Vr 1) (Vr 2)) (kd_cons (k := Sum.inr "number") d_c_str d_c_int kd_nil))) (by decide) (by rfl) (by rfl) (by decide) (by decide)) (A1 d_c_int a_nil))) k_nil)) b_nil)
theorem ce__law_drawn_3 (t : Tx K mg a) : Callee P w K mg base (tb a) 12 a.f__law_drawn 3 [] φ__law_drawn := by
  obtain ⟨oc, od, kV, doc, pm, an, cdv, ct, osl, l, c, k⟩ := t.fn__law_drawn
  exact callee_of (kfn (fun_mk l c k) sc__law_drawn fun cdv A outer s H E hr => kb__law_drawn t hr) fun _ us ws h1 h2 => match us, ws, h1, h2 with | [_, _, _], [], _, _ => .of_eq rfl
theorem sc__law_rows : FnScope N__law_rows P__law_rows (defScope st__law_rows) := ⟨rfl, rfl, rfl, by decide +kernel, rfl, by decide +kernel, by decide +kernel⟩
theorem kb__law_rows (t : Tx K mg a) {cdv : Value} {A : Around} {outer : List Env} {s : Shared} {H : Hp} {E : XK} (hr : LD.Room 0 (A.deeper (envOfC "_law_rows" (defScope st__law_rows) s.heap.objs.size a.f__law_rows cdv))) :
    KB (cxOf (L2.CX P w) P w K mg base N__law_rows "_law_rows" (defScope st__law_rows) a.f__law_rows cdv A outer s H E) (tb a) (fun c d _ H => E c d H) (defBody st__law_rows) ψ__law_rows := by
  have hN := sc__law_rows.nd
  have h65 := u65 hr
  have h64 := u64 hr
  have h0 := u0 hr
  have h1 := u1 hr
  exact (b_cons (s_asg (d_lst (mu := true) a_nil) (kg_name (i := 2) hN rfl (by first | exact Or.inl rfl | exact Or.inr rfl) (by first | exact Or.inl rfl | exact Or.inr rfl)) (by rfl) (by rfl) (by rfl)) (b_cons (s_for passes_k rfl (ki_range1 (by rfl) t.no_range (A1 (Vr 1) a_nil) (by rfl)) (kg_name (i := 3) hN rfl (by first | exact Or.inl rfl | exact Or.inr rfl) (by first | exact Or.inl rfl | exact Or.inr rfl)) (b_cons (s_asg d_c_int (kg_name (i := 4) hN rfl (by first | exact Or.inl rfl | exact Or.inr rfl) (by first | exact Or.inl rfl | exact Or.inr rfl)) (by rfl) (by rfl) (by rfl)) (b_cons (s_if (Tq (fun _ => o_gt) (Blt (fun _ => c_len) t.no_len (A1 (Vr 0) a_nil)) d_c_int) (b_cons (s_asg (Bty (fun _ => c_int) t.no_int (A1 (Ix h1 (Vr 0) (d_bin (fun _ => o_mod) (Bty (fun _ => c_int) t.no_int (A1 (Vr 3) a_nil)) (Blt (fun _ => c_len) t.no_len (A1 (Vr 0) a_nil)))) a_nil)) (kg_name (i := 4) hN rfl (by first | exact Or.inl rfl | exact Or.inr rfl) (by first | exact Or.inl rfl | exact Or.inr rfl)) (by rfl) (by rfl) (by rfl)) b_nil) b_nil) (b_cons (s_if (Tq (fun _ => o_lt h0) (Vr 4) d_c_int) (b_cons (s_asg (d_bin (fun _ => o_sub) d_c_int (d_bin (fun _ => o_mul) d_c_int (Vr 4))) (kg_name (i := 4) hN rfl (by first | exact Or.inl rfl | exact Or.inr rfl) (by first | exact Or.inl rfl | exact Or.inr rfl)) (by rfl) (by rfl) (by rfl)) b_nil) b_nil) (b_cons (s_if (Tw (t_or (Tq (fun _ => o_ge) (Vr 3) (Blt (fun _ => c_len) t.no_len (A1 (Vr 0) a_nil))) (t_or1 (Tq (fun _ => o_lt h0) (Vr 4) d_c_int)))) (b_cons (s_asg (d_bin (fun _ => o_mod) (Bty (fun _ => c_int) t.no_int (A1 (d_bin (fun _ => o_add) (d_bin (fun _ => o_mul) (d_bin (fun _ => o_add) (d_bin (fun _ => o_add) (Vr 4) (d_bin (fun _ => o_mul) d_c_int (Vr 3))) d_c_int) d_c_int) (d_bin (fun _ => o_mul) (d_bin (fun _ => o_mul) (Vr 3) (Vr 3)) d_c_int)) a_nil)) d_c_int) (kg_name (i := 4) hN rfl (by first | exact Or.inl rfl | exact Or.inr rfl) (by first | exact Or.inl rfl | exact Or.inr rfl)) (by rfl) (by rfl) (by rfl)) (b_cons (s_asg (d_bin (fun _ => o_mod) (Bty (fun _ => c_int) t.no_int (A1 (d_bin (fun _ => o_mul) (d_bin (fun _ => o_add) (d_bin (fun _ => o_add) (Vr 4) (d_bin (fun _ => o_mul) d_c_int (Vr 3))) d_c_int) d_c_int) a_nil)) d_c_int) (kg_name (i := 4) hN rfl (by first | exact Or.inl rfl | exact Or.inr rfl) (by first | exact Or.inl rfl | exact Or.inr rfl)) (by rfl) (by rfl) (by rfl)) b_nil)) b_nil) (b_cons (s_expr (Append (Vr 2) (A1 (Vr 4) a_nil)) (by rfl)) b_nil))))) (fun _ => rfl)) (b_cons (s_ret (Vr 2)) b_nil)))
theorem ce__law_rows_2 (t : Tx K mg a) : Callee P w K mg base (tb a) 1 a.f__law_rows 2 [] φ__law_rows := by
  obtain ⟨oc, od, kV, doc, pm, an, cdv, ct, osl, l, c, k⟩ := t.fn__law_rows
  exact callee_of (kfn (fun_mk l c k) sc__law_rows fun cdv A outer s H E hr => kb__law_rows t hr) fun _ us ws h1 h2 => match us, ws, h1, h2 with | [_, _], [], _, _ => .of_eq rfl
theorem sc_law : FnScope N_law P_law (defScope st_law) := ⟨rfl, rfl, rfl, by decide +kernel, rfl, by decide +kernel, by decide +kernel⟩
theorem kb_law (t : Tx K mg a) {cdv : Value} {A : Around} {outer : List Env} {s : Shared} {H : Hp} {E : XK} (hr : LD.Room 21 (A.deeper (envOfC "law" (defScope st_law) s.heap.objs.size a.f_law cdv))) :
    KB (cxOf (L2.CX P w) P w K mg base N_law "law" (defScope st_law) a.f_law cdv A outer s H E) (tb a) (fun c d _ H => E c d H) (defBody st_law) ψ_law := by
  have hN := sc_law.nd
  have h65 := u65 hr
  have h64 := u64 hr
  have h0 := u0 hr
  have h1 := u1 hr
  exact (b_cons (s_asg (Call (ce__law_rows_2 t) hr takes_k t.mg__law_rows t.kp__law_rows (A1 (Vr 0) (A1 d_c_int a_nil)) k_nil) (kg_name (i := 1) hN rfl (by first | exact Or.inl rfl | exact Or.inr rfl) (by first | exact Or.inl rfl | exact Or.inr rfl)) (by rfl) (by rfl) (by rfl)) (b_cons (s_for passes_k rfl (ki_range1 (by rfl) t.no_range (A1 d_c_int a_nil) (by rfl)) (kg_name (i := 2) hN rfl (by first | exact Or.inl rfl | exact Or.inr rfl) (by first | exact Or.inl rfl | exact Or.inr rfl)) (b_cons (s_asg (Call (ce__law_drawn_3 t) hr takes_k t.mg__law_drawn t.kp__law_drawn (A1 (Vr 1) (A1 (d_bin (fun _ => o_mul) d_c_int (Vr 2)) (A1 d_c_int a_nil))) k_nil) (kg_name (i := 3) hN rfl (by first | exact Or.inl rfl | exact Or.inr rfl) (by first | exact Or.inl rfl | exact Or.inr rfl)) (by rfl) (by rfl) (by rfl)) (b_cons (s_asg (Blt (fun _ => (c_repr hr)) t.no_repr (A1 (Vr 3) a_nil)) (kg_name (i := 4) hN rfl (by first | exact Or.inl rfl | exact Or.inr rfl) (by first | exact Or.inl rfl | exact Or.inr rfl)) (by rfl) (by rfl) (by rfl)) (b_cons (s_asg (Call (ce_plain_text_1 t 10) hr takes_k t.mg_plain_text t.kp_plain_text (A1 (Vr 3) a_nil) k_nil) (kg_name (i := 5) hN rfl (by first | exact Or.inl rfl | exact Or.inr rfl) (by first | exact Or.inl rfl | exact Or.inr rfl)) (by rfl) (by rfl) (by rfl)) (b_cons (s_if (Tw (t_or (t_not (Tv (Blt (fun _ => c_isi) t.no_isinstance (A1 (Vr 5) (A1 (Ty t.no_str) a_nil))))) (t_or (Tq (fun _ => o_ne h64) (Vr 5) (Call (ce_write_tree_1 t 12) hr takes_k t.mg_write_tree t.kp_write_tree (A1 (Call (ce__law_joined_1 t (ce__law_flat_1 t 10)) hr takes_k t.mg__law_joined t.kp__law_joined (A1 (Vr 3) a_nil) k_nil) a_nil) k_nil)) (t_or1 (Tq (fun _ => o_ne h64) (Blt (fun _ => (c_repr hr)) t.no_repr (A1 (Vr 3) a_nil)) (Vr 4)))))) (b_cons (s_ret d_c_bl) b_nil) b_nil) (b_cons (s_if (Tq (fun _ => o_ne h64) (Call (ce_plain_text_1 t 10) hr takes_k t.mg_plain_text t.kp_plain_text (A1 (Vr 3) a_nil) k_nil) (Vr 5)) (b_cons (s_ret d_c_bl) b_nil) b_nil) b_nil))))) (fun _ => rfl)) (b_cons (s_ret d_c_bl) b_nil)))
theorem ok_law (t : Tx K mg a) : ∃ fd : FuncData, (∀ (s : Shared) (v : Value), BindsTo s fd ⟨[v], []⟩ [("_law_script", v)]) ∧ ∀ base : Heap, FnX P w K mg base (tb a) 22 a.f_law fd P_law φ_law := by
  obtain ⟨oc, od, kV, doc, pm, an, cdv, ct, osl, l, c, k⟩ := t.fn_law
  exact ⟨_, fun s v => .of_eq rfl, fun base => kfn (fun_mk l c k) sc_law fun cdv A outer s H E hr => kb_law t hr⟩
end
end K68
namespace K68
open PySem PySem.Spec PyProof.Rows L2 LD
theorem big : 100000 ≤ LINE := by decide
theorem app_at {M : Mem} {o : DO} : (M ++ [o])[M.length]? = some o := by rw [List.getElem?_append_right (Nat.le_refl _), Nat.sub_self] <;> rfl
theorem app_old {M X : Mem} {j : Nat} (h : j < M.length) : (M ++ X)[j]? = M[j]? := List.getElem?_append_left h
theorem lt_of {M : Mem} {i : Nat} {o : DO} (h : M[i]? = some o) : i < M.length := (List.getElem?_eq_some_iff.mp h).1
theorem set_at {M : Mem} {i j : Nat} {o : DO} (h : i ≠ j) : (M.set i o)[j]? = M[j]? := List.getElem?_set_ne h
theorem set_is {M : Mem} {i : Nat} {o o' : DO} (h : M[i]? = some o') : (M.set i o)[i]? = some o := List.getElem?_set_self (lt_of h)
theorem mulk {p : Int} {k : Nat} {M : Mem} (hk : k < 1000) : mulD (.int p) (.int k) M = some (.int (p * k), M) := v_mul (by
  have : small (k : Int) = true := small_iff.mpr ⟨by omega, by omega⟩
  rw [this, Bool.or_true])
/-! ### the drawn rows: which they are does not matter -/
def pickc (ns : List Int) (k : Nat) : Int := if 0 < ns.length then (ns[k % ns.length]?).getD 0 else 0
def posc (c : Int) : Int := if c < 0 then 1 - 2 * c else c
def mix1 (c k : Int) : Int := ((c + 131 * k + 7) * 48271 + k * k * 69621) % 1000000007
def mix2 (c k : Int) : Int := ((c + 17 * k + 3) * 2862933555777941757) % 18446744073709551557
def mixc (n k c : Int) : Int := if n ≤ k ∨ c < 1000000000 then mix2 (mix1 c k) k else c
def rowv (ns : List Int) (k : Nat) : Int := mixc ns.length k (posc (pickc ns k))
theorem rows_body {ns : List Int} {k : Nat} {x4 : Option D} {rs : List Int} {n1 : D} (hk : k < 1000) (hl : rs.length < 1000) :
    β__law_rows_2 [some (intsD ns), some n1, some (.ref 0), some (.int k), x4] [.lst (rs.map .int)] = .nx [some (intsD ns), some n1, some (.ref 0), some (.int k), some (.int (rowv ns k))] [.lst ((rs ++ [rowv ns k]).map .int)] := by
  have hL : (rs.map D.int).length < LINE := by rw [List.length_map]; have := big; omega
  unfold β__law_rows_2
  refine (seqN (s1 := [some (intsD ns), some n1, some (.ref 0), some (.int k), some (.int 0)]) (M1 := [.lst (rs.map .int)]) (by simp only [LD.q_RaiseF, LD.raiK_1, LD.raiK_2, LD.raiK_3, LD.q_Chain, LD.chC_t, LD.chC_f, LD.q_tCh, LD.blC_t, LD.blC_f, LD.q_Aug, LD.augR_r, LD.augF_c, LD.augV_i, LD.augS_i, LD.augT_i, LD.q_Pop, LD.v_pop, LD.popK_s, LD.q_Range3, LD.q_iRev, LD.revR_t, LD.revR_l, LD.q_DicF, LD.P.q_Slice, LD.P.q_oSome, LD.P.q_oNone, LD.P.soK_i, LD.P.rix_s, LD.P.rix_fs, LD.lkG_s, LD.leG_s, LD.q_SLock, LD.q_ELock, LD.lkS_r, LD.lkE_r, LD.lockM_d, LD.unlM_f, LD.unlS_n, LD.unlS_r, LD.unlE_o, LD.nxK_s, LD.rtK_s, LD.okU_s, LD.q_iDic, LD.fdR_r, LD.fdK_f, LD.dcmK_l, LD.q_Dcm, LD.finDK_t, LD.finDK_f, LD.q_LItems, LD.itmR_r, LD.itmK_d, LD.rixK_f, LD.v_lenO, LD.v_eqQi, LD.v_neQi, LD.v_mulGi, LD.q_Ins, LD.q_App, LD.okS_t, LD.v_isLst, LD.lstK_s, LD.v_app, LD.q_Rev, LD.lsK_s, LD.q_Get, LD.getKK_s, LD.v_lsL, LD.v_keyI, LD.v_keyS, Option.isSome_some, Option.isSome_none, Option.getD_some, Option.getD_none, LD.v_eqs, LD.v_nes, LD.v_isiBb, LD.q_C, LD.q_Var, LD.q_Bin, LD.q_Un, LD.q_tOf, LD.q_tCmp, LD.q_tAnd, LD.q_tOr, LD.q_tNot, LD.q_And, LD.q_Or, LD.q_Not, LD.q_If, LD.q_Nil, LD.q_Cons, LD.q_Tup, LD.q_Lst, LD.q_LstM, LD.q_Call, LD.q_Meth, LD.q_Attr, LD.q_Blt, LD.q_Comp, LD.q_iOf, LD.srcK_s, LD.v_truB, LD.v_truL, LD.v_truN, LD.v_srcL, LD.v_neg, LD.q_iRange, LD.q_Next, LD.q_Seq, LD.q_Expr, LD.q_Ret, LD.q_RetN, LD.q_SIf, LD.q_Bk, LD.q_Ct, LD.q_Asg, LD.q_Nm, LD.q_Sub, LD.q_Del, LD.q_Fld, LD.q_Dic, LD.q_For, LD.wipeD, Bool.not_true, Bool.not_false, LD.ifT, LD.le0, LD.le1, LD.le2, LD.le3, LD.le4, LD.le5, LD.le6, LD.cmpK_l, LD.nn_n, LD.nn_i, LD.nn_t, LD.nn_l, LD.nn_r, LD.nn_b, LD.nn_s, LD.nonK_n, LD.okK_o, LD.bind_k, LD.bind_b, LD.bind_e, LD.bindS_k, LD.bindS_e, LD.ofO_s, LD.getV_s, LD.truK_s, LD.blK_b, LD.refK_r, LD.insK_i, LD.lookK_s, LD.lookK_n, LD.refS_r, LD.insS_i, LD.lookS_s, LD.seq_n, LD.seq_r, LD.seq_b, LD.seq_c, LD.seq_e, LD.storeK_s, LD.memK_s, LD.endF_n, LD.endF_r, LD.endF_e, LD.pick_t, LD.pick_f, LD.finL_f, LD.finL_t, LD.v_add, LD.v_sub, LD.v_mulR, LD.v_fdiv, LD.v_mod, LD.v_int, LD.v_lt, LD.v_le, LD.v_gt, LD.v_ge, LD.v_eq, LD.v_ne, LD.v_len, LD.v_tix, LD.v_lix, LD.v_rix, LD.rixK_l, LD.rixK_d, LD.v_isN, LD.v_isnN, LD.v_isNone, LD.v_isNoneN, LD.startD, List.length_cons, List.length_nil, List.map_cons, List.map_nil, List.cons_append, List.nil_append, List.append_nil, List.getElem?_cons_zero, List.getElem?_cons_succ, List.set_cons_zero, List.set_cons_succ, List.replicate_succ, List.replicate_zero, Nat.reduceAdd, Nat.reduceSub, Nat.reduceBEq, Int.reduceLT, Int.reduceNeg, Int.reduceLE, Nat.reduceLeDiff, Nat.reduceLT, List.lookup_cons, List.lookup_nil, beq_self_eq_true, Option.map_some, Option.map_none])).trans ?_
  refine (seqN (s1 := [some (intsD ns), some n1, some (.ref 0), some (.int k), some (.int (pickc ns k))]) (M1 := [.lst (rs.map .int)]) ?_).trans ?_
  · unfold intsD pickc
    by_cases h : 0 < ns.length
    · have hm : k % ns.length < ns.length := Nat.mod_lt _ h
      have hp : (0 : Int) < ns.length := by omega
      have hx : atI (ns.map D.int) ((k : Int) % (ns.length : Int)) = some (.int (ns[k % ns.length])) := by
        have e : ((k : Int) % (ns.length : Int)) = ((k % ns.length : Nat) : Int) := by omega
        rw [e]
        exact atN (by rw [List.getElem?_map, List.getElem?_eq_getElem hm] <;> rfl)
      rw [if_pos h, List.getElem?_eq_getElem hm]
      simp only [LD.q_RaiseF, LD.raiK_1, LD.raiK_2, LD.raiK_3, LD.q_Chain, LD.chC_t, LD.chC_f, LD.q_tCh, LD.blC_t, LD.blC_f, LD.q_Aug, LD.augR_r, LD.augF_c, LD.augV_i, LD.augS_i, LD.augT_i, LD.q_Pop, LD.v_pop, LD.popK_s, LD.q_Range3, LD.q_iRev, LD.revR_t, LD.revR_l, LD.q_DicF, LD.P.q_Slice, LD.P.q_oSome, LD.P.q_oNone, LD.P.soK_i, LD.P.rix_s, LD.P.rix_fs, LD.lkG_s, LD.leG_s, LD.q_SLock, LD.q_ELock, LD.lkS_r, LD.lkE_r, LD.lockM_d, LD.unlM_f, LD.unlS_n, LD.unlS_r, LD.unlE_o, LD.nxK_s, LD.rtK_s, LD.okU_s, LD.q_iDic, LD.fdR_r, LD.fdK_f, LD.dcmK_l, LD.q_Dcm, LD.finDK_t, LD.finDK_f, LD.q_LItems, LD.itmR_r, LD.itmK_d, LD.rixK_f, LD.v_lenO, LD.v_eqQi, LD.v_neQi, LD.v_mulGi, LD.q_Ins, LD.q_App, LD.okS_t, LD.v_isLst, LD.lstK_s, LD.v_app, LD.q_Rev, LD.lsK_s, LD.q_Get, LD.getKK_s, LD.v_lsL, LD.v_keyI, LD.v_keyS, Option.isSome_some, Option.isSome_none, Option.getD_some, Option.getD_none, LD.v_eqs, LD.v_nes, LD.v_isiBb, LD.q_C, LD.q_Var, LD.q_Bin, LD.q_Un, LD.q_tOf, LD.q_tCmp, LD.q_tAnd, LD.q_tOr, LD.q_tNot, LD.q_And, LD.q_Or, LD.q_Not, LD.q_If, LD.q_Nil, LD.q_Cons, LD.q_Tup, LD.q_Lst, LD.q_LstM, LD.q_Call, LD.q_Meth, LD.q_Attr, LD.q_Blt, LD.q_Comp, LD.q_iOf, LD.srcK_s, LD.v_truB, LD.v_truL, LD.v_truN, LD.v_srcL, LD.v_neg, LD.q_iRange, LD.q_Next, LD.q_Seq, LD.q_Expr, LD.q_Ret, LD.q_RetN, LD.q_SIf, LD.q_Bk, LD.q_Ct, LD.q_Asg, LD.q_Nm, LD.q_Sub, LD.q_Del, LD.q_Fld, LD.q_Dic, LD.q_For, LD.wipeD, Bool.not_true, Bool.not_false, LD.ifT, LD.le0, LD.le1, LD.le2, LD.le3, LD.le4, LD.le5, LD.le6, LD.cmpK_l, LD.nn_n, LD.nn_i, LD.nn_t, LD.nn_l, LD.nn_r, LD.nn_b, LD.nn_s, LD.nonK_n, LD.okK_o, LD.bind_k, LD.bind_b, LD.bind_e, LD.bindS_k, LD.bindS_e, LD.ofO_s, LD.getV_s, LD.truK_s, LD.blK_b, LD.refK_r, LD.insK_i, LD.lookK_s, LD.lookK_n, LD.refS_r, LD.insS_i, LD.lookS_s, LD.seq_n, LD.seq_r, LD.seq_b, LD.seq_c, LD.seq_e, LD.storeK_s, LD.memK_s, LD.endF_n, LD.endF_r, LD.endF_e, LD.pick_t, LD.pick_f, LD.finL_f, LD.finL_t, LD.v_add, LD.v_sub, LD.v_mulR, LD.v_fdiv, LD.v_mod, LD.v_int, LD.v_lt, LD.v_le, LD.v_gt, LD.v_ge, LD.v_eq, LD.v_ne, LD.v_len, LD.v_tix, LD.v_lix, LD.v_rix, LD.rixK_l, LD.rixK_d, LD.v_isN, LD.v_isnN, LD.v_isNone, LD.v_isNoneN, LD.startD, List.length_cons, List.length_nil, List.map_cons, List.map_nil, List.cons_append, List.nil_append, List.append_nil, List.getElem?_cons_zero, List.getElem?_cons_succ, List.set_cons_zero, List.set_cons_succ, List.replicate_succ, List.replicate_zero, Nat.reduceAdd, Nat.reduceSub, Nat.reduceBEq, Int.reduceLT, Int.reduceNeg, Int.reduceLE, Nat.reduceLeDiff, Nat.reduceLT, List.lookup_cons, List.lookup_nil, beq_self_eq_true, Option.map_some, Option.map_none, List.length_map, decide_eq_true hp, hx, v_mod hp]
    · have hp : ¬ (0 : Int) < ns.length := by omega
      rw [if_neg h]
      simp only [LD.q_RaiseF, LD.raiK_1, LD.raiK_2, LD.raiK_3, LD.q_Chain, LD.chC_t, LD.chC_f, LD.q_tCh, LD.blC_t, LD.blC_f, LD.q_Aug, LD.augR_r, LD.augF_c, LD.augV_i, LD.augS_i, LD.augT_i, LD.q_Pop, LD.v_pop, LD.popK_s, LD.q_Range3, LD.q_iRev, LD.revR_t, LD.revR_l, LD.q_DicF, LD.P.q_Slice, LD.P.q_oSome, LD.P.q_oNone, LD.P.soK_i, LD.P.rix_s, LD.P.rix_fs, LD.lkG_s, LD.leG_s, LD.q_SLock, LD.q_ELock, LD.lkS_r, LD.lkE_r, LD.lockM_d, LD.unlM_f, LD.unlS_n, LD.unlS_r, LD.unlE_o, LD.nxK_s, LD.rtK_s, LD.okU_s, LD.q_iDic, LD.fdR_r, LD.fdK_f, LD.dcmK_l, LD.q_Dcm, LD.finDK_t, LD.finDK_f, LD.q_LItems, LD.itmR_r, LD.itmK_d, LD.rixK_f, LD.v_lenO, LD.v_eqQi, LD.v_neQi, LD.v_mulGi, LD.q_Ins, LD.q_App, LD.okS_t, LD.v_isLst, LD.lstK_s, LD.v_app, LD.q_Rev, LD.lsK_s, LD.q_Get, LD.getKK_s, LD.v_lsL, LD.v_keyI, LD.v_keyS, Option.isSome_some, Option.isSome_none, Option.getD_some, Option.getD_none, LD.v_eqs, LD.v_nes, LD.v_isiBb, LD.q_C, LD.q_Var, LD.q_Bin, LD.q_Un, LD.q_tOf, LD.q_tCmp, LD.q_tAnd, LD.q_tOr, LD.q_tNot, LD.q_And, LD.q_Or, LD.q_Not, LD.q_If, LD.q_Nil, LD.q_Cons, LD.q_Tup, LD.q_Lst, LD.q_LstM, LD.q_Call, LD.q_Meth, LD.q_Attr, LD.q_Blt, LD.q_Comp, LD.q_iOf, LD.srcK_s, LD.v_truB, LD.v_truL, LD.v_truN, LD.v_srcL, LD.v_neg, LD.q_iRange, LD.q_Next, LD.q_Seq, LD.q_Expr, LD.q_Ret, LD.q_RetN, LD.q_SIf, LD.q_Bk, LD.q_Ct, LD.q_Asg, LD.q_Nm, LD.q_Sub, LD.q_Del, LD.q_Fld, LD.q_Dic, LD.q_For, LD.wipeD, Bool.not_true, Bool.not_false, LD.ifT, LD.le0, LD.le1, LD.le2, LD.le3, LD.le4, LD.le5, LD.le6, LD.cmpK_l, LD.nn_n, LD.nn_i, LD.nn_t, LD.nn_l, LD.nn_r, LD.nn_b, LD.nn_s, LD.nonK_n, LD.okK_o, LD.bind_k, LD.bind_b, LD.bind_e, LD.bindS_k, LD.bindS_e, LD.ofO_s, LD.getV_s, LD.truK_s, LD.blK_b, LD.refK_r, LD.insK_i, LD.lookK_s, LD.lookK_n, LD.refS_r, LD.insS_i, LD.lookS_s, LD.seq_n, LD.seq_r, LD.seq_b, LD.seq_c, LD.seq_e, LD.storeK_s, LD.memK_s, LD.endF_n, LD.endF_r, LD.endF_e, LD.pick_t, LD.pick_f, LD.finL_f, LD.finL_t, LD.v_add, LD.v_sub, LD.v_mulR, LD.v_fdiv, LD.v_mod, LD.v_int, LD.v_lt, LD.v_le, LD.v_gt, LD.v_ge, LD.v_eq, LD.v_ne, LD.v_len, LD.v_tix, LD.v_lix, LD.v_rix, LD.rixK_l, LD.rixK_d, LD.v_isN, LD.v_isnN, LD.v_isNone, LD.v_isNoneN, LD.startD, List.length_cons, List.length_nil, List.map_cons, List.map_nil, List.cons_append, List.nil_append, List.append_nil, List.getElem?_cons_zero, List.getElem?_cons_succ, List.set_cons_zero, List.set_cons_succ, List.replicate_succ, List.replicate_zero, Nat.reduceAdd, Nat.reduceSub, Nat.reduceBEq, Int.reduceLT, Int.reduceNeg, Int.reduceLE, Nat.reduceLeDiff, Nat.reduceLT, List.lookup_cons, List.lookup_nil, beq_self_eq_true, Option.map_some, Option.map_none, List.length_map, decide_eq_false hp]
  refine (seqN (s1 := [some (intsD ns), some n1, some (.ref 0), some (.int k), some (.int (posc (pickc ns k)))]) (M1 := [.lst (rs.map .int)]) ?_).trans ?_
  · generalize pickc ns k = c
    unfold posc
    by_cases h : c < 0
    · rw [if_pos h]
      simp only [LD.q_RaiseF, LD.raiK_1, LD.raiK_2, LD.raiK_3, LD.q_Chain, LD.chC_t, LD.chC_f, LD.q_tCh, LD.blC_t, LD.blC_f, LD.q_Aug, LD.augR_r, LD.augF_c, LD.augV_i, LD.augS_i, LD.augT_i, LD.q_Pop, LD.v_pop, LD.popK_s, LD.q_Range3, LD.q_iRev, LD.revR_t, LD.revR_l, LD.q_DicF, LD.P.q_Slice, LD.P.q_oSome, LD.P.q_oNone, LD.P.soK_i, LD.P.rix_s, LD.P.rix_fs, LD.lkG_s, LD.leG_s, LD.q_SLock, LD.q_ELock, LD.lkS_r, LD.lkE_r, LD.lockM_d, LD.unlM_f, LD.unlS_n, LD.unlS_r, LD.unlE_o, LD.nxK_s, LD.rtK_s, LD.okU_s, LD.q_iDic, LD.fdR_r, LD.fdK_f, LD.dcmK_l, LD.q_Dcm, LD.finDK_t, LD.finDK_f, LD.q_LItems, LD.itmR_r, LD.itmK_d, LD.rixK_f, LD.v_lenO, LD.v_eqQi, LD.v_neQi, LD.v_mulGi, LD.q_Ins, LD.q_App, LD.okS_t, LD.v_isLst, LD.lstK_s, LD.v_app, LD.q_Rev, LD.lsK_s, LD.q_Get, LD.getKK_s, LD.v_lsL, LD.v_keyI, LD.v_keyS, Option.isSome_some, Option.isSome_none, Option.getD_some, Option.getD_none, LD.v_eqs, LD.v_nes, LD.v_isiBb, LD.q_C, LD.q_Var, LD.q_Bin, LD.q_Un, LD.q_tOf, LD.q_tCmp, LD.q_tAnd, LD.q_tOr, LD.q_tNot, LD.q_And, LD.q_Or, LD.q_Not, LD.q_If, LD.q_Nil, LD.q_Cons, LD.q_Tup, LD.q_Lst, LD.q_LstM, LD.q_Call, LD.q_Meth, LD.q_Attr, LD.q_Blt, LD.q_Comp, LD.q_iOf, LD.srcK_s, LD.v_truB, LD.v_truL, LD.v_truN, LD.v_srcL, LD.v_neg, LD.q_iRange, LD.q_Next, LD.q_Seq, LD.q_Expr, LD.q_Ret, LD.q_RetN, LD.q_SIf, LD.q_Bk, LD.q_Ct, LD.q_Asg, LD.q_Nm, LD.q_Sub, LD.q_Del, LD.q_Fld, LD.q_Dic, LD.q_For, LD.wipeD, Bool.not_true, Bool.not_false, LD.ifT, LD.le0, LD.le1, LD.le2, LD.le3, LD.le4, LD.le5, LD.le6, LD.cmpK_l, LD.nn_n, LD.nn_i, LD.nn_t, LD.nn_l, LD.nn_r, LD.nn_b, LD.nn_s, LD.nonK_n, LD.okK_o, LD.bind_k, LD.bind_b, LD.bind_e, LD.bindS_k, LD.bindS_e, LD.ofO_s, LD.getV_s, LD.truK_s, LD.blK_b, LD.refK_r, LD.insK_i, LD.lookK_s, LD.lookK_n, LD.refS_r, LD.insS_i, LD.lookS_s, LD.seq_n, LD.seq_r, LD.seq_b, LD.seq_c, LD.seq_e, LD.storeK_s, LD.memK_s, LD.endF_n, LD.endF_r, LD.endF_e, LD.pick_t, LD.pick_f, LD.finL_f, LD.finL_t, LD.v_add, LD.v_sub, LD.v_mulR, LD.v_fdiv, LD.v_mod, LD.v_int, LD.v_lt, LD.v_le, LD.v_gt, LD.v_ge, LD.v_eq, LD.v_ne, LD.v_len, LD.v_tix, LD.v_lix, LD.v_rix, LD.rixK_l, LD.rixK_d, LD.v_isN, LD.v_isnN, LD.v_isNone, LD.v_isNoneN, LD.startD, List.length_cons, List.length_nil, List.map_cons, List.map_nil, List.cons_append, List.nil_append, List.append_nil, List.getElem?_cons_zero, List.getElem?_cons_succ, List.set_cons_zero, List.set_cons_succ, List.replicate_succ, List.replicate_zero, Nat.reduceAdd, Nat.reduceSub, Nat.reduceBEq, Int.reduceLT, Int.reduceNeg, Int.reduceLE, Nat.reduceLeDiff, Nat.reduceLT, List.lookup_cons, List.lookup_nil, beq_self_eq_true, Option.map_some, Option.map_none, decide_eq_true h, v_mulL]
    · rw [if_neg h]
      simp only [LD.q_RaiseF, LD.raiK_1, LD.raiK_2, LD.raiK_3, LD.q_Chain, LD.chC_t, LD.chC_f, LD.q_tCh, LD.blC_t, LD.blC_f, LD.q_Aug, LD.augR_r, LD.augF_c, LD.augV_i, LD.augS_i, LD.augT_i, LD.q_Pop, LD.v_pop, LD.popK_s, LD.q_Range3, LD.q_iRev, LD.revR_t, LD.revR_l, LD.q_DicF, LD.P.q_Slice, LD.P.q_oSome, LD.P.q_oNone, LD.P.soK_i, LD.P.rix_s, LD.P.rix_fs, LD.lkG_s, LD.leG_s, LD.q_SLock, LD.q_ELock, LD.lkS_r, LD.lkE_r, LD.lockM_d, LD.unlM_f, LD.unlS_n, LD.unlS_r, LD.unlE_o, LD.nxK_s, LD.rtK_s, LD.okU_s, LD.q_iDic, LD.fdR_r, LD.fdK_f, LD.dcmK_l, LD.q_Dcm, LD.finDK_t, LD.finDK_f, LD.q_LItems, LD.itmR_r, LD.itmK_d, LD.rixK_f, LD.v_lenO, LD.v_eqQi, LD.v_neQi, LD.v_mulGi, LD.q_Ins, LD.q_App, LD.okS_t, LD.v_isLst, LD.lstK_s, LD.v_app, LD.q_Rev, LD.lsK_s, LD.q_Get, LD.getKK_s, LD.v_lsL, LD.v_keyI, LD.v_keyS, Option.isSome_some, Option.isSome_none, Option.getD_some, Option.getD_none, LD.v_eqs, LD.v_nes, LD.v_isiBb, LD.q_C, LD.q_Var, LD.q_Bin, LD.q_Un, LD.q_tOf, LD.q_tCmp, LD.q_tAnd, LD.q_tOr, LD.q_tNot, LD.q_And, LD.q_Or, LD.q_Not, LD.q_If, LD.q_Nil, LD.q_Cons, LD.q_Tup, LD.q_Lst, LD.q_LstM, LD.q_Call, LD.q_Meth, LD.q_Attr, LD.q_Blt, LD.q_Comp, LD.q_iOf, LD.srcK_s, LD.v_truB, LD.v_truL, LD.v_truN, LD.v_srcL, LD.v_neg, LD.q_iRange, LD.q_Next, LD.q_Seq, LD.q_Expr, LD.q_Ret, LD.q_RetN, LD.q_SIf, LD.q_Bk, LD.q_Ct, LD.q_Asg, LD.q_Nm, LD.q_Sub, LD.q_Del, LD.q_Fld, LD.q_Dic, LD.q_For, LD.wipeD, Bool.not_true, Bool.not_false, LD.ifT, LD.le0, LD.le1, LD.le2, LD.le3, LD.le4, LD.le5, LD.le6, LD.cmpK_l, LD.nn_n, LD.nn_i, LD.nn_t, LD.nn_l, LD.nn_r, LD.nn_b, LD.nn_s, LD.nonK_n, LD.okK_o, LD.bind_k, LD.bind_b, LD.bind_e, LD.bindS_k, LD.bindS_e, LD.ofO_s, LD.getV_s, LD.truK_s, LD.blK_b, LD.refK_r, LD.insK_i, LD.lookK_s, LD.lookK_n, LD.refS_r, LD.insS_i, LD.lookS_s, LD.seq_n, LD.seq_r, LD.seq_b, LD.seq_c, LD.seq_e, LD.storeK_s, LD.memK_s, LD.endF_n, LD.endF_r, LD.endF_e, LD.pick_t, LD.pick_f, LD.finL_f, LD.finL_t, LD.v_add, LD.v_sub, LD.v_mulR, LD.v_fdiv, LD.v_mod, LD.v_int, LD.v_lt, LD.v_le, LD.v_gt, LD.v_ge, LD.v_eq, LD.v_ne, LD.v_len, LD.v_tix, LD.v_lix, LD.v_rix, LD.rixK_l, LD.rixK_d, LD.v_isN, LD.v_isnN, LD.v_isNone, LD.v_isNoneN, LD.startD, List.length_cons, List.length_nil, List.map_cons, List.map_nil, List.cons_append, List.nil_append, List.append_nil, List.getElem?_cons_zero, List.getElem?_cons_succ, List.set_cons_zero, List.set_cons_succ, List.replicate_succ, List.replicate_zero, Nat.reduceAdd, Nat.reduceSub, Nat.reduceBEq, Int.reduceLT, Int.reduceNeg, Int.reduceLE, Nat.reduceLeDiff, Nat.reduceLT, List.lookup_cons, List.lookup_nil, beq_self_eq_true, Option.map_some, Option.map_none, decide_eq_false h]
  refine (seqN (s1 := [some (intsD ns), some n1, some (.ref 0), some (.int k), some (.int (rowv ns k))]) (M1 := [.lst (rs.map .int)]) ?_).trans ?_
  · unfold rowv
    generalize posc (pickc ns k) = c
    unfold mixc intsD
    by_cases h : (ns.length : Int) ≤ k
    · rw [if_pos (.inl h)]
      unfold mix2 mix1
      simp only [LD.q_RaiseF, LD.raiK_1, LD.raiK_2, LD.raiK_3, LD.q_Chain, LD.chC_t, LD.chC_f, LD.q_tCh, LD.blC_t, LD.blC_f, LD.q_Aug, LD.augR_r, LD.augF_c, LD.augV_i, LD.augS_i, LD.augT_i, LD.q_Pop, LD.v_pop, LD.popK_s, LD.q_Range3, LD.q_iRev, LD.revR_t, LD.revR_l, LD.q_DicF, LD.P.q_Slice, LD.P.q_oSome, LD.P.q_oNone, LD.P.soK_i, LD.P.rix_s, LD.P.rix_fs, LD.lkG_s, LD.leG_s, LD.q_SLock, LD.q_ELock, LD.lkS_r, LD.lkE_r, LD.lockM_d, LD.unlM_f, LD.unlS_n, LD.unlS_r, LD.unlE_o, LD.nxK_s, LD.rtK_s, LD.okU_s, LD.q_iDic, LD.fdR_r, LD.fdK_f, LD.dcmK_l, LD.q_Dcm, LD.finDK_t, LD.finDK_f, LD.q_LItems, LD.itmR_r, LD.itmK_d, LD.rixK_f, LD.v_lenO, LD.v_eqQi, LD.v_neQi, LD.v_mulGi, LD.q_Ins, LD.q_App, LD.okS_t, LD.v_isLst, LD.lstK_s, LD.v_app, LD.q_Rev, LD.lsK_s, LD.q_Get, LD.getKK_s, LD.v_lsL, LD.v_keyI, LD.v_keyS, Option.isSome_some, Option.isSome_none, Option.getD_some, Option.getD_none, LD.v_eqs, LD.v_nes, LD.v_isiBb, LD.q_C, LD.q_Var, LD.q_Bin, LD.q_Un, LD.q_tOf, LD.q_tCmp, LD.q_tAnd, LD.q_tOr, LD.q_tNot, LD.q_And, LD.q_Or, LD.q_Not, LD.q_If, LD.q_Nil, LD.q_Cons, LD.q_Tup, LD.q_Lst, LD.q_LstM, LD.q_Call, LD.q_Meth, LD.q_Attr, LD.q_Blt, LD.q_Comp, LD.q_iOf, LD.srcK_s, LD.v_truB, LD.v_truL, LD.v_truN, LD.v_srcL, LD.v_neg, LD.q_iRange, LD.q_Next, LD.q_Seq, LD.q_Expr, LD.q_Ret, LD.q_RetN, LD.q_SIf, LD.q_Bk, LD.q_Ct, LD.q_Asg, LD.q_Nm, LD.q_Sub, LD.q_Del, LD.q_Fld, LD.q_Dic, LD.q_For, LD.wipeD, Bool.not_true, Bool.not_false, LD.ifT, LD.le0, LD.le1, LD.le2, LD.le3, LD.le4, LD.le5, LD.le6, LD.cmpK_l, LD.nn_n, LD.nn_i, LD.nn_t, LD.nn_l, LD.nn_r, LD.nn_b, LD.nn_s, LD.nonK_n, LD.okK_o, LD.bind_k, LD.bind_b, LD.bind_e, LD.bindS_k, LD.bindS_e, LD.ofO_s, LD.getV_s, LD.truK_s, LD.blK_b, LD.refK_r, LD.insK_i, LD.lookK_s, LD.lookK_n, LD.refS_r, LD.insS_i, LD.lookS_s, LD.seq_n, LD.seq_r, LD.seq_b, LD.seq_c, LD.seq_e, LD.storeK_s, LD.memK_s, LD.endF_n, LD.endF_r, LD.endF_e, LD.pick_t, LD.pick_f, LD.finL_f, LD.finL_t, LD.v_add, LD.v_sub, LD.v_mulR, LD.v_fdiv, LD.v_mod, LD.v_int, LD.v_lt, LD.v_le, LD.v_gt, LD.v_ge, LD.v_eq, LD.v_ne, LD.v_len, LD.v_tix, LD.v_lix, LD.v_rix, LD.rixK_l, LD.rixK_d, LD.v_isN, LD.v_isnN, LD.v_isNone, LD.v_isNoneN, LD.startD, List.length_cons, List.length_nil, List.map_cons, List.map_nil, List.cons_append, List.nil_append, List.append_nil, List.getElem?_cons_zero, List.getElem?_cons_succ, List.set_cons_zero, List.set_cons_succ, List.replicate_succ, List.replicate_zero, Nat.reduceAdd, Nat.reduceSub, Nat.reduceBEq, Int.reduceLT, Int.reduceNeg, Int.reduceLE, Nat.reduceLeDiff, Nat.reduceLT, List.lookup_cons, List.lookup_nil, beq_self_eq_true, Option.map_some, Option.map_none, List.length_map, decide_eq_true h, mulk hk]
    · by_cases h2 : c < 1000000000
      · rw [if_pos (.inr h2)]
        unfold mix2 mix1
        simp only [LD.q_RaiseF, LD.raiK_1, LD.raiK_2, LD.raiK_3, LD.q_Chain, LD.chC_t, LD.chC_f, LD.q_tCh, LD.blC_t, LD.blC_f, LD.q_Aug, LD.augR_r, LD.augF_c, LD.augV_i, LD.augS_i, LD.augT_i, LD.q_Pop, LD.v_pop, LD.popK_s, LD.q_Range3, LD.q_iRev, LD.revR_t, LD.revR_l, LD.q_DicF, LD.P.q_Slice, LD.P.q_oSome, LD.P.q_oNone, LD.P.soK_i, LD.P.rix_s, LD.P.rix_fs, LD.lkG_s, LD.leG_s, LD.q_SLock, LD.q_ELock, LD.lkS_r, LD.lkE_r, LD.lockM_d, LD.unlM_f, LD.unlS_n, LD.unlS_r, LD.unlE_o, LD.nxK_s, LD.rtK_s, LD.okU_s, LD.q_iDic, LD.fdR_r, LD.fdK_f, LD.dcmK_l, LD.q_Dcm, LD.finDK_t, LD.finDK_f, LD.q_LItems, LD.itmR_r, LD.itmK_d, LD.rixK_f, LD.v_lenO, LD.v_eqQi, LD.v_neQi, LD.v_mulGi, LD.q_Ins, LD.q_App, LD.okS_t, LD.v_isLst, LD.lstK_s, LD.v_app, LD.q_Rev, LD.lsK_s, LD.q_Get, LD.getKK_s, LD.v_lsL, LD.v_keyI, LD.v_keyS, Option.isSome_some, Option.isSome_none, Option.getD_some, Option.getD_none, LD.v_eqs, LD.v_nes, LD.v_isiBb, LD.q_C, LD.q_Var, LD.q_Bin, LD.q_Un, LD.q_tOf, LD.q_tCmp, LD.q_tAnd, LD.q_tOr, LD.q_tNot, LD.q_And, LD.q_Or, LD.q_Not, LD.q_If, LD.q_Nil, LD.q_Cons, LD.q_Tup, LD.q_Lst, LD.q_LstM, LD.q_Call, LD.q_Meth, LD.q_Attr, LD.q_Blt, LD.q_Comp, LD.q_iOf, LD.srcK_s, LD.v_truB, LD.v_truL, LD.v_truN, LD.v_srcL, LD.v_neg, LD.q_iRange, LD.q_Next, LD.q_Seq, LD.q_Expr, LD.q_Ret, LD.q_RetN, LD.q_SIf, LD.q_Bk, LD.q_Ct, LD.q_Asg, LD.q_Nm, LD.q_Sub, LD.q_Del, LD.q_Fld, LD.q_Dic, LD.q_For, LD.wipeD, Bool.not_true, Bool.not_false, LD.ifT, LD.le0, LD.le1, LD.le2, LD.le3, LD.le4, LD.le5, LD.le6, LD.cmpK_l, LD.nn_n, LD.nn_i, LD.nn_t, LD.nn_l, LD.nn_r, LD.nn_b, LD.nn_s, LD.nonK_n, LD.okK_o, LD.bind_k, LD.bind_b, LD.bind_e, LD.bindS_k, LD.bindS_e, LD.ofO_s, LD.getV_s, LD.truK_s, LD.blK_b, LD.refK_r, LD.insK_i, LD.lookK_s, LD.lookK_n, LD.refS_r, LD.insS_i, LD.lookS_s, LD.seq_n, LD.seq_r, LD.seq_b, LD.seq_c, LD.seq_e, LD.storeK_s, LD.memK_s, LD.endF_n, LD.endF_r, LD.endF_e, LD.pick_t, LD.pick_f, LD.finL_f, LD.finL_t, LD.v_add, LD.v_sub, LD.v_mulR, LD.v_fdiv, LD.v_mod, LD.v_int, LD.v_lt, LD.v_le, LD.v_gt, LD.v_ge, LD.v_eq, LD.v_ne, LD.v_len, LD.v_tix, LD.v_lix, LD.v_rix, LD.rixK_l, LD.rixK_d, LD.v_isN, LD.v_isnN, LD.v_isNone, LD.v_isNoneN, LD.startD, List.length_cons, List.length_nil, List.map_cons, List.map_nil, List.cons_append, List.nil_append, List.append_nil, List.getElem?_cons_zero, List.getElem?_cons_succ, List.set_cons_zero, List.set_cons_succ, List.replicate_succ, List.replicate_zero, Nat.reduceAdd, Nat.reduceSub, Nat.reduceBEq, Int.reduceLT, Int.reduceNeg, Int.reduceLE, Nat.reduceLeDiff, Nat.reduceLT, List.lookup_cons, List.lookup_nil, beq_self_eq_true, Option.map_some, Option.map_none, List.length_map, decide_eq_false h, decide_eq_true h2, mulk hk]
      · rw [if_neg (fun z => z.elim h h2)]
        simp only [LD.q_RaiseF, LD.raiK_1, LD.raiK_2, LD.raiK_3, LD.q_Chain, LD.chC_t, LD.chC_f, LD.q_tCh, LD.blC_t, LD.blC_f, LD.q_Aug, LD.augR_r, LD.augF_c, LD.augV_i, LD.augS_i, LD.augT_i, LD.q_Pop, LD.v_pop, LD.popK_s, LD.q_Range3, LD.q_iRev, LD.revR_t, LD.revR_l, LD.q_DicF, LD.P.q_Slice, LD.P.q_oSome, LD.P.q_oNone, LD.P.soK_i, LD.P.rix_s, LD.P.rix_fs, LD.lkG_s, LD.leG_s, LD.q_SLock, LD.q_ELock, LD.lkS_r, LD.lkE_r, LD.lockM_d, LD.unlM_f, LD.unlS_n, LD.unlS_r, LD.unlE_o, LD.nxK_s, LD.rtK_s, LD.okU_s, LD.q_iDic, LD.fdR_r, LD.fdK_f, LD.dcmK_l, LD.q_Dcm, LD.finDK_t, LD.finDK_f, LD.q_LItems, LD.itmR_r, LD.itmK_d, LD.rixK_f, LD.v_lenO, LD.v_eqQi, LD.v_neQi, LD.v_mulGi, LD.q_Ins, LD.q_App, LD.okS_t, LD.v_isLst, LD.lstK_s, LD.v_app, LD.q_Rev, LD.lsK_s, LD.q_Get, LD.getKK_s, LD.v_lsL, LD.v_keyI, LD.v_keyS, Option.isSome_some, Option.isSome_none, Option.getD_some, Option.getD_none, LD.v_eqs, LD.v_nes, LD.v_isiBb, LD.q_C, LD.q_Var, LD.q_Bin, LD.q_Un, LD.q_tOf, LD.q_tCmp, LD.q_tAnd, LD.q_tOr, LD.q_tNot, LD.q_And, LD.q_Or, LD.q_Not, LD.q_If, LD.q_Nil, LD.q_Cons, LD.q_Tup, LD.q_Lst, LD.q_LstM, LD.q_Call, LD.q_Meth, LD.q_Attr, LD.q_Blt, LD.q_Comp, LD.q_iOf, LD.srcK_s, LD.v_truB, LD.v_truL, LD.v_truN, LD.v_srcL, LD.v_neg, LD.q_iRange, LD.q_Next, LD.q_Seq, LD.q_Expr, LD.q_Ret, LD.q_RetN, LD.q_SIf, LD.q_Bk, LD.q_Ct, LD.q_Asg, LD.q_Nm, LD.q_Sub, LD.q_Del, LD.q_Fld, LD.q_Dic, LD.q_For, LD.wipeD, Bool.not_true, Bool.not_false, LD.ifT, LD.le0, LD.le1, LD.le2, LD.le3, LD.le4, LD.le5, LD.le6, LD.cmpK_l, LD.nn_n, LD.nn_i, LD.nn_t, LD.nn_l, LD.nn_r, LD.nn_b, LD.nn_s, LD.nonK_n, LD.okK_o, LD.bind_k, LD.bind_b, LD.bind_e, LD.bindS_k, LD.bindS_e, LD.ofO_s, LD.getV_s, LD.truK_s, LD.blK_b, LD.refK_r, LD.insK_i, LD.lookK_s, LD.lookK_n, LD.refS_r, LD.insS_i, LD.lookS_s, LD.seq_n, LD.seq_r, LD.seq_b, LD.seq_c, LD.seq_e, LD.storeK_s, LD.memK_s, LD.endF_n, LD.endF_r, LD.endF_e, LD.pick_t, LD.pick_f, LD.finL_f, LD.finL_t, LD.v_add, LD.v_sub, LD.v_mulR, LD.v_fdiv, LD.v_mod, LD.v_int, LD.v_lt, LD.v_le, LD.v_gt, LD.v_ge, LD.v_eq, LD.v_ne, LD.v_len, LD.v_tix, LD.v_lix, LD.v_rix, LD.rixK_l, LD.rixK_d, LD.v_isN, LD.v_isnN, LD.v_isNone, LD.v_isNoneN, LD.startD, List.length_cons, List.length_nil, List.map_cons, List.map_nil, List.cons_append, List.nil_append, List.append_nil, List.getElem?_cons_zero, List.getElem?_cons_succ, List.set_cons_zero, List.set_cons_succ, List.replicate_succ, List.replicate_zero, Nat.reduceAdd, Nat.reduceSub, Nat.reduceBEq, Int.reduceLT, Int.reduceNeg, Int.reduceLE, Nat.reduceLeDiff, Nat.reduceLT, List.lookup_cons, List.lookup_nil, beq_self_eq_true, Option.map_some, Option.map_none, List.length_map, decide_eq_false h, decide_eq_false h2]
  unfold intsD
  simp only [LD.q_RaiseF, LD.raiK_1, LD.raiK_2, LD.raiK_3, LD.q_Chain, LD.chC_t, LD.chC_f, LD.q_tCh, LD.blC_t, LD.blC_f, LD.q_Aug, LD.augR_r, LD.augF_c, LD.augV_i, LD.augS_i, LD.augT_i, LD.q_Pop, LD.v_pop, LD.popK_s, LD.q_Range3, LD.q_iRev, LD.revR_t, LD.revR_l, LD.q_DicF, LD.P.q_Slice, LD.P.q_oSome, LD.P.q_oNone, LD.P.soK_i, LD.P.rix_s, LD.P.rix_fs, LD.lkG_s, LD.leG_s, LD.q_SLock, LD.q_ELock, LD.lkS_r, LD.lkE_r, LD.lockM_d, LD.unlM_f, LD.unlS_n, LD.unlS_r, LD.unlE_o, LD.nxK_s, LD.rtK_s, LD.okU_s, LD.q_iDic, LD.fdR_r, LD.fdK_f, LD.dcmK_l, LD.q_Dcm, LD.finDK_t, LD.finDK_f, LD.q_LItems, LD.itmR_r, LD.itmK_d, LD.rixK_f, LD.v_lenO, LD.v_eqQi, LD.v_neQi, LD.v_mulGi, LD.q_Ins, LD.q_App, LD.okS_t, LD.v_isLst, LD.lstK_s, LD.v_app, LD.q_Rev, LD.lsK_s, LD.q_Get, LD.getKK_s, LD.v_lsL, LD.v_keyI, LD.v_keyS, Option.isSome_some, Option.isSome_none, Option.getD_some, Option.getD_none, LD.v_eqs, LD.v_nes, LD.v_isiBb, LD.q_C, LD.q_Var, LD.q_Bin, LD.q_Un, LD.q_tOf, LD.q_tCmp, LD.q_tAnd, LD.q_tOr, LD.q_tNot, LD.q_And, LD.q_Or, LD.q_Not, LD.q_If, LD.q_Nil, LD.q_Cons, LD.q_Tup, LD.q_Lst, LD.q_LstM, LD.q_Call, LD.q_Meth, LD.q_Attr, LD.q_Blt, LD.q_Comp, LD.q_iOf, LD.srcK_s, LD.v_truB, LD.v_truL, LD.v_truN, LD.v_srcL, LD.v_neg, LD.q_iRange, LD.q_Next, LD.q_Seq, LD.q_Expr, LD.q_Ret, LD.q_RetN, LD.q_SIf, LD.q_Bk, LD.q_Ct, LD.q_Asg, LD.q_Nm, LD.q_Sub, LD.q_Del, LD.q_Fld, LD.q_Dic, LD.q_For, LD.wipeD, Bool.not_true, Bool.not_false, LD.ifT, LD.le0, LD.le1, LD.le2, LD.le3, LD.le4, LD.le5, LD.le6, LD.cmpK_l, LD.nn_n, LD.nn_i, LD.nn_t, LD.nn_l, LD.nn_r, LD.nn_b, LD.nn_s, LD.nonK_n, LD.okK_o, LD.bind_k, LD.bind_b, LD.bind_e, LD.bindS_k, LD.bindS_e, LD.ofO_s, LD.getV_s, LD.truK_s, LD.blK_b, LD.refK_r, LD.insK_i, LD.lookK_s, LD.lookK_n, LD.refS_r, LD.insS_i, LD.lookS_s, LD.seq_n, LD.seq_r, LD.seq_b, LD.seq_c, LD.seq_e, LD.storeK_s, LD.memK_s, LD.endF_n, LD.endF_r, LD.endF_e, LD.pick_t, LD.pick_f, LD.finL_f, LD.finL_t, LD.v_add, LD.v_sub, LD.v_mulR, LD.v_fdiv, LD.v_mod, LD.v_int, LD.v_lt, LD.v_le, LD.v_gt, LD.v_ge, LD.v_eq, LD.v_ne, LD.v_len, LD.v_tix, LD.v_lix, LD.v_rix, LD.rixK_l, LD.rixK_d, LD.v_isN, LD.v_isnN, LD.v_isNone, LD.v_isNoneN, LD.startD, List.length_cons, List.length_nil, List.map_cons, List.map_nil, List.cons_append, List.nil_append, List.append_nil, List.getElem?_cons_zero, List.getElem?_cons_succ, List.set_cons_zero, List.set_cons_succ, List.replicate_succ, List.replicate_zero, Nat.reduceAdd, Nat.reduceSub, Nat.reduceBEq, Int.reduceLT, Int.reduceNeg, Int.reduceLE, Nat.reduceLeDiff, Nat.reduceLT, List.lookup_cons, List.lookup_nil, beq_self_eq_true, Option.map_some, Option.map_none, hL, appK_s hL, List.map_append]
theorem rows_loop {ns : List Int} {n1 : D} : ∀ (ks : List Nat) (rs : List Int) (x3 x4 : Option D), (∀ k ∈ ks, k < 1000) → rs.length + ks.length < 1000 → ∃ x3' x4', forV (fun _ => true) (gNm 3) β__law_rows_2 (ks.map fun k : Nat => .int k) [some (intsD ns), some n1, some (.ref 0), x3, x4] [.lst (rs.map .int)] =
      .nx [some (intsD ns), some n1, some (.ref 0), x3', x4'] [.lst ((rs ++ ks.map (rowv ns)).map .int)]
  | [], rs, x3, x4, _, _ => ⟨x3, x4, by rw [List.map_nil, List.map_nil, List.append_nil]; exact forV_n rfl⟩
  | k :: ks, rs, x3, x4, h, hl => by
    have hk := h k List.mem_cons_self
    rw [List.length_cons] at hl
    obtain ⟨y3, y4, e⟩ := rows_loop (ns := ns) (n1 := n1) ks (rs ++ [rowv ns k]) (some (.int k)) (some (.int (rowv ns k))) (fun j hj => h j (List.mem_cons_of_mem _ hj)) (by rw [List.length_append, List.length_singleton]; omega)
    refine ⟨y3, y4, ?_⟩
    rw [List.map_cons]
    refine (forV_c rfl rfl (rows_body hk (by omega))).trans ?_
    rw [e, List.append_assoc] <;> rfl
def rowL (ns : List Int) (m : Nat) : List Int := (List.range m).map (rowv ns)
theorem rows_eq (ns : List Int) (m : Nat) (hm : m < 900) : φ__law_rows [intsD ns, .int m] [] = .ok (.ref 0) [.lst ((rowL ns m).map .int)] := by
  unfold φ__law_rows
  refine run_def rfl ?_
  unfold ψ__law_rows
  obtain ⟨x3, x4, e⟩ := rows_loop (ns := ns) (n1 := .int m) (List.range m) [] none none (fun k hk => by have := List.mem_range.mp hk; omega) (by rw [List.length_range]; show 0 + m < 1000; omega)
  have hr : rngK [.int (m : Int)] [.lst []] = .ok ⟨(List.range m).map fun k : Nat => .int k, fun _ => true⟩ [.lst []] := by
    rw [rngN (by omega) (by omega)]
    congr 2
    unfold rangeL
    rw [Int.toNat_natCast]
    congr 1
    funext i
    simp
  simp only [LD.q_RaiseF, LD.raiK_1, LD.raiK_2, LD.raiK_3, LD.q_Chain, LD.chC_t, LD.chC_f, LD.q_tCh, LD.blC_t, LD.blC_f, LD.q_Aug, LD.augR_r, LD.augF_c, LD.augV_i, LD.augS_i, LD.augT_i, LD.q_Pop, LD.v_pop, LD.popK_s, LD.q_Range3, LD.q_iRev, LD.revR_t, LD.revR_l, LD.q_DicF, LD.P.q_Slice, LD.P.q_oSome, LD.P.q_oNone, LD.P.soK_i, LD.P.rix_s, LD.P.rix_fs, LD.lkG_s, LD.leG_s, LD.q_SLock, LD.q_ELock, LD.lkS_r, LD.lkE_r, LD.lockM_d, LD.unlM_f, LD.unlS_n, LD.unlS_r, LD.unlE_o, LD.nxK_s, LD.rtK_s, LD.okU_s, LD.q_iDic, LD.fdR_r, LD.fdK_f, LD.dcmK_l, LD.q_Dcm, LD.finDK_t, LD.finDK_f, LD.q_LItems, LD.itmR_r, LD.itmK_d, LD.rixK_f, LD.v_lenO, LD.v_eqQi, LD.v_neQi, LD.v_mulGi, LD.q_Ins, LD.q_App, LD.okS_t, LD.v_isLst, LD.lstK_s, LD.v_app, LD.q_Rev, LD.lsK_s, LD.q_Get, LD.getKK_s, LD.v_lsL, LD.v_keyI, LD.v_keyS, Option.isSome_some, Option.isSome_none, Option.getD_some, Option.getD_none, LD.v_eqs, LD.v_nes, LD.v_isiBb, LD.q_C, LD.q_Var, LD.q_Bin, LD.q_Un, LD.q_tOf, LD.q_tCmp, LD.q_tAnd, LD.q_tOr, LD.q_tNot, LD.q_And, LD.q_Or, LD.q_Not, LD.q_If, LD.q_Nil, LD.q_Cons, LD.q_Tup, LD.q_Lst, LD.q_LstM, LD.q_Call, LD.q_Meth, LD.q_Attr, LD.q_Blt, LD.q_Comp, LD.q_iOf, LD.srcK_s, LD.v_truB, LD.v_truL, LD.v_truN, LD.v_srcL, LD.v_neg, LD.q_iRange, LD.q_Next, LD.q_Seq, LD.q_Expr, LD.q_Ret, LD.q_RetN, LD.q_SIf, LD.q_Bk, LD.q_Ct, LD.q_Asg, LD.q_Nm, LD.q_Sub, LD.q_Del, LD.q_Fld, LD.q_Dic, LD.q_For, LD.wipeD, Bool.not_true, Bool.not_false, LD.ifT, LD.le0, LD.le1, LD.le2, LD.le3, LD.le4, LD.le5, LD.le6, LD.cmpK_l, LD.nn_n, LD.nn_i, LD.nn_t, LD.nn_l, LD.nn_r, LD.nn_b, LD.nn_s, LD.nonK_n, LD.okK_o, LD.bind_k, LD.bind_b, LD.bind_e, LD.bindS_k, LD.bindS_e, LD.ofO_s, LD.getV_s, LD.truK_s, LD.blK_b, LD.refK_r, LD.insK_i, LD.lookK_s, LD.lookK_n, LD.refS_r, LD.insS_i, LD.lookS_s, LD.seq_n, LD.seq_r, LD.seq_b, LD.seq_c, LD.seq_e, LD.storeK_s, LD.memK_s, LD.endF_n, LD.endF_r, LD.endF_e, LD.pick_t, LD.pick_f, LD.finL_f, LD.finL_t, LD.v_add, LD.v_sub, LD.v_mulR, LD.v_fdiv, LD.v_mod, LD.v_int, LD.v_lt, LD.v_le, LD.v_gt, LD.v_ge, LD.v_eq, LD.v_ne, LD.v_len, LD.v_tix, LD.v_lix, LD.v_rix, LD.rixK_l, LD.rixK_d, LD.v_isN, LD.v_isnN, LD.v_isNone, LD.v_isNoneN, LD.startD, List.length_cons, List.length_nil, List.map_cons, List.map_nil, List.cons_append, List.nil_append, List.append_nil, List.getElem?_cons_zero, List.getElem?_cons_succ, List.set_cons_zero, List.set_cons_succ, List.replicate_succ, List.replicate_zero, Nat.reduceAdd, Nat.reduceSub, Nat.reduceBEq, Int.reduceLT, Int.reduceNeg, Int.reduceLE, Nat.reduceLeDiff, Nat.reduceLT, List.lookup_cons, List.lookup_nil, beq_self_eq_true, Option.map_some, Option.map_none, hr]
  rw [List.map_nil] at e
  rw [e]
  simp only [LD.q_RaiseF, LD.raiK_1, LD.raiK_2, LD.raiK_3, LD.q_Chain, LD.chC_t, LD.chC_f, LD.q_tCh, LD.blC_t, LD.blC_f, LD.q_Aug, LD.augR_r, LD.augF_c, LD.augV_i, LD.augS_i, LD.augT_i, LD.q_Pop, LD.v_pop, LD.popK_s, LD.q_Range3, LD.q_iRev, LD.revR_t, LD.revR_l, LD.q_DicF, LD.P.q_Slice, LD.P.q_oSome, LD.P.q_oNone, LD.P.soK_i, LD.P.rix_s, LD.P.rix_fs, LD.lkG_s, LD.leG_s, LD.q_SLock, LD.q_ELock, LD.lkS_r, LD.lkE_r, LD.lockM_d, LD.unlM_f, LD.unlS_n, LD.unlS_r, LD.unlE_o, LD.nxK_s, LD.rtK_s, LD.okU_s, LD.q_iDic, LD.fdR_r, LD.fdK_f, LD.dcmK_l, LD.q_Dcm, LD.finDK_t, LD.finDK_f, LD.q_LItems, LD.itmR_r, LD.itmK_d, LD.rixK_f, LD.v_lenO, LD.v_eqQi, LD.v_neQi, LD.v_mulGi, LD.q_Ins, LD.q_App, LD.okS_t, LD.v_isLst, LD.lstK_s, LD.v_app, LD.q_Rev, LD.lsK_s, LD.q_Get, LD.getKK_s, LD.v_lsL, LD.v_keyI, LD.v_keyS, Option.isSome_some, Option.isSome_none, Option.getD_some, Option.getD_none, LD.v_eqs, LD.v_nes, LD.v_isiBb, LD.q_C, LD.q_Var, LD.q_Bin, LD.q_Un, LD.q_tOf, LD.q_tCmp, LD.q_tAnd, LD.q_tOr, LD.q_tNot, LD.q_And, LD.q_Or, LD.q_Not, LD.q_If, LD.q_Nil, LD.q_Cons, LD.q_Tup, LD.q_Lst, LD.q_LstM, LD.q_Call, LD.q_Meth, LD.q_Attr, LD.q_Blt, LD.q_Comp, LD.q_iOf, LD.srcK_s, LD.v_truB, LD.v_truL, LD.v_truN, LD.v_srcL, LD.v_neg, LD.q_iRange, LD.q_Next, LD.q_Seq, LD.q_Expr, LD.q_Ret, LD.q_RetN, LD.q_SIf, LD.q_Bk, LD.q_Ct, LD.q_Asg, LD.q_Nm, LD.q_Sub, LD.q_Del, LD.q_Fld, LD.q_Dic, LD.q_For, LD.wipeD, Bool.not_true, Bool.not_false, LD.ifT, LD.le0, LD.le1, LD.le2, LD.le3, LD.le4, LD.le5, LD.le6, LD.cmpK_l, LD.nn_n, LD.nn_i, LD.nn_t, LD.nn_l, LD.nn_r, LD.nn_b, LD.nn_s, LD.nonK_n, LD.okK_o, LD.bind_k, LD.bind_b, LD.bind_e, LD.bindS_k, LD.bindS_e, LD.ofO_s, LD.getV_s, LD.truK_s, LD.blK_b, LD.refK_r, LD.insK_i, LD.lookK_s, LD.lookK_n, LD.refS_r, LD.insS_i, LD.lookS_s, LD.seq_n, LD.seq_r, LD.seq_b, LD.seq_c, LD.seq_e, LD.storeK_s, LD.memK_s, LD.endF_n, LD.endF_r, LD.endF_e, LD.pick_t, LD.pick_f, LD.finL_f, LD.finL_t, LD.v_add, LD.v_sub, LD.v_mulR, LD.v_fdiv, LD.v_mod, LD.v_int, LD.v_lt, LD.v_le, LD.v_gt, LD.v_ge, LD.v_eq, LD.v_ne, LD.v_len, LD.v_tix, LD.v_lix, LD.v_rix, LD.rixK_l, LD.rixK_d, LD.v_isN, LD.v_isnN, LD.v_isNone, LD.v_isNoneN, LD.startD, List.length_cons, List.length_nil, List.map_cons, List.map_nil, List.cons_append, List.nil_append, List.append_nil, List.getElem?_cons_zero, List.getElem?_cons_succ, List.set_cons_zero, List.set_cons_succ, List.replicate_succ, List.replicate_zero, Nat.reduceAdd, Nat.reduceSub, Nat.reduceBEq, Int.reduceLT, Int.reduceNeg, Int.reduceLE, Nat.reduceLeDiff, Nat.reduceLT, List.lookup_cons, List.lookup_nil, beq_self_eq_true, Option.map_some, Option.map_none]
  rfl


end K68
namespace K68
open PySem PySem.Spec PyProof.Rows L2 LD
open P (Kp)
/-! ### trees -/
inductive Nd where
  | txt (x : Str)
  | el (tag : Str) (a : D) (ps : List (Str × Str)) (d : D) (ks : List Nd)
  | aw (n : D) (d : D) (ks : List Nd)
def dv : Nd → D
  | .txt x => .tup [.str "text", .str x]
  | .el tag a _ d _ => .tup [.str "element", .str tag, a, d]
  | .aw n d _ => .tup [.str "await", n, d]
def sOk (b : Nat) (x : Str) : Prop := x.length ≤ b ∧ PyData.strOk x = true
def numOk (n : D) : Prop := n = .non ∨ ∃ i : Int, n = .int i ∧ 0 ≤ i ∧ i ≤ 3000
def Ok (b : Nat) (M : Mem) : Nat → Nd → Prop
  | 0, _ => False
  | _ + 1, .txt x => sOk b x
  | h + 1, .el tag a ps d ks => sOk 6 tag ∧ lsOf M a = some (ps.map prQ) ∧ ps.length ≤ 3 ∧ (∀ p ∈ ps, sOk 6 p.1 ∧ sOk 6 p.2) ∧ lsOf M d = some (ks.map dv) ∧ ∀ k ∈ ks, Ok b M h k
  | h + 1, .aw n d ks => (numOk n ∧ lsOf M d = some (ks.map dv)) ∧ ∀ k ∈ ks, Ok b M h k
def In (P : Nat → Prop) : Nat → Nd → Prop
  | 0, _ => True
  | _ + 1, .txt _ => True
  | h + 1, .el _ a _ d ks => (∀ r, a = .ref r → P r) ∧ (∀ r, d = .ref r → P r) ∧ ∀ k ∈ ks, In P h k
  | h + 1, .aw _ d ks => (∀ r, d = .ref r → P r) ∧ ∀ k ∈ ks, In P h k
def cnt : Nat → Nd → Nat
  | 0, _ => 0
  | _ + 1, .txt _ => 1
  | h + 1, .el _ _ _ _ ks => 1 + (ks.map (cnt h)).sum
  | h + 1, .aw _ _ ks => 1 + (ks.map (cnt h)).sum
def Bare : Nat → Nd → Prop
  | 0, _ => True
  | _ + 1, .txt _ => True
  | h + 1, .el _ _ _ _ ks => ∀ k ∈ ks, Bare h k
  | _ + 1, .aw _ _ _ => False
theorem lsOf_ref {M : Mem} {r : Nat} {xs : List D} (h : lsOf M (.ref r) = some xs) : M[r]? = some (.lst xs) := by
  simp only [lsOf] at h
  split at h
  · rename_i ys e
    cases h
    exact e
  · cases h
theorem lsOf_is {M : Mem} {d : D} {xs : List D} (h : lsOf M d = some xs) : d = .lst xs ∨ ∃ r, d = .ref r ∧ M[r]? = some (.lst xs) := by
  cases d with
  | lst ys => cases h; exact .inl rfl
  | ref r => exact .inr ⟨r, rfl, lsOf_ref h⟩
  | _ => cases h
theorem ls_ext {M M' : Mem} {P : Nat → Prop} (e : ∀ (i : Nat) o, P i → M[i]? = some o → M'[i]? = some o) {d : D} {xs : List D} (h : lsOf M d = some xs) (p : ∀ r, d = .ref r → P r) : lsOf M' d = some xs := by
  rcases lsOf_is h with rfl | ⟨r, rfl, q⟩
  · rfl
  · exact v_lsR (e _ _ (p r rfl) q)
theorem Ok.ext {M M' : Mem} {P : Nat → Prop} (e : ∀ (i : Nat) o, P i → M[i]? = some o → M'[i]? = some o) : ∀ {h : Nat} {t : Nd}, Ok b M h t → In P h t → Ok b M' h t
  | 0, _, o, _ => o.elim
  | h + 1, .txt _, o, _ => o
  | h + 1, .el tag a ps d ks, o, p => ⟨o.1, ls_ext e o.2.1 p.1, o.2.2.1, o.2.2.2.1, ls_ext e o.2.2.2.2.1 p.2.1, fun k hk => Ok.ext e (o.2.2.2.2.2 k hk) (p.2.2 k hk)⟩
  | h + 1, .aw n d ks, o, p => ⟨⟨o.1.1, ls_ext e o.1.2 p.1⟩, fun k hk => Ok.ext e (o.2 k hk) (p.2 k hk)⟩
theorem In.mono {P Q : Nat → Prop} (pq : ∀ i, P i → Q i) : ∀ {h : Nat} {t : Nd}, In P h t → In Q h t
  | 0, _, _ => trivial
  | h + 1, .txt _, _ => trivial
  | h + 1, .el tag a ps d ks, p => ⟨fun r e => pq r (p.1 r e), fun r e => pq r (p.2.1 r e), fun k hk => In.mono pq (p.2.2 k hk)⟩
  | h + 1, .aw n d ks, p => ⟨fun r e => pq r (p.1 r e), fun k hk => In.mono pq (p.2 k hk)⟩
theorem short {n : Nat} (h : n ≤ 100000) : n ≤ LINE := by have := big; omega
theorem slen_app {t c : Str} : (t ++ c).length = t.length + c.length := Array.size_append
theorem strs_map : ∀ ys : List Str, strsOf (ys.map D.str) = some ys
  | [] => rfl
  | y :: ys => by
    rw [List.map_cons]
    unfold strsOf
    rw [strs_map ys] <;> rfl
theorem strOk_app {a b : Str} (h1 : PyData.strOk a = true) (h2 : PyData.strOk b = true) : PyData.strOk (a ++ b) = true := by
  unfold PyData.strOk at *
  show (a.cps ++ b.cps).all _ = true
  rw [Array.all_append, h1, h2] <;> rfl
theorem sjoin_ok : ∀ ys : List Str, (∀ y ∈ ys, y.length = 1 ∧ PyData.strOk y = true) → (Str.join "" ys).length = ys.length ∧ PyData.strOk (Str.join "" ys) = true
  | [], _ => ⟨rfl, by decide +kernel⟩
  | [y], h => h y List.mem_cons_self
  | x :: z :: r, h => by
    have ih := sjoin_ok (z :: r) fun u hu => h u (List.mem_cons_of_mem _ hu)
    have hx := h x List.mem_cons_self
    have e : Str.join "" (x :: z :: r) = x ++ "" ++ Str.join "" (z :: r) := rfl
    have h0 : ("" : Str).length = 0 := rfl
    have h00 : PyData.strOk ("" : Str) = true := by decide +kernel
    rw [e]
    refine ⟨?_, strOk_app (strOk_app hx.2 h00) ih.2⟩
    rw [slen_app, slen_app, ih.1, h0, hx.1]
    simp only [List.length_cons]
    omega
theorem tjoin_ok (ys : List Str) (h : ∀ y ∈ ys, y.length = 1 ∧ PyData.strOk y = true) : (Txt.join "" ys).length = ys.length ∧ PyData.strOk (Txt.join "" ys) = true := by
  have e : Txt.join "" ys = Str.join "" ys := by
    show Builtin.Str.glued (PySem.Str.ofString "") ys = _
    exact StrLaws.glued_eq_join _ _
  rw [e]
  exact sjoin_ok ys h
theorem sum_one : ∀ ys : List Str, (∀ y ∈ ys, y.length = 1) → (ys.map (·.length)).sum = ys.length
  | [], _ => rfl
  | y :: ys, h => by
    rw [List.map_cons, List.sum_cons, sum_one ys fun u hu => h u (List.mem_cons_of_mem _ hu), h y List.mem_cons_self, List.length_cons]
    omega
theorem join_ok {α : Sem1 (List D)} {s : DS} {M M' : Mem} {ys : List Str} (h : α s M = .ok [.lst (ys.map .str)] M') (h1 : ∀ y ∈ ys, y.length = 1) (h2 : ys.length < 1000) : eBm isStrD joinG (eC (.str "")) α s M = .ok (.str (Txt.join "" ys)) M' := by
  have e : joinG (.str "") [.lst (ys.map .str)] M' = some (.str (Txt.join "" ys), M') := by
    show (match (match tupO (.lst (ys.map .str)) with | some xs => some xs | none => lsOf M' (.lst (ys.map .str))) with | some xs => _ | none => none) = _
    show (match strsOf (ys.map .str) with | some ys => _ | none => none) = _
    rw [strs_map]
    exact if_pos (by rw [sum_one ys h1]; show _ + ys.length * 0 ≤ _; omega)
  show (α s M).bind _ = _
  rw [h]
  show ofO (joinG (.str "") [.lst (ys.map .str)] M') = _
  rw [e] <;> rfl
theorem sgn_at {d : Nat} (h : d < 14) (M : Mem) : ∃ c, ixD (.str "ab<>&\"- ;!\n=/1") (.int (d : Int)) M = some (.str ⟨#[c]⟩, M) ∧ c < 128 := by
  have hl : ("ab<>&\"- ;!\n=/1" : Str).length ≤ LINE := short (by decide)
  have e : ∀ c, atI ("ab<>&\"- ;!\n=/1" : Str).cps.toList (d : Int) = some c → ixD (.str "ab<>&\"- ;!\n=/1") (.int (d : Int)) M = some (.str ⟨#[c]⟩, M) := fun c hc => by
    show (if ("ab<>&\"- ;!\n=/1" : Str).length ≤ LINE then (atI ("ab<>&\"- ;!\n=/1" : Str).cps.toList (d : Int)).map fun c => (D.str ⟨#[c]⟩, M) else none) = _
    rw [if_pos hl, hc] <;> rfl
  have hall : ∀ d : Nat, d < 14 → ∃ c, atI ("ab<>&\"- ;!\n=/1" : Str).cps.toList (d : Int) = some c ∧ c < 128 := by
    intro d h
    have hd : d = 0 ∨ d = 1 ∨ d = 2 ∨ d = 3 ∨ d = 4 ∨ d = 5 ∨ d = 6 ∨ d = 7 ∨ d = 8 ∨ d = 9 ∨ d = 10 ∨ d = 11 ∨ d = 12 ∨ d = 13 := by omega
    rcases hd with rfl | rfl | rfl | rfl | rfl | rfl | rfl | rfl | rfl | rfl | rfl | rfl | rfl | rfl <;> exact ⟨_, rfl, by decide⟩
  obtain ⟨c, h1, h2⟩ := hall d h
  exact ⟨c, e c h1, h2⟩
theorem text_eq (r : Int) (M : Mem) : ∃ x : Str, φ__law_text [.int r] M = .ok (.str x) M ∧ x.length ≤ 5 ∧ PyData.strOk x = true := by
  have m0 := Int.emod_nonneg r (show (6 : Int) ≠ 0 by decide)
  have m1 := Int.emod_lt_of_pos r (show (0 : Int) < 6 by decide)
  obtain ⟨n, hn⟩ : ∃ n : Nat, r % 6 = (n : Int) := ⟨(r % 6).toNat, by omega⟩
  have hr : ∀ M : Mem, rngK [.int (n : Int)] M = .ok ⟨(List.range n).map fun k : Nat => D.int (k : Int), fun _ => true⟩ M := fun M => P.rng1 (j := n) (by omega) M
  have step : ∀ j : Nat, j < 6 → ∃ y : Str, (∀ x2 : D, eBin ixD (eVar 1) (eBin modD (eBlt intC (aCons (eBin fdivD (eVar 0) (eBin addD (eC (.int 3)) (eBin mulD (eC (.int 5)) (eVar 2)))) aNil)) (eC (.int 14))) [some (.int r), some (.str "ab<>&\"- ;!\n=/1"), some (.int (j : Int))] M = .ok (.str y) M) ∧ y.length = 1 ∧ PyData.strOk y = true := fun j hj => by
    obtain ⟨v, hv⟩ : ∃ v : Nat, (r / (3 + 5 * (j : Int))) % 14 = (v : Int) := ⟨((r / (3 + 5 * (j : Int))) % 14).toNat, by
      have := Int.emod_nonneg (r / (3 + 5 * (j : Int))) (show (14 : Int) ≠ 0 by decide)
      omega⟩
    have hlt := Int.emod_lt_of_pos (r / (3 + 5 * (j : Int))) (show (0 : Int) < 14 by decide)
    obtain ⟨c, hc, hc2⟩ := sgn_at (d := v) (by omega) M
    have hm : mulD (.int 5) (.int (j : Int)) M = some (.int (5 * (j : Int)), M) := P.mulk (by omega)
    have hf : fdivD (.int r) (.int (3 + 5 * (j : Int))) M = some (.int (r / (3 + 5 * (j : Int))), M) := LD.v_fdiv (by omega) (by omega)
    have hmd : modD (.int (r / (3 + 5 * (j : Int)))) (.int 14) M = some (.int (v : Int), M) := by rw [LD.v_mod (by decide), hv]
    refine ⟨⟨#[c]⟩, fun _ => ?_, rfl, by unfold PyData.strOk; simp; omega⟩
    simp only [LD.q_RaiseF, LD.raiK_1, LD.raiK_2, LD.raiK_3, LD.q_Chain, LD.chC_t, LD.chC_f, LD.q_tCh, LD.blC_t, LD.blC_f, LD.q_Aug, LD.augR_r, LD.augF_c, LD.augV_i, LD.augS_i, LD.augT_i, LD.q_Pop, LD.v_pop, LD.popK_s, LD.q_Range3, LD.q_iRev, LD.revR_t, LD.revR_l, LD.q_DicF, LD.P.q_Slice, LD.P.q_oSome, LD.P.q_oNone, LD.P.soK_i, LD.P.rix_s, LD.P.rix_fs, LD.lkG_s, LD.leG_s, LD.q_SLock, LD.q_ELock, LD.lkS_r, LD.lkE_r, LD.lockM_d, LD.unlM_f, LD.unlS_n, LD.unlS_r, LD.unlE_o, LD.nxK_s, LD.rtK_s, LD.okU_s, LD.q_iDic, LD.fdR_r, LD.fdK_f, LD.dcmK_l, LD.q_Dcm, LD.finDK_t, LD.finDK_f, LD.q_LItems, LD.itmR_r, LD.itmK_d, LD.rixK_f, LD.v_lenO, LD.v_eqQi, LD.v_neQi, LD.v_mulGi, LD.q_Ins, LD.q_App, LD.okS_t, LD.v_isLst, LD.lstK_s, LD.v_app, LD.q_Rev, LD.lsK_s, LD.q_Get, LD.getKK_s, LD.v_lsL, LD.v_keyI, LD.v_keyS, Option.isSome_some, Option.isSome_none, Option.getD_some, Option.getD_none, LD.v_eqs, LD.v_nes, LD.v_isiBb, LD.q_C, LD.q_Var, LD.q_Bin, LD.q_Un, LD.q_tOf, LD.q_tCmp, LD.q_tAnd, LD.q_tOr, LD.q_tNot, LD.q_And, LD.q_Or, LD.q_Not, LD.q_If, LD.q_Nil, LD.q_Cons, LD.q_Tup, LD.q_Lst, LD.q_LstM, LD.q_Call, LD.q_Meth, LD.q_Attr, LD.q_Blt, LD.q_Comp, LD.q_iOf, LD.srcK_s, LD.v_truB, LD.v_truL, LD.v_truN, LD.v_srcL, LD.v_neg, LD.q_iRange, LD.q_Next, LD.q_Seq, LD.q_Expr, LD.q_Ret, LD.q_RetN, LD.q_SIf, LD.q_Bk, LD.q_Ct, LD.q_Asg, LD.q_Nm, LD.q_Sub, LD.q_Del, LD.q_Fld, LD.q_Dic, LD.q_For, LD.wipeD, Bool.not_true, Bool.not_false, LD.ifT, LD.le0, LD.le1, LD.le2, LD.le3, LD.le4, LD.le5, LD.le6, LD.cmpK_l, LD.nn_n, LD.nn_i, LD.nn_t, LD.nn_l, LD.nn_r, LD.nn_b, LD.nn_s, LD.nonK_n, LD.okK_o, LD.bind_k, LD.bind_b, LD.bind_e, LD.bindS_k, LD.bindS_e, LD.ofO_s, LD.getV_s, LD.truK_s, LD.blK_b, LD.refK_r, LD.insK_i, LD.lookK_s, LD.lookK_n, LD.refS_r, LD.insS_i, LD.lookS_s, LD.seq_n, LD.seq_r, LD.seq_b, LD.seq_c, LD.seq_e, LD.storeK_s, LD.memK_s, LD.endF_n, LD.endF_r, LD.endF_e, LD.pick_t, LD.pick_f, LD.finL_f, LD.finL_t, LD.v_add, LD.v_sub, LD.v_mulR, LD.v_fdiv, LD.v_mod, LD.v_int, LD.v_lt, LD.v_le, LD.v_gt, LD.v_ge, LD.v_eq, LD.v_ne, LD.v_len, LD.v_tix, LD.v_lix, LD.v_rix, LD.rixK_l, LD.rixK_d, LD.v_isN, LD.v_isnN, LD.v_isNone, LD.v_isNoneN, LD.startD, List.length_cons, List.length_nil, List.map_cons, List.map_nil, List.cons_append, List.nil_append, List.append_nil, List.getElem?_cons_zero, List.getElem?_cons_succ, List.set_cons_zero, List.set_cons_succ, List.replicate_succ, List.replicate_zero, Nat.reduceAdd, Nat.reduceSub, Nat.reduceBEq, Int.reduceLT, Int.reduceNeg, Int.reduceLE, Nat.reduceLeDiff, Nat.reduceLT, List.lookup_cons, List.lookup_nil, beq_self_eq_true, Option.map_some, Option.map_none, hm, hf, hmd, hc]
  obtain ⟨ys, hys, hlen, hy⟩ : ∃ ys : List Str, compV (fun _ => true) (gNm 2) tTrue (eBin ixD (eVar 1) (eBin modD (eBlt intC (aCons (eBin fdivD (eVar 0) (eBin addD (eC (.int 3)) (eBin mulD (eC (.int 5)) (eVar 2)))) aNil)) (eC (.int 14)))) [some (.int r), some (.str "ab<>&\"- ;!\n=/1"), none] ((List.range n).map fun k : Nat => D.int (k : Int)) M = .ok (ys.map .str) M ∧ ys.length = n ∧ ∀ y ∈ ys, y.length = 1 ∧ PyData.strOk y = true := by
    have go : ∀ ks : List Nat, (∀ k ∈ ks, k < 6) → ∃ ys : List Str, compV (fun _ => true) (gNm 2) tTrue (eBin ixD (eVar 1) (eBin modD (eBlt intC (aCons (eBin fdivD (eVar 0) (eBin addD (eC (.int 3)) (eBin mulD (eC (.int 5)) (eVar 2)))) aNil)) (eC (.int 14)))) [some (.int r), some (.str "ab<>&\"- ;!\n=/1"), none] (ks.map fun k : Nat => D.int (k : Int)) M = .ok (ys.map .str) M ∧ ys.length = ks.length ∧ ∀ y ∈ ys, y.length = 1 ∧ PyData.strOk y = true := by
      intro ks
      induction ks with
      | nil => exact fun _ => ⟨[], P.compV_n rfl, rfl, fun _ h => nomatch h⟩
      | cons k ks ih =>
        intro h
        obtain ⟨ys, e, l, q⟩ := ih fun j hj => h j (List.mem_cons_of_mem _ hj)
        obtain ⟨y, e1, l1, o1⟩ := step k (h k List.mem_cons_self)
        refine ⟨y :: ys, ?_, by rw [List.length_cons, List.length_cons, l], fun u hu => ?_⟩
        · rw [List.map_cons, P.compV_c (s1 := [some (.int r), some (.str "ab<>&\"- ;!\n=/1"), some (.int (k : Int))]) (y := .str y) (M2 := M) rfl rfl (e1 .non), e] <;> rfl
        · rcases List.mem_cons.mp hu with rfl | hu
          · exact ⟨l1, o1⟩
          · exact q u hu
    obtain ⟨ys, e, l, q⟩ := go (List.range n) fun k hk => by have := List.mem_range.mp hk; omega
    exact ⟨ys, e, by rw [l, List.length_range], q⟩
  have hj := tjoin_ok ys hy
  have hll : ((List.range n).map fun k : Nat => D.int (k : Int)).length ≤ LINE := by rw [List.length_map, List.length_range]; exact short (by omega)
  have hn6 : modD (.int r) (.int 6) M = some (.int (n : Int), M) := by rw [LD.v_mod (by decide), hn]
  have hb := join_ok (α := aCons (eComp false (iRange (aCons (eBin modD (eBlt intC (aCons (eVar 0) aNil)) (eC (.int 6))) aNil)) (gNm 2) tTrue (eBin ixD (eVar 1) (eBin modD (eBlt intC (aCons (eBin fdivD (eVar 0) (eBin addD (eC (.int 3)) (eBin mulD (eC (.int 5)) (eVar 2)))) aNil)) (eC (.int 14)))) [2]) aNil) (s := [some (.int r), some (.str "ab<>&\"- ;!\n=/1"), none]) (M := M) (M' := M) (ys := ys) (by
    simp only [LD.q_RaiseF, LD.raiK_1, LD.raiK_2, LD.raiK_3, LD.q_Chain, LD.chC_t, LD.chC_f, LD.q_tCh, LD.blC_t, LD.blC_f, LD.q_Aug, LD.augR_r, LD.augF_c, LD.augV_i, LD.augS_i, LD.augT_i, LD.q_Pop, LD.v_pop, LD.popK_s, LD.q_Range3, LD.q_iRev, LD.revR_t, LD.revR_l, LD.q_DicF, LD.P.q_Slice, LD.P.q_oSome, LD.P.q_oNone, LD.P.soK_i, LD.P.rix_s, LD.P.rix_fs, LD.lkG_s, LD.leG_s, LD.q_SLock, LD.q_ELock, LD.lkS_r, LD.lkE_r, LD.lockM_d, LD.unlM_f, LD.unlS_n, LD.unlS_r, LD.unlE_o, LD.nxK_s, LD.rtK_s, LD.okU_s, LD.q_iDic, LD.fdR_r, LD.fdK_f, LD.dcmK_l, LD.q_Dcm, LD.finDK_t, LD.finDK_f, LD.q_LItems, LD.itmR_r, LD.itmK_d, LD.rixK_f, LD.v_lenO, LD.v_eqQi, LD.v_neQi, LD.v_mulGi, LD.q_Ins, LD.q_App, LD.okS_t, LD.v_isLst, LD.lstK_s, LD.v_app, LD.q_Rev, LD.lsK_s, LD.q_Get, LD.getKK_s, LD.v_lsL, LD.v_keyI, LD.v_keyS, Option.isSome_some, Option.isSome_none, Option.getD_some, Option.getD_none, LD.v_eqs, LD.v_nes, LD.v_isiBb, LD.q_C, LD.q_Var, LD.q_Bin, LD.q_Un, LD.q_tOf, LD.q_tCmp, LD.q_tAnd, LD.q_tOr, LD.q_tNot, LD.q_And, LD.q_Or, LD.q_Not, LD.q_If, LD.q_Nil, LD.q_Cons, LD.q_Tup, LD.q_Lst, LD.q_LstM, LD.q_Call, LD.q_Meth, LD.q_Attr, LD.q_Blt, LD.q_Comp, LD.q_iOf, LD.srcK_s, LD.v_truB, LD.v_truL, LD.v_truN, LD.v_srcL, LD.v_neg, LD.q_iRange, LD.q_Next, LD.q_Seq, LD.q_Expr, LD.q_Ret, LD.q_RetN, LD.q_SIf, LD.q_Bk, LD.q_Ct, LD.q_Asg, LD.q_Nm, LD.q_Sub, LD.q_Del, LD.q_Fld, LD.q_Dic, LD.q_For, LD.wipeD, Bool.not_true, Bool.not_false, LD.ifT, LD.le0, LD.le1, LD.le2, LD.le3, LD.le4, LD.le5, LD.le6, LD.cmpK_l, LD.nn_n, LD.nn_i, LD.nn_t, LD.nn_l, LD.nn_r, LD.nn_b, LD.nn_s, LD.nonK_n, LD.okK_o, LD.bind_k, LD.bind_b, LD.bind_e, LD.bindS_k, LD.bindS_e, LD.ofO_s, LD.getV_s, LD.truK_s, LD.blK_b, LD.refK_r, LD.insK_i, LD.lookK_s, LD.lookK_n, LD.refS_r, LD.insS_i, LD.lookS_s, LD.seq_n, LD.seq_r, LD.seq_b, LD.seq_c, LD.seq_e, LD.storeK_s, LD.memK_s, LD.endF_n, LD.endF_r, LD.endF_e, LD.pick_t, LD.pick_f, LD.finL_f, LD.finL_t, LD.v_add, LD.v_sub, LD.v_mulR, LD.v_fdiv, LD.v_mod, LD.v_int, LD.v_lt, LD.v_le, LD.v_gt, LD.v_ge, LD.v_eq, LD.v_ne, LD.v_len, LD.v_tix, LD.v_lix, LD.v_rix, LD.rixK_l, LD.rixK_d, LD.v_isN, LD.v_isnN, LD.v_isNone, LD.v_isNoneN, LD.startD, List.length_cons, List.length_nil, List.map_cons, List.map_nil, List.cons_append, List.nil_append, List.append_nil, List.getElem?_cons_zero, List.getElem?_cons_succ, List.set_cons_zero, List.set_cons_succ, List.replicate_succ, List.replicate_zero, Nat.reduceAdd, Nat.reduceSub, Nat.reduceBEq, Int.reduceLT, Int.reduceNeg, Int.reduceLE, Nat.reduceLeDiff, Nat.reduceLT, List.lookup_cons, List.lookup_nil, beq_self_eq_true, Option.map_some, Option.map_none, hn6, hr, cmpK_l hll, hys, finL_f]) (fun y h => (hy y h).1) (by omega)
  refine ⟨Txt.join "" ys, ?_, by rw [hj.1]; omega, hj.2⟩
  unfold φ__law_text
  refine run_def rfl ?_
  unfold ψ__law_text
  simp only [LD.q_RaiseF, LD.raiK_1, LD.raiK_2, LD.raiK_3, LD.q_Chain, LD.chC_t, LD.chC_f, LD.q_tCh, LD.blC_t, LD.blC_f, LD.q_Aug, LD.augR_r, LD.augF_c, LD.augV_i, LD.augS_i, LD.augT_i, LD.q_Pop, LD.v_pop, LD.popK_s, LD.q_Range3, LD.q_iRev, LD.revR_t, LD.revR_l, LD.q_DicF, LD.P.q_Slice, LD.P.q_oSome, LD.P.q_oNone, LD.P.soK_i, LD.P.rix_s, LD.P.rix_fs, LD.lkG_s, LD.leG_s, LD.q_SLock, LD.q_ELock, LD.lkS_r, LD.lkE_r, LD.lockM_d, LD.unlM_f, LD.unlS_n, LD.unlS_r, LD.unlE_o, LD.nxK_s, LD.rtK_s, LD.okU_s, LD.q_iDic, LD.fdR_r, LD.fdK_f, LD.dcmK_l, LD.q_Dcm, LD.finDK_t, LD.finDK_f, LD.q_LItems, LD.itmR_r, LD.itmK_d, LD.rixK_f, LD.v_lenO, LD.v_eqQi, LD.v_neQi, LD.v_mulGi, LD.q_Ins, LD.q_App, LD.okS_t, LD.v_isLst, LD.lstK_s, LD.v_app, LD.q_Rev, LD.lsK_s, LD.q_Get, LD.getKK_s, LD.v_lsL, LD.v_keyI, LD.v_keyS, Option.isSome_some, Option.isSome_none, Option.getD_some, Option.getD_none, LD.v_eqs, LD.v_nes, LD.v_isiBb, LD.q_C, LD.q_Var, LD.q_Bin, LD.q_Un, LD.q_tOf, LD.q_tCmp, LD.q_tAnd, LD.q_tOr, LD.q_tNot, LD.q_And, LD.q_Or, LD.q_Not, LD.q_If, LD.q_Nil, LD.q_Cons, LD.q_Tup, LD.q_Lst, LD.q_LstM, LD.q_Call, LD.q_Meth, LD.q_Attr, LD.q_Blt, LD.q_Comp, LD.q_iOf, LD.srcK_s, LD.v_truB, LD.v_truL, LD.v_truN, LD.v_srcL, LD.v_neg, LD.q_iRange, LD.q_Next, LD.q_Seq, LD.q_Expr, LD.q_Ret, LD.q_RetN, LD.q_SIf, LD.q_Bk, LD.q_Ct, LD.q_Asg, LD.q_Nm, LD.q_Sub, LD.q_Del, LD.q_Fld, LD.q_Dic, LD.q_For, LD.wipeD, Bool.not_true, Bool.not_false, LD.ifT, LD.le0, LD.le1, LD.le2, LD.le3, LD.le4, LD.le5, LD.le6, LD.cmpK_l, LD.nn_n, LD.nn_i, LD.nn_t, LD.nn_l, LD.nn_r, LD.nn_b, LD.nn_s, LD.nonK_n, LD.okK_o, LD.bind_k, LD.bind_b, LD.bind_e, LD.bindS_k, LD.bindS_e, LD.ofO_s, LD.getV_s, LD.truK_s, LD.blK_b, LD.refK_r, LD.insK_i, LD.lookK_s, LD.lookK_n, LD.refS_r, LD.insS_i, LD.lookS_s, LD.seq_n, LD.seq_r, LD.seq_b, LD.seq_c, LD.seq_e, LD.storeK_s, LD.memK_s, LD.endF_n, LD.endF_r, LD.endF_e, LD.pick_t, LD.pick_f, LD.finL_f, LD.finL_t, LD.v_add, LD.v_sub, LD.v_mulR, LD.v_fdiv, LD.v_mod, LD.v_int, LD.v_lt, LD.v_le, LD.v_gt, LD.v_ge, LD.v_eq, LD.v_ne, LD.v_len, LD.v_tix, LD.v_lix, LD.v_rix, LD.rixK_l, LD.rixK_d, LD.v_isN, LD.v_isnN, LD.v_isNone, LD.v_isNoneN, LD.startD, List.length_cons, List.length_nil, List.map_cons, List.map_nil, List.cons_append, List.nil_append, List.append_nil, List.getElem?_cons_zero, List.getElem?_cons_succ, List.set_cons_zero, List.set_cons_succ, List.replicate_succ, List.replicate_zero, Nat.reduceAdd, Nat.reduceSub, Nat.reduceBEq, Int.reduceLT, Int.reduceNeg, Int.reduceLE, Nat.reduceLeDiff, Nat.reduceLT, List.lookup_cons, List.lookup_nil, beq_self_eq_true, Option.map_some, Option.map_none, hb]
theorem word_eq (r : Int) (M : Mem) : ∃ x : Str, φ__law_word [.int r] M = .ok (.str x) M ∧ sOk 6 x := by
  have m0 := Int.emod_nonneg r (show (6 : Int) ≠ 0 by decide)
  have m1 := Int.emod_lt_of_pos r (show (0 : Int) < 6 by decide)
  obtain ⟨n, hn⟩ : ∃ n : Nat, r % 6 = (n : Int) := ⟨(r % 6).toNat, by omega⟩
  have hn6 : modD (.int r) (.int 6) M = some (.int (n : Int), M) := by rw [LD.v_mod (by decide), hn]
  obtain ⟨x, hx, ok⟩ : ∃ x : Str, atI [D.str "a", .str "p", .str "li", .str "x-1", .str "b2", .str "span"] (n : Int) = some (.str x) ∧ sOk 6 x := by
    have hd : n = 0 ∨ n = 1 ∨ n = 2 ∨ n = 3 ∨ n = 4 ∨ n = 5 := by omega
    rcases hd with rfl | rfl | rfl | rfl | rfl | rfl <;> exact ⟨_, rfl, by decide, by decide +kernel⟩
  refine ⟨x, ?_, ok⟩
  unfold φ__law_word
  refine run_def rfl ?_
  unfold ψ__law_word
  simp only [LD.q_RaiseF, LD.raiK_1, LD.raiK_2, LD.raiK_3, LD.q_Chain, LD.chC_t, LD.chC_f, LD.q_tCh, LD.blC_t, LD.blC_f, LD.q_Aug, LD.augR_r, LD.augF_c, LD.augV_i, LD.augS_i, LD.augT_i, LD.q_Pop, LD.v_pop, LD.popK_s, LD.q_Range3, LD.q_iRev, LD.revR_t, LD.revR_l, LD.q_DicF, LD.P.q_Slice, LD.P.q_oSome, LD.P.q_oNone, LD.P.soK_i, LD.P.rix_s, LD.P.rix_fs, LD.lkG_s, LD.leG_s, LD.q_SLock, LD.q_ELock, LD.lkS_r, LD.lkE_r, LD.lockM_d, LD.unlM_f, LD.unlS_n, LD.unlS_r, LD.unlE_o, LD.nxK_s, LD.rtK_s, LD.okU_s, LD.q_iDic, LD.fdR_r, LD.fdK_f, LD.dcmK_l, LD.q_Dcm, LD.finDK_t, LD.finDK_f, LD.q_LItems, LD.itmR_r, LD.itmK_d, LD.rixK_f, LD.v_lenO, LD.v_eqQi, LD.v_neQi, LD.v_mulGi, LD.q_Ins, LD.q_App, LD.okS_t, LD.v_isLst, LD.lstK_s, LD.v_app, LD.q_Rev, LD.lsK_s, LD.q_Get, LD.getKK_s, LD.v_lsL, LD.v_keyI, LD.v_keyS, Option.isSome_some, Option.isSome_none, Option.getD_some, Option.getD_none, LD.v_eqs, LD.v_nes, LD.v_isiBb, LD.q_C, LD.q_Var, LD.q_Bin, LD.q_Un, LD.q_tOf, LD.q_tCmp, LD.q_tAnd, LD.q_tOr, LD.q_tNot, LD.q_And, LD.q_Or, LD.q_Not, LD.q_If, LD.q_Nil, LD.q_Cons, LD.q_Tup, LD.q_Lst, LD.q_LstM, LD.q_Call, LD.q_Meth, LD.q_Attr, LD.q_Blt, LD.q_Comp, LD.q_iOf, LD.srcK_s, LD.v_truB, LD.v_truL, LD.v_truN, LD.v_srcL, LD.v_neg, LD.q_iRange, LD.q_Next, LD.q_Seq, LD.q_Expr, LD.q_Ret, LD.q_RetN, LD.q_SIf, LD.q_Bk, LD.q_Ct, LD.q_Asg, LD.q_Nm, LD.q_Sub, LD.q_Del, LD.q_Fld, LD.q_Dic, LD.q_For, LD.wipeD, Bool.not_true, Bool.not_false, LD.ifT, LD.le0, LD.le1, LD.le2, LD.le3, LD.le4, LD.le5, LD.le6, LD.cmpK_l, LD.nn_n, LD.nn_i, LD.nn_t, LD.nn_l, LD.nn_r, LD.nn_b, LD.nn_s, LD.nonK_n, LD.okK_o, LD.bind_k, LD.bind_b, LD.bind_e, LD.bindS_k, LD.bindS_e, LD.ofO_s, LD.getV_s, LD.truK_s, LD.blK_b, LD.refK_r, LD.insK_i, LD.lookK_s, LD.lookK_n, LD.refS_r, LD.insS_i, LD.lookS_s, LD.seq_n, LD.seq_r, LD.seq_b, LD.seq_c, LD.seq_e, LD.storeK_s, LD.memK_s, LD.endF_n, LD.endF_r, LD.endF_e, LD.pick_t, LD.pick_f, LD.finL_f, LD.finL_t, LD.v_add, LD.v_sub, LD.v_mulR, LD.v_fdiv, LD.v_mod, LD.v_int, LD.v_lt, LD.v_le, LD.v_gt, LD.v_ge, LD.v_eq, LD.v_ne, LD.v_len, LD.v_tix, LD.v_lix, LD.v_rix, LD.rixK_l, LD.rixK_d, LD.v_isN, LD.v_isnN, LD.v_isNone, LD.v_isNoneN, LD.startD, List.length_cons, List.length_nil, List.map_cons, List.map_nil, List.cons_append, List.nil_append, List.append_nil, List.getElem?_cons_zero, List.getElem?_cons_succ, List.set_cons_zero, List.set_cons_succ, List.replicate_succ, List.replicate_zero, Nat.reduceAdd, Nat.reduceSub, Nat.reduceBEq, Int.reduceLT, Int.reduceNeg, Int.reduceLE, Nat.reduceLeDiff, Nat.reduceLT, List.lookup_cons, List.lookup_nil, beq_self_eq_true, Option.map_some, Option.map_none, hn6, hx]
end K68
namespace K68
open PySem PySem.Spec PyProof.Rows L2 LD
open P (Kp)
/-! ### the drawn tree -/
def wd (A B C : Int) : List (Key × D) := [(.inr "at", .int A), (.inr "most", .int B), (.inr "number", .int C)]
def Wd (M : Mem) (w : Nat) : Prop := ∃ A B C : Int, M[w]? = some (.dic (wd A B C)) ∧ 0 ≤ C ∧ C ≤ 3 * A ∧ B ≤ 1000
theorem wd_at {A B C : Int} {M : Mem} {w : Nat} (h : M[w]? = some (.dic (wd A B C))) (N : Mem) : rixK M[w]? (.str "at") N = some (.int A, N) := by rw [h] <;> rfl
theorem wd_most {A B C : Int} {M : Mem} {w : Nat} (h : M[w]? = some (.dic (wd A B C))) (N : Mem) : rixK M[w]? (.str "most") N = some (.int B, N) := by rw [h] <;> rfl
theorem wd_num {A B C : Int} {M : Mem} {w : Nat} (h : M[w]? = some (.dic (wd A B C))) (N : Mem) : rixK M[w]? (.str "number") N = some (.int C, N) := by rw [h] <;> rfl
theorem set_at' {A B C A' : Int} {M : Mem} {w : Nat} (h : M[w]? = some (.dic (wd A B C))) : setD (.ref w) (.str "at") (.int A') M = some (M.set w (.dic (wd A' B C))) := by
  rw [P.sub_old h (by show 3 < 100000; decide) (List.any_eq_true.mpr ⟨(.inr "at", .int A), by simp [wd], decide_eq_true rfl⟩)] <;> rfl
theorem set_num {A B C C' : Int} {M : Mem} {w : Nat} (h : M[w]? = some (.dic (wd A B C))) : setD (.ref w) (.str "number") (.int C') M = some (M.set w (.dic (wd A B C'))) := by
  rw [P.sub_old h (by show 3 < 100000; decide) (List.any_eq_true.mpr ⟨(.inr "number", .int C), by simp [wd], decide_eq_true rfl⟩)] <;> rfl
def Rw (M : Mem) (ρ : Nat) : Prop := ∃ rs : List Int, M[ρ]? = some (.lst (rs.map D.int)) ∧ rs.length = 60
theorem row_at {M : Mem} {ρ : Nat} (h : Rw M ρ) (A : Int) : ∃ (v : Int), ∀ N : Mem, rixK M[ρ]? (.int (A % 60)) N = some (.int v, N) := by
  obtain ⟨rs, h1, h2⟩ := h
  have m0 := Int.emod_nonneg A (show (60 : Int) ≠ 0 by decide)
  have m1 := Int.emod_lt_of_pos A (show (0 : Int) < 60 by decide)
  obtain ⟨n, hn⟩ : ∃ n : Nat, A % 60 = (n : Int) := ⟨(A % 60).toNat, by omega⟩
  have hl : n < rs.length := by omega
  refine ⟨rs[n], fun N => ?_⟩
  rw [hn, h1, rixK_l, atN (n := n) (x := D.int rs[n]) (by rw [List.getElem?_map, List.getElem?_eq_getElem hl] <;> rfl)] <;> rfl
theorem row_len {M : Mem} {ρ : Nat} (h : Rw M ρ) : lenC [.ref ρ] M = some (.int 60, M) := by
  obtain ⟨rs, h1, h2⟩ := h
  rw [v_lenR h1, List.length_map, h2] <;> rfl
/-- all cells but two stay -/
def Fr (w p : Nat) (M M' : Mem) : Prop := ∀ (i : Nat) o, i ≠ w → i ≠ p → M[i]? = some o → M'[i]? = some o
theorem Fr.refl {w p : Nat} {M : Mem} : Fr w p M M := fun _ _ _ _ h => h
theorem Fr.trans {w p : Nat} {M M' M'' : Mem} (a : Fr w p M M') (b : Fr w p M' M'') : Fr w p M M'' := fun i o n1 n2 h => b i o n1 n2 (a i o n1 n2 h)
theorem Fr.set {w p : Nat} {M : Mem} {o : DO} : Fr w p M (M.set p o) := fun i u n1 n2 h => by rw [P.set_at n2.symm]; exact h
theorem Fr.setw {w p : Nat} {M : Mem} {o : DO} : Fr w p M (M.set w o) := fun i u n1 n2 h => by rw [P.set_at n1.symm]; exact h
theorem Fr.app {w p : Nat} {M X : Mem} : Fr w p M (M ++ X) := fun i u n1 n2 h => P.grow h
theorem Fr.kp {w p : Nat} {M M' : Mem} (k : Kp w M M') : Fr w p M M' := fun i o n1 _ h => k i o n1 h
theorem Fr.ok {w p h : Nat} {M M' : Mem} {t : Nd} (f : Fr w p M M') (o : Ok b M h t) (i : In (fun i => i ≠ w ∧ i ≠ p) h t) : Ok b M' h t := Ok.ext (P := fun i => i ≠ w ∧ i ≠ p) (fun i o n q => f i o n.1 n.2 q) o i
theorem Fr.rw {w p ρ : Nat} {M M' : Mem} (f : Fr w p M M') (h : Rw M ρ) (h1 : ρ ≠ w) (h2 : ρ ≠ p) : Rw M' ρ := by
  obtain ⟨rs, a, b⟩ := h
  exact ⟨rs, f _ _ h1 h2 a, b⟩
theorem mulk' {p : Int} {k : Nat} {M : Mem} (hk : k < 1000) : mulD (.int (k : Int)) (.int p) M = some (.int (k * p), M) := v_mul (by
  have : small (k : Int) = true := small_iff.mpr ⟨by omega, by omega⟩
  rw [this, Bool.true_or])
theorem attr_loop {φr : FnD} {w q : Nat} {row : Int} {x0 x1 x2 x3 x4 x6 x10 x11 : Option D} : ∀ (js : List Nat) (M : Mem) (ps : List (Str × Str)) (x8 x9 : Option D), M[q]? = some (.lst (ps.map prQ)) → ps.length + js.length ≤ 2 → (∀ j ∈ js, j < 3) → (∀ p ∈ ps, sOk 6 p.1 ∧ sOk 6 p.2) →
    ∃ (M' : Mem) (qs : List (Str × Str)) (y8 y9 : Option D), forV (fun _ => true) (gNm 8) (β__law_tree_12 φr) (js.map fun k : Nat => D.int (k : Int)) [x0, x1, x2, x3, x4, some (.int row), x6, some (.ref q), x8, x9, x10, x11] M = .nx [x0, x1, x2, x3, x4, some (.int row), x6, some (.ref q), y8, y9, x10, x11] M' ∧ M' = M.set q (.lst (qs.map prQ)) ∧ qs.length ≤ 2 ∧ ∀ p ∈ qs, sOk 6 p.1 ∧ sOk 6 p.2
  | [], M, ps, x8, x9, hM, hl, _, hp => ⟨M, ps, x8, x9, forV_n rfl, (P.set_self hM).symm, by simpa using hl, hp⟩
  | j :: js, M, ps, x8, x9, hM, hl, hj, hp => by
    rw [List.length_cons] at hl
    have hj3 := hj j List.mem_cons_self
    obtain ⟨v, hv⟩ : ∃ v : Nat, (row / 18 + (j : Int)) % 3 = (v : Int) := ⟨((row / 18 + (j : Int)) % 3).toNat, by
      have := Int.emod_nonneg (row / 18 + (j : Int)) (show (3 : Int) ≠ 0 by decide)
      omega⟩
    have hlt := Int.emod_lt_of_pos (row / 18 + (j : Int)) (show (0 : Int) < 3 by decide)
    obtain ⟨nm, hnm, hno⟩ : ∃ x : Str, atI [D.str "n", .str "v-2", .str "data"] (v : Int) = some (.str x) ∧ sOk 6 x := by
      have hd : v = 0 ∨ v = 1 ∨ v = 2 := by omega
      rcases hd with rfl | rfl | rfl <;> exact ⟨_, rfl, by decide, by decide +kernel⟩
    have hm : modD (.int (row / 18 + (j : Int))) (.int 3) M = some (.int (v : Int), M) := by rw [LD.v_mod (by decide), hv]
    have hml : mulD (.int 7) (.int (j : Int)) M = some (.int (7 * (j : Int)), M) := P.mulk (by omega)
    have hf : fdivD (.int row) (.int (31 + 7 * (j : Int))) M = some (.int (row / (31 + 7 * (j : Int))), M) := LD.v_fdiv (by omega) (by omega)
    obtain ⟨x, hx, hx1, hx2⟩ := text_eq (row / (31 + 7 * (j : Int))) M
    have hll : (ps.map prQ).length < LINE := by rw [List.length_map]; have := big; omega
    have hset : (M.set q (.lst (ps.map prQ ++ [.tup [.str nm, .str x]])))[q]? = some (.lst ((ps ++ [(nm, x)]).map prQ)) := by rw [P.set_is hM, List.map_append] <;> rfl
    obtain ⟨M', qs, y8, y9, e, g1, g2, g3⟩ := attr_loop (φr := φr) (w := w) (row := row) (x0 := x0) (x1 := x1) (x2 := x2) (x3 := x3) (x4 := x4) (x6 := x6) (x10 := x10) (x11 := x11) js _ (ps ++ [(nm, x)]) (some (.int (j : Int))) (some (.str nm)) hset (by rw [List.length_append, List.length_singleton]; omega) (fun i hi => hj i (List.mem_cons_of_mem _ hi)) (fun p hp' => by
      rcases List.mem_append.mp hp' with h | h
      · exact hp p h
      · rw [List.mem_singleton.mp h]; exact ⟨hno, Nat.le_trans hx1 (by decide), hx2⟩)
    refine ⟨M', qs, y8, y9, ?_, by rw [g1, List.set_set], g2, g3⟩
    rw [List.map_cons]
    refine (forV_c (s1 := [x0, x1, x2, x3, x4, some (.int row), x6, some (.ref q), some (.int (j : Int)), x9, x10, x11]) (s2 := [x0, x1, x2, x3, x4, some (.int row), x6, some (.ref q), some (.int (j : Int)), some (.str nm), x10, x11]) (M2 := M.set q (.lst (ps.map prQ ++ [.tup [.str nm, .str x]]))) rfl rfl ?_).trans e
    unfold β__law_tree_12
    simp only [LD.q_RaiseF, LD.raiK_1, LD.raiK_2, LD.raiK_3, LD.q_Chain, LD.chC_t, LD.chC_f, LD.q_tCh, LD.blC_t, LD.blC_f, LD.q_Aug, LD.augR_r, LD.augF_c, LD.augV_i, LD.augS_i, LD.augT_i, LD.q_Pop, LD.v_pop, LD.popK_s, LD.q_Range3, LD.q_iRev, LD.revR_t, LD.revR_l, LD.q_DicF, LD.P.q_Slice, LD.P.q_oSome, LD.P.q_oNone, LD.P.soK_i, LD.P.rix_s, LD.P.rix_fs, LD.lkG_s, LD.leG_s, LD.q_SLock, LD.q_ELock, LD.lkS_r, LD.lkE_r, LD.lockM_d, LD.unlM_f, LD.unlS_n, LD.unlS_r, LD.unlE_o, LD.nxK_s, LD.rtK_s, LD.okU_s, LD.q_iDic, LD.fdR_r, LD.fdK_f, LD.dcmK_l, LD.q_Dcm, LD.finDK_t, LD.finDK_f, LD.q_LItems, LD.itmR_r, LD.itmK_d, LD.rixK_f, LD.v_lenO, LD.v_eqQi, LD.v_neQi, LD.v_mulGi, LD.q_Ins, LD.q_App, LD.okS_t, LD.v_isLst, LD.lstK_s, LD.v_app, LD.q_Rev, LD.lsK_s, LD.q_Get, LD.getKK_s, LD.v_lsL, LD.v_keyI, LD.v_keyS, Option.isSome_some, Option.isSome_none, Option.getD_some, Option.getD_none, LD.v_eqs, LD.v_nes, LD.v_isiBb, LD.q_C, LD.q_Var, LD.q_Bin, LD.q_Un, LD.q_tOf, LD.q_tCmp, LD.q_tAnd, LD.q_tOr, LD.q_tNot, LD.q_And, LD.q_Or, LD.q_Not, LD.q_If, LD.q_Nil, LD.q_Cons, LD.q_Tup, LD.q_Lst, LD.q_LstM, LD.q_Call, LD.q_Meth, LD.q_Attr, LD.q_Blt, LD.q_Comp, LD.q_iOf, LD.srcK_s, LD.v_truB, LD.v_truL, LD.v_truN, LD.v_srcL, LD.v_neg, LD.q_iRange, LD.q_Next, LD.q_Seq, LD.q_Expr, LD.q_Ret, LD.q_RetN, LD.q_SIf, LD.q_Bk, LD.q_Ct, LD.q_Asg, LD.q_Nm, LD.q_Sub, LD.q_Del, LD.q_Fld, LD.q_Dic, LD.q_For, LD.wipeD, Bool.not_true, Bool.not_false, LD.ifT, LD.le0, LD.le1, LD.le2, LD.le3, LD.le4, LD.le5, LD.le6, LD.cmpK_l, LD.nn_n, LD.nn_i, LD.nn_t, LD.nn_l, LD.nn_r, LD.nn_b, LD.nn_s, LD.nonK_n, LD.okK_o, LD.bind_k, LD.bind_b, LD.bind_e, LD.bindS_k, LD.bindS_e, LD.ofO_s, LD.getV_s, LD.truK_s, LD.blK_b, LD.refK_r, LD.insK_i, LD.lookK_s, LD.lookK_n, LD.refS_r, LD.insS_i, LD.lookS_s, LD.seq_n, LD.seq_r, LD.seq_b, LD.seq_c, LD.seq_e, LD.storeK_s, LD.memK_s, LD.endF_n, LD.endF_r, LD.endF_e, LD.pick_t, LD.pick_f, LD.finL_f, LD.finL_t, LD.v_add, LD.v_sub, LD.v_mulR, LD.v_fdiv, LD.v_mod, LD.v_int, LD.v_lt, LD.v_le, LD.v_gt, LD.v_ge, LD.v_eq, LD.v_ne, LD.v_len, LD.v_tix, LD.v_lix, LD.v_rix, LD.rixK_l, LD.rixK_d, LD.v_isN, LD.v_isnN, LD.v_isNone, LD.v_isNoneN, LD.startD, List.length_cons, List.length_nil, List.map_cons, List.map_nil, List.cons_append, List.nil_append, List.append_nil, List.getElem?_cons_zero, List.getElem?_cons_succ, List.set_cons_zero, List.set_cons_succ, List.replicate_succ, List.replicate_zero, Nat.reduceAdd, Nat.reduceSub, Nat.reduceBEq, Int.reduceLT, Int.reduceNeg, Int.reduceLE, Nat.reduceLeDiff, Nat.reduceLT, List.lookup_cons, List.lookup_nil, beq_self_eq_true, Option.map_some, Option.map_none, hm, hnm, hml, hf, hx, hM, appK_s hll]
def cb : Nat → Nat
  | 0 => 0
  | r + 1 => 3 * (1 + cb r)
def Gt (ρ w r : Nat) (φr : FnD) : Prop := ∀ (δ : Nat) (M : Mem), δ ≤ 6 → δ + r = 7 → Wd M w → Rw M ρ → ρ ≠ w → ∃ (ks : List Nd) (M' : Mem) (p : Nat), φr [.ref ρ, .ref w, .int (δ : Int)] M = .ok (.ref p) M' ∧ Wd M' w ∧ Kp w M M' ∧ M'[p]? = some (.lst (ks.map dv)) ∧ M.length ≤ p ∧ (∀ k ∈ ks, Ok 5 M' r k ∧ In (fun i => p < i ∧ i < M'.length) r k) ∧ (ks.map (cnt r)).sum ≤ cb r ∧ ks.length ≤ 3
theorem wd_len {M : Mem} {w : Nat} (h : Wd M w) : w < M.length := by
  obtain ⟨A, B, C, h, _⟩ := h
  exact P.lt_of h
theorem kp_len {w : Nat} {M M' : Mem} (k : Kp w M M') (h : Wd M' w) : M.length ≤ M'.length := by
  have hs := wd_len h
  rcases Nat.eq_zero_or_pos M.length with q | q
  · omega
  · by_cases e : M.length - 1 = w
    · omega
    · have := P.lt_of (k _ _ e (List.getElem?_eq_getElem (by omega : M.length - 1 < M.length)))
      omega
theorem isLst_r {M : Mem} {r : Nat} {xs : List D} (h : M[r]? = some (.lst xs)) : isLst M (.ref r) = true := by
  unfold isLst
  rw [v_lsR h] <;> rfl
end K68
namespace K68
open PySem PySem.Spec PyProof.Rows L2 LD
open P (Kp)
/-- a list under the making gets one more -/
theorem app_end {M : Mem} {p : Nat} {ns : List Nd} {nd : Nd} (hp : M[p]? = some (.lst (ns.map dv))) : (M.set p (.lst (ns.map dv ++ [dv nd])))[p]? = some (.lst ((ns ++ [nd]).map dv)) := by
  rw [P.set_is hp, List.map_append] <;> rfl
def Out (ρ w p r : Nat) (ns : List Nd) (M : Mem) (φ : RS) (st : List (Option D)) : Prop := ∃ (y : List (Option D)) (M' : Mem), y.length = 7 ∧ Wd M' w ∧ Fr w p M M' ∧ M.length ≤ M'.length ∧ ((φ = .bk (st ++ y) M' ∧ M'[p]? = some (.lst (ns.map dv))) ∨ (∃ nd : Nd, φ = .nx (st ++ y) M' ∧ M'[p]? = some (.lst ((ns ++ [nd]).map dv)) ∧ Ok 5 M' (r + 1) nd ∧ In (fun i => p < i ∧ i < M'.length) (r + 1) nd ∧ cnt (r + 1) nd ≤ 1 + cb r))
theorem tree_body {ρ w p r δ : Nat} {φr : FnD} (ih : Gt ρ w r φr) (hδ : δ + (r + 1) = 7) (h1 : ρ ≠ w) (h2 : w < p) (h3 : ρ < p) {M : Mem} {ns : List Nd} (hw : Wd M w) (hr : Rw M ρ) (hp : M[p]? = some (.lst (ns.map dv))) (hl : ns.length ≤ 3) (x4 x5 x6 x7 x8 x9 x10 x11 : Option D) :
    Out ρ w p r ns M (β__law_tree_2 φr [some (.ref ρ), some (.ref w), some (.int (δ : Int)), some (.ref p), x4, x5, x6, x7, x8, x9, x10, x11] M) [some (.ref ρ), some (.ref w), some (.int (δ : Int)), some (.ref p), x4] := by
  obtain ⟨A, B, C, hA, hC0, hC1, hB⟩ := hw
  obtain ⟨v, hv⟩ := row_at hr A
  have hlen := row_len hr
  have ha := wd_at hA M
  have s1 := set_at' (A' := A + 1) hA
  generalize hM1 : M.set w (.dic (wd (A + 1) B C)) = M1
  rw [hM1] at s1
  have hA1 : M1[w]? = some (.dic (wd (A + 1) B C)) := by rw [← hM1]; exact P.set_is hA
  have hp1 : M1[p]? = some (.lst (ns.map dv)) := by rw [← hM1, P.set_at (by omega)]; exact hp
  have f1 : Fr w p M M1 := by rw [← hM1]; exact Fr.setw
  have r1 : Rw M1 ρ := f1.rw hr h1 (by omega)
  have l1 : M1.length = M.length := by rw [← hM1, List.length_set]
  have ha1 := wd_at hA1 M1
  have hb1 := wd_most hA1 M1
  have hpl := P.lt_of hp
  have hapl : (ns.map dv).length < LINE := by rw [List.length_map]; have := big; omega
  by_cases hbk : A + 1 > B
  · refine ⟨[some (.int (v / 4)), x6, x7, x8, x9, x10, x11], M1, rfl, ⟨_, _, _, hA1, hC0, by omega, hB⟩, f1, by omega, .inl ⟨?_, hp1⟩⟩
    unfold β__law_tree_2
    simp only [LD.q_RaiseF, LD.raiK_1, LD.raiK_2, LD.raiK_3, LD.q_Chain, LD.chC_t, LD.chC_f, LD.q_tCh, LD.blC_t, LD.blC_f, LD.q_Aug, LD.augR_r, LD.augF_c, LD.augV_i, LD.augS_i, LD.augT_i, LD.q_Pop, LD.v_pop, LD.popK_s, LD.q_Range3, LD.q_iRev, LD.revR_t, LD.revR_l, LD.q_DicF, LD.P.q_Slice, LD.P.q_oSome, LD.P.q_oNone, LD.P.soK_i, LD.P.rix_s, LD.P.rix_fs, LD.lkG_s, LD.leG_s, LD.q_SLock, LD.q_ELock, LD.lkS_r, LD.lkE_r, LD.lockM_d, LD.unlM_f, LD.unlS_n, LD.unlS_r, LD.unlE_o, LD.nxK_s, LD.rtK_s, LD.okU_s, LD.q_iDic, LD.fdR_r, LD.fdK_f, LD.dcmK_l, LD.q_Dcm, LD.finDK_t, LD.finDK_f, LD.q_LItems, LD.itmR_r, LD.itmK_d, LD.rixK_f, LD.v_lenO, LD.v_eqQi, LD.v_neQi, LD.v_mulGi, LD.q_Ins, LD.q_App, LD.okS_t, LD.v_isLst, LD.lstK_s, LD.v_app, LD.q_Rev, LD.lsK_s, LD.q_Get, LD.getKK_s, LD.v_lsL, LD.v_keyI, LD.v_keyS, Option.isSome_some, Option.isSome_none, Option.getD_some, Option.getD_none, LD.v_eqs, LD.v_nes, LD.v_isiBb, LD.q_C, LD.q_Var, LD.q_Bin, LD.q_Un, LD.q_tOf, LD.q_tCmp, LD.q_tAnd, LD.q_tOr, LD.q_tNot, LD.q_And, LD.q_Or, LD.q_Not, LD.q_If, LD.q_Nil, LD.q_Cons, LD.q_Tup, LD.q_Lst, LD.q_LstM, LD.q_Call, LD.q_Meth, LD.q_Attr, LD.q_Blt, LD.q_Comp, LD.q_iOf, LD.srcK_s, LD.v_truB, LD.v_truL, LD.v_truN, LD.v_srcL, LD.v_neg, LD.q_iRange, LD.q_Next, LD.q_Seq, LD.q_Expr, LD.q_Ret, LD.q_RetN, LD.q_SIf, LD.q_Bk, LD.q_Ct, LD.q_Asg, LD.q_Nm, LD.q_Sub, LD.q_Del, LD.q_Fld, LD.q_Dic, LD.q_For, LD.wipeD, Bool.not_true, Bool.not_false, LD.ifT, LD.le0, LD.le1, LD.le2, LD.le3, LD.le4, LD.le5, LD.le6, LD.cmpK_l, LD.nn_n, LD.nn_i, LD.nn_t, LD.nn_l, LD.nn_r, LD.nn_b, LD.nn_s, LD.nonK_n, LD.okK_o, LD.bind_k, LD.bind_b, LD.bind_e, LD.bindS_k, LD.bindS_e, LD.ofO_s, LD.getV_s, LD.truK_s, LD.blK_b, LD.refK_r, LD.insK_i, LD.lookK_s, LD.lookK_n, LD.refS_r, LD.insS_i, LD.lookS_s, LD.seq_n, LD.seq_r, LD.seq_b, LD.seq_c, LD.seq_e, LD.storeK_s, LD.memK_s, LD.endF_n, LD.endF_r, LD.endF_e, LD.pick_t, LD.pick_f, LD.finL_f, LD.finL_t, LD.v_add, LD.v_sub, LD.v_mulR, LD.v_fdiv, LD.v_mod, LD.v_int, LD.v_lt, LD.v_le, LD.v_gt, LD.v_ge, LD.v_eq, LD.v_ne, LD.v_len, LD.v_tix, LD.v_lix, LD.v_rix, LD.rixK_l, LD.rixK_d, LD.v_isN, LD.v_isnN, LD.v_isNone, LD.v_isNoneN, LD.startD, List.length_cons, List.length_nil, List.map_cons, List.map_nil, List.cons_append, List.nil_append, List.append_nil, List.getElem?_cons_zero, List.getElem?_cons_succ, List.set_cons_zero, List.set_cons_succ, List.replicate_succ, List.replicate_zero, Nat.reduceAdd, Nat.reduceSub, Nat.reduceBEq, Int.reduceLT, Int.reduceNeg, Int.reduceLE, Nat.reduceLeDiff, Nat.reduceLT, List.lookup_cons, List.lookup_nil, beq_self_eq_true, Option.map_some, Option.map_none, ha, hlen, hv, s1, ha1, hb1, decide_eq_true hbk]
  have hi1 := isLst_r hp1
  have m0 := Int.emod_nonneg (v / 4) (show (6 : Int) ≠ 0 by decide)
  by_cases k1 : (v / 4) % 6 ≤ 1
  · obtain ⟨x, hx, hx1, hx2⟩ := text_eq (v / 4 / 6) M1
    refine ⟨[some (.int (v / 4)), some (.int ((v / 4) % 6)), x7, x8, x9, x10, x11], M1.set p (.lst (ns.map dv ++ [dv (.txt x)])), rfl, ⟨_, _, _, by rw [P.set_at (by omega)]; exact hA1, hC0, by omega, hB⟩, f1.trans .set, by rw [List.length_set]; omega, .inr ⟨.txt x, ?_, app_end hp1, ⟨by omega, hx2⟩, trivial, by show 1 ≤ _; omega⟩⟩
    unfold β__law_tree_2 dv
    simp only [LD.q_RaiseF, LD.raiK_1, LD.raiK_2, LD.raiK_3, LD.q_Chain, LD.chC_t, LD.chC_f, LD.q_tCh, LD.blC_t, LD.blC_f, LD.q_Aug, LD.augR_r, LD.augF_c, LD.augV_i, LD.augS_i, LD.augT_i, LD.q_Pop, LD.v_pop, LD.popK_s, LD.q_Range3, LD.q_iRev, LD.revR_t, LD.revR_l, LD.q_DicF, LD.P.q_Slice, LD.P.q_oSome, LD.P.q_oNone, LD.P.soK_i, LD.P.rix_s, LD.P.rix_fs, LD.lkG_s, LD.leG_s, LD.q_SLock, LD.q_ELock, LD.lkS_r, LD.lkE_r, LD.lockM_d, LD.unlM_f, LD.unlS_n, LD.unlS_r, LD.unlE_o, LD.nxK_s, LD.rtK_s, LD.okU_s, LD.q_iDic, LD.fdR_r, LD.fdK_f, LD.dcmK_l, LD.q_Dcm, LD.finDK_t, LD.finDK_f, LD.q_LItems, LD.itmR_r, LD.itmK_d, LD.rixK_f, LD.v_lenO, LD.v_eqQi, LD.v_neQi, LD.v_mulGi, LD.q_Ins, LD.q_App, LD.okS_t, LD.v_isLst, LD.lstK_s, LD.v_app, LD.q_Rev, LD.lsK_s, LD.q_Get, LD.getKK_s, LD.v_lsL, LD.v_keyI, LD.v_keyS, Option.isSome_some, Option.isSome_none, Option.getD_some, Option.getD_none, LD.v_eqs, LD.v_nes, LD.v_isiBb, LD.q_C, LD.q_Var, LD.q_Bin, LD.q_Un, LD.q_tOf, LD.q_tCmp, LD.q_tAnd, LD.q_tOr, LD.q_tNot, LD.q_And, LD.q_Or, LD.q_Not, LD.q_If, LD.q_Nil, LD.q_Cons, LD.q_Tup, LD.q_Lst, LD.q_LstM, LD.q_Call, LD.q_Meth, LD.q_Attr, LD.q_Blt, LD.q_Comp, LD.q_iOf, LD.srcK_s, LD.v_truB, LD.v_truL, LD.v_truN, LD.v_srcL, LD.v_neg, LD.q_iRange, LD.q_Next, LD.q_Seq, LD.q_Expr, LD.q_Ret, LD.q_RetN, LD.q_SIf, LD.q_Bk, LD.q_Ct, LD.q_Asg, LD.q_Nm, LD.q_Sub, LD.q_Del, LD.q_Fld, LD.q_Dic, LD.q_For, LD.wipeD, Bool.not_true, Bool.not_false, LD.ifT, LD.le0, LD.le1, LD.le2, LD.le3, LD.le4, LD.le5, LD.le6, LD.cmpK_l, LD.nn_n, LD.nn_i, LD.nn_t, LD.nn_l, LD.nn_r, LD.nn_b, LD.nn_s, LD.nonK_n, LD.okK_o, LD.bind_k, LD.bind_b, LD.bind_e, LD.bindS_k, LD.bindS_e, LD.ofO_s, LD.getV_s, LD.truK_s, LD.blK_b, LD.refK_r, LD.insK_i, LD.lookK_s, LD.lookK_n, LD.refS_r, LD.insS_i, LD.lookS_s, LD.seq_n, LD.seq_r, LD.seq_b, LD.seq_c, LD.seq_e, LD.storeK_s, LD.memK_s, LD.endF_n, LD.endF_r, LD.endF_e, LD.pick_t, LD.pick_f, LD.finL_f, LD.finL_t, LD.v_add, LD.v_sub, LD.v_mulR, LD.v_fdiv, LD.v_mod, LD.v_int, LD.v_lt, LD.v_le, LD.v_gt, LD.v_ge, LD.v_eq, LD.v_ne, LD.v_len, LD.v_tix, LD.v_lix, LD.v_rix, LD.rixK_l, LD.rixK_d, LD.v_isN, LD.v_isnN, LD.v_isNone, LD.v_isNoneN, LD.startD, List.length_cons, List.length_nil, List.map_cons, List.map_nil, List.cons_append, List.nil_append, List.append_nil, List.getElem?_cons_zero, List.getElem?_cons_succ, List.set_cons_zero, List.set_cons_succ, List.replicate_succ, List.replicate_zero, Nat.reduceAdd, Nat.reduceSub, Nat.reduceBEq, Int.reduceLT, Int.reduceNeg, Int.reduceLE, Nat.reduceLeDiff, Nat.reduceLT, List.lookup_cons, List.lookup_nil, beq_self_eq_true, Option.map_some, Option.map_none, ha, hlen, hv, s1, ha1, hb1, decide_eq_false hbk, decide_eq_true k1, hx, hi1, hp1, appK_s hapl]
    rfl
  have mkids : ∀ (M4 : Mem), Wd M4 w → Rw M4 ρ → δ < 6 → ∃ (ks : List Nd) (M' : Mem) (p' : Nat), φr [.ref ρ, .ref w, .int ((δ : Int) + 1)] M4 = .ok (.ref p') M' ∧ Wd M' w ∧ Kp w M4 M' ∧ M'[p']? = some (.lst (ks.map dv)) ∧ M4.length ≤ p' ∧ (∀ k ∈ ks, Ok 5 M' r k ∧ In (fun i => p' < i ∧ i < M'.length) r k) ∧ (ks.map (cnt r)).sum ≤ cb r ∧ ks.length ≤ 3 := fun M4 a b c => by
    rw [show ((δ : Int) + 1) = ((δ + 1 : Nat) : Int) by omega]
    exact ih (δ + 1) M4 (by omega) (by omega) a b h1
  by_cases k3 : (v / 4) % 6 ≤ 3 ∨ 6 ≤ δ
  · obtain ⟨n, hn⟩ : ∃ n : Nat, (v / 4 / 6) % 3 = (n : Int) := ⟨((v / 4 / 6) % 3).toNat, by
      have := Int.emod_nonneg (v / 4 / 6) (show (3 : Int) ≠ 0 by decide)
      omega⟩
    have hn3 := Int.emod_lt_of_pos (v / 4 / 6) (show (0 : Int) < 3 by decide)
    have hrg : ∀ M : Mem, rngK [.int (n : Int)] M = .ok ⟨(List.range n).map fun k : Nat => D.int (k : Int), fun _ => true⟩ M := fun M => P.rng1 (j := n) (by omega) M
    have hq : (M1 ++ [DO.lst []])[M1.length]? = some (.lst (([] : List (Str × Str)).map prQ)) := P.app_at
    obtain ⟨M3, qs, y8, y9, ea, ga, gl, go⟩ := attr_loop (φr := φr) (w := w) (q := M1.length) (row := v / 4) (x0 := some (.ref ρ)) (x1 := some (.ref w)) (x2 := some (.int (δ : Int))) (x3 := some (.ref p)) (x4 := x4) (x6 := some (.int ((v / 4) % 6))) (x10 := x10) (x11 := x11) (List.range n) (M1 ++ [.lst []]) [] x8 x9 hq (by rw [List.length_range]; simp; omega) (fun j hj => by have := List.mem_range.mp hj; omega) (fun _ h => nomatch h)
    have e3 : M3 = M1 ++ [.lst (qs.map prQ)] := by rw [ga, P.set_end]
    have l3 : M3.length = M1.length + 1 := by rw [e3, P.len1]
    have hq3 : M3[M1.length]? = some (.lst (qs.map prQ)) := by rw [e3]; exact P.app_at
    have f3 : Fr w p M1 M3 := by rw [e3]; exact .app
    have c3 : M3.length = M1.length + 1 := l3
    have hA3 : M3[w]? = some (.dic (wd (A + 1) B C)) := by rw [e3]; exact P.grow hA1
    have hp3 : M3[p]? = some (.lst (ns.map dv)) := by rw [e3]; exact P.grow hp1
    have or3 : ((decide ((v / 4) % 6 ≤ 3) = true) ∨ (decide ((v / 4) % 6 ≤ 3) = false ∧ decide ((δ : Int) ≥ 6) = true)) := by
      by_cases q : (v / 4) % 6 ≤ 3
      · exact .inl (decide_eq_true q)
      · exact .inr ⟨decide_eq_false q, decide_eq_true (by omega)⟩
    by_cases hd : δ < 6
    · have hd' : (δ : Int) < 6 := by omega
      obtain ⟨ks, M5, p', e5, w5, k5, q5, b5, o5, c5, n5⟩ := mkids (M3 ++ [.lst []]) ⟨_, _, _, P.grow hA3, hC0, by omega, hB⟩ ((f3.rw r1 h1 (by omega)).elim fun rs h => ⟨rs, P.grow h.1, h.2⟩) hd
      obtain ⟨tag, et, ot⟩ := word_eq (v / 4 / 50) M5
      have hl5 := kp_len k5 w5
      rw [List.length_append, List.length_singleton] at hl5 b5
      have hp5 : M5[p]? = some (.lst (ns.map dv)) := k5 _ _ (by omega) (P.grow hp3)
      have hq5 : M5[M1.length]? = some (.lst (qs.map prQ)) := k5 _ _ (by omega) (P.grow hq3)
      have hi5 := isLst_r hp5
      have f5 : Fr w p M1 M5 := f3.trans ((Fr.app (X := [.lst []])).trans (.kp k5))
      have hp'l := P.lt_of q5
      have hA5 : Wd (M5.set p (.lst (ns.map dv ++ [dv (.el tag (.ref M1.length) qs (.ref p') ks)]))) w := by
        obtain ⟨a, b, c, h, h'⟩ := w5
        exact ⟨a, b, c, by rw [P.set_at (by omega)]; exact h, h'⟩
      have ok5 : Ok 5 (M5.set p (.lst (ns.map dv ++ [dv (.el tag (.ref M1.length) qs (.ref p') ks)]))) (r + 1) (.el tag (.ref M1.length) qs (.ref p') ks) := by
        refine ⟨ot, v_lsR (by rw [P.set_at (by omega)]; exact hq5), by omega, go, v_lsR (by rw [P.set_at (by omega)]; exact q5), fun k hk => ?_⟩
        exact Ok.ext (P := fun i => p' < i ∧ i < M5.length) (fun i o hi q => by rw [P.set_at (by omega)]; exact q) (o5 k hk).1 (o5 k hk).2
      refine ⟨[some (.int (v / 4)), some (.int ((v / 4) % 6)), some (.ref M1.length), y8, y9, some (.ref p'), x11], _, rfl, hA5, (f1.trans f5).trans .set, by rw [List.length_set]; omega, .inr ⟨.el tag (.ref M1.length) qs (.ref p') ks, ?_, app_end hp5, ok5, ⟨fun r' e => by cases e; rw [List.length_set]; omega, fun r' e => by cases e; rw [List.length_set]; omega, fun k hk => (o5 k hk).2.mono fun i hi => by rw [List.length_set]; omega⟩, by show 1 + (ks.map (cnt r)).sum ≤ _; omega⟩⟩
      unfold β__law_tree_2
      rcases or3 with q | ⟨q, q'⟩
      · simp only [LD.q_RaiseF, LD.raiK_1, LD.raiK_2, LD.raiK_3, LD.q_Chain, LD.chC_t, LD.chC_f, LD.q_tCh, LD.blC_t, LD.blC_f, LD.q_Aug, LD.augR_r, LD.augF_c, LD.augV_i, LD.augS_i, LD.augT_i, LD.q_Pop, LD.v_pop, LD.popK_s, LD.q_Range3, LD.q_iRev, LD.revR_t, LD.revR_l, LD.q_DicF, LD.P.q_Slice, LD.P.q_oSome, LD.P.q_oNone, LD.P.soK_i, LD.P.rix_s, LD.P.rix_fs, LD.lkG_s, LD.leG_s, LD.q_SLock, LD.q_ELock, LD.lkS_r, LD.lkE_r, LD.lockM_d, LD.unlM_f, LD.unlS_n, LD.unlS_r, LD.unlE_o, LD.nxK_s, LD.rtK_s, LD.okU_s, LD.q_iDic, LD.fdR_r, LD.fdK_f, LD.dcmK_l, LD.q_Dcm, LD.finDK_t, LD.finDK_f, LD.q_LItems, LD.itmR_r, LD.itmK_d, LD.rixK_f, LD.v_lenO, LD.v_eqQi, LD.v_neQi, LD.v_mulGi, LD.q_Ins, LD.q_App, LD.okS_t, LD.v_isLst, LD.lstK_s, LD.v_app, LD.q_Rev, LD.lsK_s, LD.q_Get, LD.getKK_s, LD.v_lsL, LD.v_keyI, LD.v_keyS, Option.isSome_some, Option.isSome_none, Option.getD_some, Option.getD_none, LD.v_eqs, LD.v_nes, LD.v_isiBb, LD.q_C, LD.q_Var, LD.q_Bin, LD.q_Un, LD.q_tOf, LD.q_tCmp, LD.q_tAnd, LD.q_tOr, LD.q_tNot, LD.q_And, LD.q_Or, LD.q_Not, LD.q_If, LD.q_Nil, LD.q_Cons, LD.q_Tup, LD.q_Lst, LD.q_LstM, LD.q_Call, LD.q_Meth, LD.q_Attr, LD.q_Blt, LD.q_Comp, LD.q_iOf, LD.srcK_s, LD.v_truB, LD.v_truL, LD.v_truN, LD.v_srcL, LD.v_neg, LD.q_iRange, LD.q_Next, LD.q_Seq, LD.q_Expr, LD.q_Ret, LD.q_RetN, LD.q_SIf, LD.q_Bk, LD.q_Ct, LD.q_Asg, LD.q_Nm, LD.q_Sub, LD.q_Del, LD.q_Fld, LD.q_Dic, LD.q_For, LD.wipeD, Bool.not_true, Bool.not_false, LD.ifT, LD.le0, LD.le1, LD.le2, LD.le3, LD.le4, LD.le5, LD.le6, LD.cmpK_l, LD.nn_n, LD.nn_i, LD.nn_t, LD.nn_l, LD.nn_r, LD.nn_b, LD.nn_s, LD.nonK_n, LD.okK_o, LD.bind_k, LD.bind_b, LD.bind_e, LD.bindS_k, LD.bindS_e, LD.ofO_s, LD.getV_s, LD.truK_s, LD.blK_b, LD.refK_r, LD.insK_i, LD.lookK_s, LD.lookK_n, LD.refS_r, LD.insS_i, LD.lookS_s, LD.seq_n, LD.seq_r, LD.seq_b, LD.seq_c, LD.seq_e, LD.storeK_s, LD.memK_s, LD.endF_n, LD.endF_r, LD.endF_e, LD.pick_t, LD.pick_f, LD.finL_f, LD.finL_t, LD.v_add, LD.v_sub, LD.v_mulR, LD.v_fdiv, LD.v_mod, LD.v_int, LD.v_lt, LD.v_le, LD.v_gt, LD.v_ge, LD.v_eq, LD.v_ne, LD.v_len, LD.v_tix, LD.v_lix, LD.v_rix, LD.rixK_l, LD.rixK_d, LD.v_isN, LD.v_isnN, LD.v_isNone, LD.v_isNoneN, LD.startD, List.length_cons, List.length_nil, List.map_cons, List.map_nil, List.cons_append, List.nil_append, List.append_nil, List.getElem?_cons_zero, List.getElem?_cons_succ, List.set_cons_zero, List.set_cons_succ, List.replicate_succ, List.replicate_zero, Nat.reduceAdd, Nat.reduceSub, Nat.reduceBEq, Int.reduceLT, Int.reduceNeg, Int.reduceLE, Nat.reduceLeDiff, Nat.reduceLT, List.lookup_cons, List.lookup_nil, beq_self_eq_true, Option.map_some, Option.map_none, ha, hlen, hv, s1, ha1, hb1, decide_eq_false hbk, decide_eq_false k1, q, hn, hrg, ea, decide_eq_true hd', e5, et, hi5, hp5, appK_s hapl]
        rfl
      · simp only [LD.q_RaiseF, LD.raiK_1, LD.raiK_2, LD.raiK_3, LD.q_Chain, LD.chC_t, LD.chC_f, LD.q_tCh, LD.blC_t, LD.blC_f, LD.q_Aug, LD.augR_r, LD.augF_c, LD.augV_i, LD.augS_i, LD.augT_i, LD.q_Pop, LD.v_pop, LD.popK_s, LD.q_Range3, LD.q_iRev, LD.revR_t, LD.revR_l, LD.q_DicF, LD.P.q_Slice, LD.P.q_oSome, LD.P.q_oNone, LD.P.soK_i, LD.P.rix_s, LD.P.rix_fs, LD.lkG_s, LD.leG_s, LD.q_SLock, LD.q_ELock, LD.lkS_r, LD.lkE_r, LD.lockM_d, LD.unlM_f, LD.unlS_n, LD.unlS_r, LD.unlE_o, LD.nxK_s, LD.rtK_s, LD.okU_s, LD.q_iDic, LD.fdR_r, LD.fdK_f, LD.dcmK_l, LD.q_Dcm, LD.finDK_t, LD.finDK_f, LD.q_LItems, LD.itmR_r, LD.itmK_d, LD.rixK_f, LD.v_lenO, LD.v_eqQi, LD.v_neQi, LD.v_mulGi, LD.q_Ins, LD.q_App, LD.okS_t, LD.v_isLst, LD.lstK_s, LD.v_app, LD.q_Rev, LD.lsK_s, LD.q_Get, LD.getKK_s, LD.v_lsL, LD.v_keyI, LD.v_keyS, Option.isSome_some, Option.isSome_none, Option.getD_some, Option.getD_none, LD.v_eqs, LD.v_nes, LD.v_isiBb, LD.q_C, LD.q_Var, LD.q_Bin, LD.q_Un, LD.q_tOf, LD.q_tCmp, LD.q_tAnd, LD.q_tOr, LD.q_tNot, LD.q_And, LD.q_Or, LD.q_Not, LD.q_If, LD.q_Nil, LD.q_Cons, LD.q_Tup, LD.q_Lst, LD.q_LstM, LD.q_Call, LD.q_Meth, LD.q_Attr, LD.q_Blt, LD.q_Comp, LD.q_iOf, LD.srcK_s, LD.v_truB, LD.v_truL, LD.v_truN, LD.v_srcL, LD.v_neg, LD.q_iRange, LD.q_Next, LD.q_Seq, LD.q_Expr, LD.q_Ret, LD.q_RetN, LD.q_SIf, LD.q_Bk, LD.q_Ct, LD.q_Asg, LD.q_Nm, LD.q_Sub, LD.q_Del, LD.q_Fld, LD.q_Dic, LD.q_For, LD.wipeD, Bool.not_true, Bool.not_false, LD.ifT, LD.le0, LD.le1, LD.le2, LD.le3, LD.le4, LD.le5, LD.le6, LD.cmpK_l, LD.nn_n, LD.nn_i, LD.nn_t, LD.nn_l, LD.nn_r, LD.nn_b, LD.nn_s, LD.nonK_n, LD.okK_o, LD.bind_k, LD.bind_b, LD.bind_e, LD.bindS_k, LD.bindS_e, LD.ofO_s, LD.getV_s, LD.truK_s, LD.blK_b, LD.refK_r, LD.insK_i, LD.lookK_s, LD.lookK_n, LD.refS_r, LD.insS_i, LD.lookS_s, LD.seq_n, LD.seq_r, LD.seq_b, LD.seq_c, LD.seq_e, LD.storeK_s, LD.memK_s, LD.endF_n, LD.endF_r, LD.endF_e, LD.pick_t, LD.pick_f, LD.finL_f, LD.finL_t, LD.v_add, LD.v_sub, LD.v_mulR, LD.v_fdiv, LD.v_mod, LD.v_int, LD.v_lt, LD.v_le, LD.v_gt, LD.v_ge, LD.v_eq, LD.v_ne, LD.v_len, LD.v_tix, LD.v_lix, LD.v_rix, LD.rixK_l, LD.rixK_d, LD.v_isN, LD.v_isnN, LD.v_isNone, LD.v_isNoneN, LD.startD, List.length_cons, List.length_nil, List.map_cons, List.map_nil, List.cons_append, List.nil_append, List.append_nil, List.getElem?_cons_zero, List.getElem?_cons_succ, List.set_cons_zero, List.set_cons_succ, List.replicate_succ, List.replicate_zero, Nat.reduceAdd, Nat.reduceSub, Nat.reduceBEq, Int.reduceLT, Int.reduceNeg, Int.reduceLE, Nat.reduceLeDiff, Nat.reduceLT, List.lookup_cons, List.lookup_nil, beq_self_eq_true, Option.map_some, Option.map_none, ha, hlen, hv, s1, ha1, hb1, decide_eq_false hbk, decide_eq_false k1, q, q', hn, hrg, ea, decide_eq_true hd', e5, et, hi5, hp5, appK_s hapl]
        rfl
    · have hd' : ¬ (δ : Int) < 6 := by omega
      obtain ⟨tag, et, ot⟩ := word_eq (v / 4 / 50) (M3 ++ [.lst []])
      have hp5 : (M3 ++ [DO.lst []])[p]? = some (.lst (ns.map dv)) := P.grow hp3
      have hq5 : (M3 ++ [DO.lst []])[M1.length]? = some (.lst (qs.map prQ)) := P.grow hq3
      have hc5 : (M3 ++ [DO.lst []])[M3.length]? = some (.lst (([] : List Nd).map dv)) := P.app_at
      have hi5 := isLst_r hp5
      have l5 : (M3 ++ [DO.lst []]).length = M3.length + 1 := P.len1
      refine ⟨[some (.int (v / 4)), some (.int ((v / 4) % 6)), some (.ref M1.length), y8, y9, some (.ref M3.length), x11], (M3 ++ [DO.lst []]).set p (.lst (ns.map dv ++ [dv (.el tag (.ref M1.length) qs (.ref M3.length) [])])), rfl, ⟨_, _, _, by rw [P.set_at (by omega)]; exact P.grow hA3, hC0, by omega, hB⟩, (f1.trans (f3.trans .app)).trans .set, by rw [List.length_set]; omega, .inr ⟨.el tag (.ref M1.length) qs (.ref M3.length) [], ?_, app_end hp5, ⟨ot, v_lsR (by rw [P.set_at (by omega)]; exact hq5), by omega, go, v_lsR (by rw [P.set_at (by omega)]; exact hc5), fun _ h => nomatch h⟩, ⟨fun r' e => by cases e; rw [List.length_set]; omega, fun r' e => by cases e; rw [List.length_set]; omega, fun _ h => nomatch h⟩, by show 1 + 0 ≤ _; omega⟩⟩
      unfold β__law_tree_2
      rcases or3 with q | ⟨q, q'⟩
      · simp only [LD.q_RaiseF, LD.raiK_1, LD.raiK_2, LD.raiK_3, LD.q_Chain, LD.chC_t, LD.chC_f, LD.q_tCh, LD.blC_t, LD.blC_f, LD.q_Aug, LD.augR_r, LD.augF_c, LD.augV_i, LD.augS_i, LD.augT_i, LD.q_Pop, LD.v_pop, LD.popK_s, LD.q_Range3, LD.q_iRev, LD.revR_t, LD.revR_l, LD.q_DicF, LD.P.q_Slice, LD.P.q_oSome, LD.P.q_oNone, LD.P.soK_i, LD.P.rix_s, LD.P.rix_fs, LD.lkG_s, LD.leG_s, LD.q_SLock, LD.q_ELock, LD.lkS_r, LD.lkE_r, LD.lockM_d, LD.unlM_f, LD.unlS_n, LD.unlS_r, LD.unlE_o, LD.nxK_s, LD.rtK_s, LD.okU_s, LD.q_iDic, LD.fdR_r, LD.fdK_f, LD.dcmK_l, LD.q_Dcm, LD.finDK_t, LD.finDK_f, LD.q_LItems, LD.itmR_r, LD.itmK_d, LD.rixK_f, LD.v_lenO, LD.v_eqQi, LD.v_neQi, LD.v_mulGi, LD.q_Ins, LD.q_App, LD.okS_t, LD.v_isLst, LD.lstK_s, LD.v_app, LD.q_Rev, LD.lsK_s, LD.q_Get, LD.getKK_s, LD.v_lsL, LD.v_keyI, LD.v_keyS, Option.isSome_some, Option.isSome_none, Option.getD_some, Option.getD_none, LD.v_eqs, LD.v_nes, LD.v_isiBb, LD.q_C, LD.q_Var, LD.q_Bin, LD.q_Un, LD.q_tOf, LD.q_tCmp, LD.q_tAnd, LD.q_tOr, LD.q_tNot, LD.q_And, LD.q_Or, LD.q_Not, LD.q_If, LD.q_Nil, LD.q_Cons, LD.q_Tup, LD.q_Lst, LD.q_LstM, LD.q_Call, LD.q_Meth, LD.q_Attr, LD.q_Blt, LD.q_Comp, LD.q_iOf, LD.srcK_s, LD.v_truB, LD.v_truL, LD.v_truN, LD.v_srcL, LD.v_neg, LD.q_iRange, LD.q_Next, LD.q_Seq, LD.q_Expr, LD.q_Ret, LD.q_RetN, LD.q_SIf, LD.q_Bk, LD.q_Ct, LD.q_Asg, LD.q_Nm, LD.q_Sub, LD.q_Del, LD.q_Fld, LD.q_Dic, LD.q_For, LD.wipeD, Bool.not_true, Bool.not_false, LD.ifT, LD.le0, LD.le1, LD.le2, LD.le3, LD.le4, LD.le5, LD.le6, LD.cmpK_l, LD.nn_n, LD.nn_i, LD.nn_t, LD.nn_l, LD.nn_r, LD.nn_b, LD.nn_s, LD.nonK_n, LD.okK_o, LD.bind_k, LD.bind_b, LD.bind_e, LD.bindS_k, LD.bindS_e, LD.ofO_s, LD.getV_s, LD.truK_s, LD.blK_b, LD.refK_r, LD.insK_i, LD.lookK_s, LD.lookK_n, LD.refS_r, LD.insS_i, LD.lookS_s, LD.seq_n, LD.seq_r, LD.seq_b, LD.seq_c, LD.seq_e, LD.storeK_s, LD.memK_s, LD.endF_n, LD.endF_r, LD.endF_e, LD.pick_t, LD.pick_f, LD.finL_f, LD.finL_t, LD.v_add, LD.v_sub, LD.v_mulR, LD.v_fdiv, LD.v_mod, LD.v_int, LD.v_lt, LD.v_le, LD.v_gt, LD.v_ge, LD.v_eq, LD.v_ne, LD.v_len, LD.v_tix, LD.v_lix, LD.v_rix, LD.rixK_l, LD.rixK_d, LD.v_isN, LD.v_isnN, LD.v_isNone, LD.v_isNoneN, LD.startD, List.length_cons, List.length_nil, List.map_cons, List.map_nil, List.cons_append, List.nil_append, List.append_nil, List.getElem?_cons_zero, List.getElem?_cons_succ, List.set_cons_zero, List.set_cons_succ, List.replicate_succ, List.replicate_zero, Nat.reduceAdd, Nat.reduceSub, Nat.reduceBEq, Int.reduceLT, Int.reduceNeg, Int.reduceLE, Nat.reduceLeDiff, Nat.reduceLT, List.lookup_cons, List.lookup_nil, beq_self_eq_true, Option.map_some, Option.map_none, ha, hlen, hv, s1, ha1, hb1, decide_eq_false hbk, decide_eq_false k1, q, hn, hrg, ea, decide_eq_false hd', et, hi5, hp5, appK_s hapl]
        rfl
      · simp only [LD.q_RaiseF, LD.raiK_1, LD.raiK_2, LD.raiK_3, LD.q_Chain, LD.chC_t, LD.chC_f, LD.q_tCh, LD.blC_t, LD.blC_f, LD.q_Aug, LD.augR_r, LD.augF_c, LD.augV_i, LD.augS_i, LD.augT_i, LD.q_Pop, LD.v_pop, LD.popK_s, LD.q_Range3, LD.q_iRev, LD.revR_t, LD.revR_l, LD.q_DicF, LD.P.q_Slice, LD.P.q_oSome, LD.P.q_oNone, LD.P.soK_i, LD.P.rix_s, LD.P.rix_fs, LD.lkG_s, LD.leG_s, LD.q_SLock, LD.q_ELock, LD.lkS_r, LD.lkE_r, LD.lockM_d, LD.unlM_f, LD.unlS_n, LD.unlS_r, LD.unlE_o, LD.nxK_s, LD.rtK_s, LD.okU_s, LD.q_iDic, LD.fdR_r, LD.fdK_f, LD.dcmK_l, LD.q_Dcm, LD.finDK_t, LD.finDK_f, LD.q_LItems, LD.itmR_r, LD.itmK_d, LD.rixK_f, LD.v_lenO, LD.v_eqQi, LD.v_neQi, LD.v_mulGi, LD.q_Ins, LD.q_App, LD.okS_t, LD.v_isLst, LD.lstK_s, LD.v_app, LD.q_Rev, LD.lsK_s, LD.q_Get, LD.getKK_s, LD.v_lsL, LD.v_keyI, LD.v_keyS, Option.isSome_some, Option.isSome_none, Option.getD_some, Option.getD_none, LD.v_eqs, LD.v_nes, LD.v_isiBb, LD.q_C, LD.q_Var, LD.q_Bin, LD.q_Un, LD.q_tOf, LD.q_tCmp, LD.q_tAnd, LD.q_tOr, LD.q_tNot, LD.q_And, LD.q_Or, LD.q_Not, LD.q_If, LD.q_Nil, LD.q_Cons, LD.q_Tup, LD.q_Lst, LD.q_LstM, LD.q_Call, LD.q_Meth, LD.q_Attr, LD.q_Blt, LD.q_Comp, LD.q_iOf, LD.srcK_s, LD.v_truB, LD.v_truL, LD.v_truN, LD.v_srcL, LD.v_neg, LD.q_iRange, LD.q_Next, LD.q_Seq, LD.q_Expr, LD.q_Ret, LD.q_RetN, LD.q_SIf, LD.q_Bk, LD.q_Ct, LD.q_Asg, LD.q_Nm, LD.q_Sub, LD.q_Del, LD.q_Fld, LD.q_Dic, LD.q_For, LD.wipeD, Bool.not_true, Bool.not_false, LD.ifT, LD.le0, LD.le1, LD.le2, LD.le3, LD.le4, LD.le5, LD.le6, LD.cmpK_l, LD.nn_n, LD.nn_i, LD.nn_t, LD.nn_l, LD.nn_r, LD.nn_b, LD.nn_s, LD.nonK_n, LD.okK_o, LD.bind_k, LD.bind_b, LD.bind_e, LD.bindS_k, LD.bindS_e, LD.ofO_s, LD.getV_s, LD.truK_s, LD.blK_b, LD.refK_r, LD.insK_i, LD.lookK_s, LD.lookK_n, LD.refS_r, LD.insS_i, LD.lookS_s, LD.seq_n, LD.seq_r, LD.seq_b, LD.seq_c, LD.seq_e, LD.storeK_s, LD.memK_s, LD.endF_n, LD.endF_r, LD.endF_e, LD.pick_t, LD.pick_f, LD.finL_f, LD.finL_t, LD.v_add, LD.v_sub, LD.v_mulR, LD.v_fdiv, LD.v_mod, LD.v_int, LD.v_lt, LD.v_le, LD.v_gt, LD.v_ge, LD.v_eq, LD.v_ne, LD.v_len, LD.v_tix, LD.v_lix, LD.v_rix, LD.rixK_l, LD.rixK_d, LD.v_isN, LD.v_isnN, LD.v_isNone, LD.v_isNoneN, LD.startD, List.length_cons, List.length_nil, List.map_cons, List.map_nil, List.cons_append, List.nil_append, List.append_nil, List.getElem?_cons_zero, List.getElem?_cons_succ, List.set_cons_zero, List.set_cons_succ, List.replicate_succ, List.replicate_zero, Nat.reduceAdd, Nat.reduceSub, Nat.reduceBEq, Int.reduceLT, Int.reduceNeg, Int.reduceLE, Nat.reduceLeDiff, Nat.reduceLT, List.lookup_cons, List.lookup_nil, beq_self_eq_true, Option.map_some, Option.map_none, ha, hlen, hv, s1, ha1, hb1, decide_eq_false hbk, decide_eq_false k1, q, q', hn, hrg, ea, decide_eq_false hd', et, hi5, hp5, appK_s hapl]
        rfl
  · have k3a : ¬ (v / 4) % 6 ≤ 3 := fun z => k3 (.inl z)
    have hd : δ < 6 := by omega
    have k3b : ¬ (δ : Int) ≥ 6 := by omega
    have fin : ∀ (M2 : Mem) (d : D), numOk d → Wd M2 w → Fr w p M1 M2 → M2.length = M1.length → M2[p]? = some (.lst (ns.map dv)) →
        (∀ (M5 : Mem) (p' : Nat), M5[p]? = some (.lst (ns.map dv)) → isLst M5 (.ref p) = true → φr [.ref ρ, .ref w, .int ((δ : Int) + 1)] M2 = .ok (.ref p') M5 → β__law_tree_2 φr [some (.ref ρ), some (.ref w), some (.int (δ : Int)), some (.ref p), x4, x5, x6, x7, x8, x9, x10, x11] M = .nx [some (.ref ρ), some (.ref w), some (.int (δ : Int)), some (.ref p), x4, some (.int (v / 4)), some (.int ((v / 4) % 6)), x7, x8, x9, x10, some d] (M5.set p (.lst (ns.map dv ++ [.tup [.str "await", d, .ref p']])))) →
        Out ρ w p r ns M (β__law_tree_2 φr [some (.ref ρ), some (.ref w), some (.int (δ : Int)), some (.ref p), x4, x5, x6, x7, x8, x9, x10, x11] M) [some (.ref ρ), some (.ref w), some (.int (δ : Int)), some (.ref p), x4] := fun M2 d nd w2 f2 l2 p2 he => by
      obtain ⟨ks, M5, p', e5, w5, k5, q5, b5, o5, c5, n5⟩ := mkids M2 w2 (f2.rw r1 h1 (by omega)) hd
      have hl5 := kp_len k5 w5
      have hp5 : M5[p]? = some (.lst (ns.map dv)) := k5 _ _ (by omega) p2
      have hp'l := P.lt_of q5
      refine ⟨[some (.int (v / 4)), some (.int ((v / 4) % 6)), x7, x8, x9, x10, some d], M5.set p (.lst (ns.map dv ++ [dv (.aw d (.ref p') ks)])), rfl, ?_, (f1.trans (f2.trans (.kp k5))).trans .set, by rw [List.length_set]; omega, .inr ⟨.aw d (.ref p') ks, he M5 p' hp5 (isLst_r hp5) e5, app_end (nd := .aw d (.ref p') ks) hp5, ⟨⟨nd, v_lsR (by rw [P.set_at (by omega)]; exact q5)⟩, fun k hk => ?_⟩, ⟨fun r' e => by cases e; rw [List.length_set]; omega, fun k hk => (o5 k hk).2.mono fun i hi => by rw [List.length_set]; omega⟩, by show 1 + (ks.map (cnt r)).sum ≤ _; omega⟩⟩
      · obtain ⟨a, b, c, h, h'⟩ := w5
        exact ⟨a, b, c, by rw [P.set_at (by omega)]; exact h, h'⟩
      · exact Ok.ext (P := fun i => p' < i ∧ i < M5.length) (fun i o hi q => by rw [P.set_at (by omega)]; exact q) (o5 k hk).1 (o5 k hk).2
    by_cases k4 : (v / 4) % 6 = 4
    · have b4 : ((v / 4) % 6 == 4) = true := by rw [k4] <;> rfl
      have hc1 := wd_num hA1 M1
      have s2 := set_num (C' := C + 1 + (v / 4 / 6) % 3) hA1
      generalize hM2 : M1.set w (.dic (wd (A + 1) B (C + 1 + (v / 4 / 6) % 3))) = M2
      rw [hM2] at s2
      have hA2 : M2[w]? = some (.dic (wd (A + 1) B (C + 1 + (v / 4 / 6) % 3))) := by rw [← hM2]; exact P.set_is hA1
      have hc2 := wd_num hA2 M2
      have hp2 : M2[p]? = some (.lst (ns.map dv)) := by rw [← hM2, P.set_at (by omega)]; exact hp1
      have hm3 := Int.emod_lt_of_pos (v / 4 / 6) (show (0 : Int) < 3 by decide)
      have hm0 := Int.emod_nonneg (v / 4 / 6) (show (3 : Int) ≠ 0 by decide)
      refine fin M2 (.int (C + 1 + (v / 4 / 6) % 3)) (.inr ⟨_, rfl, by omega, by omega⟩) ⟨_, _, _, hA2, by omega, by omega, hB⟩ (by rw [← hM2]; exact .setw) (by rw [← hM2, List.length_set]) hp2 fun M5 p' hp5 hi5 e5 => ?_
      unfold β__law_tree_2
      simp only [LD.q_RaiseF, LD.raiK_1, LD.raiK_2, LD.raiK_3, LD.q_Chain, LD.chC_t, LD.chC_f, LD.q_tCh, LD.blC_t, LD.blC_f, LD.q_Aug, LD.augR_r, LD.augF_c, LD.augV_i, LD.augS_i, LD.augT_i, LD.q_Pop, LD.v_pop, LD.popK_s, LD.q_Range3, LD.q_iRev, LD.revR_t, LD.revR_l, LD.q_DicF, LD.P.q_Slice, LD.P.q_oSome, LD.P.q_oNone, LD.P.soK_i, LD.P.rix_s, LD.P.rix_fs, LD.lkG_s, LD.leG_s, LD.q_SLock, LD.q_ELock, LD.lkS_r, LD.lkE_r, LD.lockM_d, LD.unlM_f, LD.unlS_n, LD.unlS_r, LD.unlE_o, LD.nxK_s, LD.rtK_s, LD.okU_s, LD.q_iDic, LD.fdR_r, LD.fdK_f, LD.dcmK_l, LD.q_Dcm, LD.finDK_t, LD.finDK_f, LD.q_LItems, LD.itmR_r, LD.itmK_d, LD.rixK_f, LD.v_lenO, LD.v_eqQi, LD.v_neQi, LD.v_mulGi, LD.q_Ins, LD.q_App, LD.okS_t, LD.v_isLst, LD.lstK_s, LD.v_app, LD.q_Rev, LD.lsK_s, LD.q_Get, LD.getKK_s, LD.v_lsL, LD.v_keyI, LD.v_keyS, Option.isSome_some, Option.isSome_none, Option.getD_some, Option.getD_none, LD.v_eqs, LD.v_nes, LD.v_isiBb, LD.q_C, LD.q_Var, LD.q_Bin, LD.q_Un, LD.q_tOf, LD.q_tCmp, LD.q_tAnd, LD.q_tOr, LD.q_tNot, LD.q_And, LD.q_Or, LD.q_Not, LD.q_If, LD.q_Nil, LD.q_Cons, LD.q_Tup, LD.q_Lst, LD.q_LstM, LD.q_Call, LD.q_Meth, LD.q_Attr, LD.q_Blt, LD.q_Comp, LD.q_iOf, LD.srcK_s, LD.v_truB, LD.v_truL, LD.v_truN, LD.v_srcL, LD.v_neg, LD.q_iRange, LD.q_Next, LD.q_Seq, LD.q_Expr, LD.q_Ret, LD.q_RetN, LD.q_SIf, LD.q_Bk, LD.q_Ct, LD.q_Asg, LD.q_Nm, LD.q_Sub, LD.q_Del, LD.q_Fld, LD.q_Dic, LD.q_For, LD.wipeD, Bool.not_true, Bool.not_false, LD.ifT, LD.le0, LD.le1, LD.le2, LD.le3, LD.le4, LD.le5, LD.le6, LD.cmpK_l, LD.nn_n, LD.nn_i, LD.nn_t, LD.nn_l, LD.nn_r, LD.nn_b, LD.nn_s, LD.nonK_n, LD.okK_o, LD.bind_k, LD.bind_b, LD.bind_e, LD.bindS_k, LD.bindS_e, LD.ofO_s, LD.getV_s, LD.truK_s, LD.blK_b, LD.refK_r, LD.insK_i, LD.lookK_s, LD.lookK_n, LD.refS_r, LD.insS_i, LD.lookS_s, LD.seq_n, LD.seq_r, LD.seq_b, LD.seq_c, LD.seq_e, LD.storeK_s, LD.memK_s, LD.endF_n, LD.endF_r, LD.endF_e, LD.pick_t, LD.pick_f, LD.finL_f, LD.finL_t, LD.v_add, LD.v_sub, LD.v_mulR, LD.v_fdiv, LD.v_mod, LD.v_int, LD.v_lt, LD.v_le, LD.v_gt, LD.v_ge, LD.v_eq, LD.v_ne, LD.v_len, LD.v_tix, LD.v_lix, LD.v_rix, LD.rixK_l, LD.rixK_d, LD.v_isN, LD.v_isnN, LD.v_isNone, LD.v_isNoneN, LD.startD, List.length_cons, List.length_nil, List.map_cons, List.map_nil, List.cons_append, List.nil_append, List.append_nil, List.getElem?_cons_zero, List.getElem?_cons_succ, List.set_cons_zero, List.set_cons_succ, List.replicate_succ, List.replicate_zero, Nat.reduceAdd, Nat.reduceSub, Nat.reduceBEq, Int.reduceLT, Int.reduceNeg, Int.reduceLE, Nat.reduceLeDiff, Nat.reduceLT, List.lookup_cons, List.lookup_nil, beq_self_eq_true, Option.map_some, Option.map_none, ha, hlen, hv, s1, ha1, hb1, decide_eq_false hbk, decide_eq_false k1, decide_eq_false k3a, decide_eq_false k3b, b4, hc1, s2, hc2, hp2, e5, hi5, hp5, appK_s hapl]
    · have b4 : ((v / 4) % 6 == 4) = false := by rw [beq_eq_false_iff_ne]; exact k4
      refine fin M1 .non (.inl rfl) ⟨_, _, _, hA1, hC0, by omega, hB⟩ .refl rfl hp1 fun M5 p' hp5 hi5 e5 => ?_
      unfold β__law_tree_2
      simp only [LD.q_RaiseF, LD.raiK_1, LD.raiK_2, LD.raiK_3, LD.q_Chain, LD.chC_t, LD.chC_f, LD.q_tCh, LD.blC_t, LD.blC_f, LD.q_Aug, LD.augR_r, LD.augF_c, LD.augV_i, LD.augS_i, LD.augT_i, LD.q_Pop, LD.v_pop, LD.popK_s, LD.q_Range3, LD.q_iRev, LD.revR_t, LD.revR_l, LD.q_DicF, LD.P.q_Slice, LD.P.q_oSome, LD.P.q_oNone, LD.P.soK_i, LD.P.rix_s, LD.P.rix_fs, LD.lkG_s, LD.leG_s, LD.q_SLock, LD.q_ELock, LD.lkS_r, LD.lkE_r, LD.lockM_d, LD.unlM_f, LD.unlS_n, LD.unlS_r, LD.unlE_o, LD.nxK_s, LD.rtK_s, LD.okU_s, LD.q_iDic, LD.fdR_r, LD.fdK_f, LD.dcmK_l, LD.q_Dcm, LD.finDK_t, LD.finDK_f, LD.q_LItems, LD.itmR_r, LD.itmK_d, LD.rixK_f, LD.v_lenO, LD.v_eqQi, LD.v_neQi, LD.v_mulGi, LD.q_Ins, LD.q_App, LD.okS_t, LD.v_isLst, LD.lstK_s, LD.v_app, LD.q_Rev, LD.lsK_s, LD.q_Get, LD.getKK_s, LD.v_lsL, LD.v_keyI, LD.v_keyS, Option.isSome_some, Option.isSome_none, Option.getD_some, Option.getD_none, LD.v_eqs, LD.v_nes, LD.v_isiBb, LD.q_C, LD.q_Var, LD.q_Bin, LD.q_Un, LD.q_tOf, LD.q_tCmp, LD.q_tAnd, LD.q_tOr, LD.q_tNot, LD.q_And, LD.q_Or, LD.q_Not, LD.q_If, LD.q_Nil, LD.q_Cons, LD.q_Tup, LD.q_Lst, LD.q_LstM, LD.q_Call, LD.q_Meth, LD.q_Attr, LD.q_Blt, LD.q_Comp, LD.q_iOf, LD.srcK_s, LD.v_truB, LD.v_truL, LD.v_truN, LD.v_srcL, LD.v_neg, LD.q_iRange, LD.q_Next, LD.q_Seq, LD.q_Expr, LD.q_Ret, LD.q_RetN, LD.q_SIf, LD.q_Bk, LD.q_Ct, LD.q_Asg, LD.q_Nm, LD.q_Sub, LD.q_Del, LD.q_Fld, LD.q_Dic, LD.q_For, LD.wipeD, Bool.not_true, Bool.not_false, LD.ifT, LD.le0, LD.le1, LD.le2, LD.le3, LD.le4, LD.le5, LD.le6, LD.cmpK_l, LD.nn_n, LD.nn_i, LD.nn_t, LD.nn_l, LD.nn_r, LD.nn_b, LD.nn_s, LD.nonK_n, LD.okK_o, LD.bind_k, LD.bind_b, LD.bind_e, LD.bindS_k, LD.bindS_e, LD.ofO_s, LD.getV_s, LD.truK_s, LD.blK_b, LD.refK_r, LD.insK_i, LD.lookK_s, LD.lookK_n, LD.refS_r, LD.insS_i, LD.lookS_s, LD.seq_n, LD.seq_r, LD.seq_b, LD.seq_c, LD.seq_e, LD.storeK_s, LD.memK_s, LD.endF_n, LD.endF_r, LD.endF_e, LD.pick_t, LD.pick_f, LD.finL_f, LD.finL_t, LD.v_add, LD.v_sub, LD.v_mulR, LD.v_fdiv, LD.v_mod, LD.v_int, LD.v_lt, LD.v_le, LD.v_gt, LD.v_ge, LD.v_eq, LD.v_ne, LD.v_len, LD.v_tix, LD.v_lix, LD.v_rix, LD.rixK_l, LD.rixK_d, LD.v_isN, LD.v_isnN, LD.v_isNone, LD.v_isNoneN, LD.startD, List.length_cons, List.length_nil, List.map_cons, List.map_nil, List.cons_append, List.nil_append, List.append_nil, List.getElem?_cons_zero, List.getElem?_cons_succ, List.set_cons_zero, List.set_cons_succ, List.replicate_succ, List.replicate_zero, Nat.reduceAdd, Nat.reduceSub, Nat.reduceBEq, Int.reduceLT, Int.reduceNeg, Int.reduceLE, Nat.reduceLeDiff, Nat.reduceLT, List.lookup_cons, List.lookup_nil, beq_self_eq_true, Option.map_some, Option.map_none, ha, hlen, hv, s1, ha1, hb1, decide_eq_false hbk, decide_eq_false k1, decide_eq_false k3a, decide_eq_false k3b, b4, hp1, e5, hi5, hp5, appK_s hapl]
end K68
namespace K68
open PySem PySem.Spec PyProof.Rows L2 LD
open P (Kp)
theorem len7 : ∀ {y : List (Option D)}, y.length = 7 → ∃ a b c d e f g, y = [a, b, c, d, e, f, g]
  | [a, b, c, d, e, f, g], _ => ⟨a, b, c, d, e, f, g, rfl⟩
def NsOk (M : Mem) (p h : Nat) (ns : List Nd) : Prop := ∀ n ∈ ns, Ok 5 M h n ∧ In (fun i => p < i ∧ i < M.length) h n
theorem tree_loop {ρ w p r δ : Nat} {φr : FnD} (ih : Gt ρ w r φr) (hδ : δ + (r + 1) = 7) (h1 : ρ ≠ w) (h2 : w < p) (h3 : ρ < p) : ∀ (ts : List D) (M : Mem) (ns : List Nd) (x4 : Option D) (y : List (Option D)), y.length = 7 → Wd M w → Rw M ρ → M[p]? = some (.lst (ns.map dv)) → NsOk M p (r + 1) ns → (ns.map (cnt (r + 1))).sum ≤ ns.length * (1 + cb r) → ns.length + ts.length ≤ 3 →
    ∃ (M' : Mem) (ms : List Nd) (y4 : Option D) (y' : List (Option D)), forV (fun _ => true) (gNm 4) (β__law_tree_2 φr) ts ([some (.ref ρ), some (.ref w), some (.int (δ : Int)), some (.ref p)] ++ x4 :: y) M = .nx ([some (.ref ρ), some (.ref w), some (.int (δ : Int)), some (.ref p)] ++ y4 :: y') M' ∧ Wd M' w ∧ Fr w p M M' ∧ M'[p]? = some (.lst (ms.map dv)) ∧ NsOk M' p (r + 1) ms ∧ (ms.map (cnt (r + 1))).sum ≤ ms.length * (1 + cb r) ∧ ms.length ≤ 3
  | [], M, ns, x4, y, _, hw, _, hp, ok, hc, hl => ⟨M, ns, x4, y, forV_n rfl, hw, .refl, hp, ok, hc, by simpa using hl⟩
  | t :: ts, M, ns, x4, y, hy, hw, hr, hp, ok, hc, hl => by
    rw [List.length_cons] at hl
    obtain ⟨a, b, c, d, e, f, g, rfl⟩ := len7 hy
    obtain ⟨y', M1, hy', w1, f1, l1, hcase⟩ := tree_body ih hδ h1 h2 h3 hw hr hp (by omega) (some t) a b c d e f g
    have ok1 : NsOk M1 p (r + 1) ns := fun n hn => ⟨f1.ok (ok n hn).1 ((ok n hn).2.mono fun i hi => by omega), (ok n hn).2.mono fun i hi => by omega⟩
    have hg : gNm 4 t M ([some (.ref ρ), some (.ref w), some (.int (δ : Int)), some (.ref p)] ++ x4 :: [a, b, c, d, e, f, g]) = some [some (.ref ρ), some (.ref w), some (.int (δ : Int)), some (.ref p), some t, a, b, c, d, e, f, g] := rfl
    rcases hcase with ⟨hb, p1⟩ | ⟨nd, hb, p1, o1, i1, c1⟩
    · refine ⟨M1, ns, some t, y', ?_, w1, f1, p1, ok1, hc, by omega⟩
      exact P.forV_bk rfl hg hb
    · have okn : NsOk M1 p (r + 1) (ns ++ [nd]) := fun n hn => by
        rcases List.mem_append.mp hn with h | h
        · exact ok1 n h
        · rw [List.mem_singleton.mp h]; exact ⟨o1, i1⟩
      obtain ⟨M', ms, y4, y2, e2, w2, f2, p2, ok2, c2, l2⟩ := tree_loop ih hδ h1 h2 h3 ts M1 (ns ++ [nd]) (some t) y' hy' w1 (f1.rw hr h1 (by omega)) p1 okn (by
        rw [List.map_append, List.sum_append, List.length_append, Nat.add_mul]
        simp only [List.map_cons, List.map_nil, List.sum_cons, List.sum_nil, List.length_singleton, Nat.one_mul]
        omega) (by rw [List.length_append, List.length_singleton]; omega)
      refine ⟨M', ms, y4, y2, ?_, w2, f1.trans f2, p2, ok2, c2, l2⟩
      exact (forV_c rfl hg hb).trans e2
theorem tree_gen {ρ w : Nat} : ∀ (r m : Nat), r < m → Gt ρ w r (φ__law_tree m)
  | 0, _, _ => fun δ M h1 h2 => by omega
  | r + 1, 0, h => by omega
  | r + 1, m + 1, h => fun δ M hd6 hδ hw hr hne => by
    have ih : Gt ρ w r (φ__law_tree m) := tree_gen r m (by omega)
    obtain ⟨A, B, C, hA, hC⟩ := id hw
    have hwl := P.lt_of hA
    have hrl : ρ < M.length := by
      obtain ⟨rs, q, _⟩ := hr
      exact P.lt_of q
    have hA0 : (M ++ [DO.lst []])[w]? = some (.dic (wd A B C)) := P.grow hA
    have hr0 : Rw (M ++ [DO.lst []]) ρ := hr.elim fun rs h => ⟨rs, P.grow h.1, h.2⟩
    obtain ⟨v, hv⟩ := row_at hr0 A
    have hlen := row_len hr0
    have ha := wd_at hA0 (M ++ [DO.lst []])
    have m0 := Int.emod_nonneg v (show (4 : Int) ≠ 0 by decide)
    have m1 := Int.emod_lt_of_pos v (show (0 : Int) < 4 by decide)
    obtain ⟨n, hn⟩ : ∃ n : Nat, v % 4 = (n : Int) := ⟨(v % 4).toNat, by omega⟩
    have hrg : ∀ M : Mem, rngK [.int (n : Int)] M = .ok ⟨(List.range n).map fun k : Nat => D.int (k : Int), fun _ => true⟩ M := fun M => P.rng1 (j := n) (by omega) M
    have hp0 : (M ++ [DO.lst []])[M.length]? = some (.lst (([] : List Nd).map dv)) := P.app_at
    obtain ⟨M', ms, y4, y', e, w', f', p', ok', c', l'⟩ := tree_loop (δ := δ) ih (by omega) hne hwl hrl ((List.range n).map fun k : Nat => D.int (k : Int)) (M ++ [.lst []]) [] none [none, none, none, none, none, none, none] rfl ⟨_, _, _, hA0, hC⟩ hr0 hp0 (fun _ h => nomatch h) (Nat.zero_le _) (by rw [List.length_map, List.length_range]; simp; omega)
    have e : forV (fun _ => true) (gNm 4) (β__law_tree_2 (φ__law_tree m)) ((List.range n).map fun k : Nat => D.int (k : Int)) [some (.ref ρ), some (.ref w), some (.int (δ : Int)), some (.ref M.length), none, none, none, none, none, none, none, none] (M ++ [.lst []]) = .nx (some (.ref ρ) :: some (.ref w) :: some (.int (δ : Int)) :: some (.ref M.length) :: y4 :: y') M' := e
    refine ⟨ms, M', M.length, ?_, w', fun i o ni q => f' i o ni (by have := P.lt_of q; omega) (P.grow q), p', Nat.le_refl _, ok', ?_, l'⟩
    · rw [φ__law_tree]
      refine run_def rfl ?_
      unfold ψ__law_tree
      simp only [LD.q_RaiseF, LD.raiK_1, LD.raiK_2, LD.raiK_3, LD.q_Chain, LD.chC_t, LD.chC_f, LD.q_tCh, LD.blC_t, LD.blC_f, LD.q_Aug, LD.augR_r, LD.augF_c, LD.augV_i, LD.augS_i, LD.augT_i, LD.q_Pop, LD.v_pop, LD.popK_s, LD.q_Range3, LD.q_iRev, LD.revR_t, LD.revR_l, LD.q_DicF, LD.P.q_Slice, LD.P.q_oSome, LD.P.q_oNone, LD.P.soK_i, LD.P.rix_s, LD.P.rix_fs, LD.lkG_s, LD.leG_s, LD.q_SLock, LD.q_ELock, LD.lkS_r, LD.lkE_r, LD.lockM_d, LD.unlM_f, LD.unlS_n, LD.unlS_r, LD.unlE_o, LD.nxK_s, LD.rtK_s, LD.okU_s, LD.q_iDic, LD.fdR_r, LD.fdK_f, LD.dcmK_l, LD.q_Dcm, LD.finDK_t, LD.finDK_f, LD.q_LItems, LD.itmR_r, LD.itmK_d, LD.rixK_f, LD.v_lenO, LD.v_eqQi, LD.v_neQi, LD.v_mulGi, LD.q_Ins, LD.q_App, LD.okS_t, LD.v_isLst, LD.lstK_s, LD.v_app, LD.q_Rev, LD.lsK_s, LD.q_Get, LD.getKK_s, LD.v_lsL, LD.v_keyI, LD.v_keyS, Option.isSome_some, Option.isSome_none, Option.getD_some, Option.getD_none, LD.v_eqs, LD.v_nes, LD.v_isiBb, LD.q_C, LD.q_Var, LD.q_Bin, LD.q_Un, LD.q_tOf, LD.q_tCmp, LD.q_tAnd, LD.q_tOr, LD.q_tNot, LD.q_And, LD.q_Or, LD.q_Not, LD.q_If, LD.q_Nil, LD.q_Cons, LD.q_Tup, LD.q_Lst, LD.q_LstM, LD.q_Call, LD.q_Meth, LD.q_Attr, LD.q_Blt, LD.q_Comp, LD.q_iOf, LD.srcK_s, LD.v_truB, LD.v_truL, LD.v_truN, LD.v_srcL, LD.v_neg, LD.q_iRange, LD.q_Next, LD.q_Seq, LD.q_Expr, LD.q_Ret, LD.q_RetN, LD.q_SIf, LD.q_Bk, LD.q_Ct, LD.q_Asg, LD.q_Nm, LD.q_Sub, LD.q_Del, LD.q_Fld, LD.q_Dic, LD.q_For, LD.wipeD, Bool.not_true, Bool.not_false, LD.ifT, LD.le0, LD.le1, LD.le2, LD.le3, LD.le4, LD.le5, LD.le6, LD.cmpK_l, LD.nn_n, LD.nn_i, LD.nn_t, LD.nn_l, LD.nn_r, LD.nn_b, LD.nn_s, LD.nonK_n, LD.okK_o, LD.bind_k, LD.bind_b, LD.bind_e, LD.bindS_k, LD.bindS_e, LD.ofO_s, LD.getV_s, LD.truK_s, LD.blK_b, LD.refK_r, LD.insK_i, LD.lookK_s, LD.lookK_n, LD.refS_r, LD.insS_i, LD.lookS_s, LD.seq_n, LD.seq_r, LD.seq_b, LD.seq_c, LD.seq_e, LD.storeK_s, LD.memK_s, LD.endF_n, LD.endF_r, LD.endF_e, LD.pick_t, LD.pick_f, LD.finL_f, LD.finL_t, LD.v_add, LD.v_sub, LD.v_mulR, LD.v_fdiv, LD.v_mod, LD.v_int, LD.v_lt, LD.v_le, LD.v_gt, LD.v_ge, LD.v_eq, LD.v_ne, LD.v_len, LD.v_tix, LD.v_lix, LD.v_rix, LD.rixK_l, LD.rixK_d, LD.v_isN, LD.v_isnN, LD.v_isNone, LD.v_isNoneN, LD.startD, List.length_cons, List.length_nil, List.map_cons, List.map_nil, List.cons_append, List.nil_append, List.append_nil, List.getElem?_cons_zero, List.getElem?_cons_succ, List.set_cons_zero, List.set_cons_succ, List.replicate_succ, List.replicate_zero, Nat.reduceAdd, Nat.reduceSub, Nat.reduceBEq, Int.reduceLT, Int.reduceNeg, Int.reduceLE, Nat.reduceLeDiff, Nat.reduceLT, List.lookup_cons, List.lookup_nil, beq_self_eq_true, Option.map_some, Option.map_none, ha, hlen, hv, hn, hrg, e]
    · have : ms.length * (1 + cb r) ≤ 3 * (1 + cb r) := Nat.mul_le_mul_right _ l'
      show _ ≤ 3 * (1 + cb r)
      omega
theorem drawn_eq {ρ : Nat} {M : Mem} {a : Int} (h0 : 0 ≤ a) (h1 : a ≤ 900) (hr : Rw M ρ) : ∃ (ks : List Nd) (M' : Mem) (p : Nat), φ__law_drawn [.ref ρ, .int a, .int 30] M = .ok (.ref p) M' ∧ P.Ext M M' ∧ M'[p]? = some (.lst (ks.map dv)) ∧ (∀ k ∈ ks, Ok 5 M' 7 k) ∧ (ks.map (cnt 7)).sum ≤ 3279 := by
  have hrl : ρ < M.length := by
    obtain ⟨rs, q, _⟩ := hr
    exact P.lt_of q
  have hw : (M ++ [DO.dic (wd a (a + 30) 0)])[M.length]? = some (.dic (wd a (a + 30) 0)) := P.app_at
  obtain ⟨ks, M', p, e, w', k', p', l', o', c', _⟩ := tree_gen (ρ := ρ) (w := M.length) 7 10 (by decide) 0 (M ++ [.dic (wd a (a + 30) 0)]) (by decide) rfl ⟨_, _, _, hw, Int.le_refl _, by omega, by omega⟩ (hr.elim fun rs h => ⟨rs, P.grow h.1, h.2⟩) (by omega)
  have hd : (M ++ [DO.dic []])[M.length]? = some (.dic []) := P.app_at
  have hz : (M ++ [DO.dic []]).set M.length (.dic (([.inr "at", .inr "most", .inr "number"] : List Key).zip [.int a, .int (a + 30), .int 0])) = M ++ [.dic (wd a (a + 30) 0)] := P.set_end
  have e : φ__law_tree 10 [.ref ρ, .ref M.length, .int 0] (M ++ [.dic (wd a (a + 30) 0)]) = .ok (.ref p) M' := e
  refine ⟨ks, M', p, ?_, fun i o q => k' i o (by have := P.lt_of q; omega) (P.grow q), p', fun k hk => (o' k hk).1, c'⟩
  unfold φ__law_drawn
  refine run_def rfl ?_
  unfold ψ__law_drawn
  simp only [LD.q_RaiseF, LD.raiK_1, LD.raiK_2, LD.raiK_3, LD.q_Chain, LD.chC_t, LD.chC_f, LD.q_tCh, LD.blC_t, LD.blC_f, LD.q_Aug, LD.augR_r, LD.augF_c, LD.augV_i, LD.augS_i, LD.augT_i, LD.q_Pop, LD.v_pop, LD.popK_s, LD.q_Range3, LD.q_iRev, LD.revR_t, LD.revR_l, LD.q_DicF, LD.P.q_Slice, LD.P.q_oSome, LD.P.q_oNone, LD.P.soK_i, LD.P.rix_s, LD.P.rix_fs, LD.lkG_s, LD.leG_s, LD.q_SLock, LD.q_ELock, LD.lkS_r, LD.lkE_r, LD.lockM_d, LD.unlM_f, LD.unlS_n, LD.unlS_r, LD.unlE_o, LD.nxK_s, LD.rtK_s, LD.okU_s, LD.q_iDic, LD.fdR_r, LD.fdK_f, LD.dcmK_l, LD.q_Dcm, LD.finDK_t, LD.finDK_f, LD.q_LItems, LD.itmR_r, LD.itmK_d, LD.rixK_f, LD.v_lenO, LD.v_eqQi, LD.v_neQi, LD.v_mulGi, LD.q_Ins, LD.q_App, LD.okS_t, LD.v_isLst, LD.lstK_s, LD.v_app, LD.q_Rev, LD.lsK_s, LD.q_Get, LD.getKK_s, LD.v_lsL, LD.v_keyI, LD.v_keyS, Option.isSome_some, Option.isSome_none, Option.getD_some, Option.getD_none, LD.v_eqs, LD.v_nes, LD.v_isiBb, LD.q_C, LD.q_Var, LD.q_Bin, LD.q_Un, LD.q_tOf, LD.q_tCmp, LD.q_tAnd, LD.q_tOr, LD.q_tNot, LD.q_And, LD.q_Or, LD.q_Not, LD.q_If, LD.q_Nil, LD.q_Cons, LD.q_Tup, LD.q_Lst, LD.q_LstM, LD.q_Call, LD.q_Meth, LD.q_Attr, LD.q_Blt, LD.q_Comp, LD.q_iOf, LD.srcK_s, LD.v_truB, LD.v_truL, LD.v_truN, LD.v_srcL, LD.v_neg, LD.q_iRange, LD.q_Next, LD.q_Seq, LD.q_Expr, LD.q_Ret, LD.q_RetN, LD.q_SIf, LD.q_Bk, LD.q_Ct, LD.q_Asg, LD.q_Nm, LD.q_Sub, LD.q_Del, LD.q_Fld, LD.q_Dic, LD.q_For, LD.wipeD, Bool.not_true, Bool.not_false, LD.ifT, LD.le0, LD.le1, LD.le2, LD.le3, LD.le4, LD.le5, LD.le6, LD.cmpK_l, LD.nn_n, LD.nn_i, LD.nn_t, LD.nn_l, LD.nn_r, LD.nn_b, LD.nn_s, LD.nonK_n, LD.okK_o, LD.bind_k, LD.bind_b, LD.bind_e, LD.bindS_k, LD.bindS_e, LD.ofO_s, LD.getV_s, LD.truK_s, LD.blK_b, LD.refK_r, LD.insK_i, LD.lookK_s, LD.lookK_n, LD.refS_r, LD.insS_i, LD.lookS_s, LD.seq_n, LD.seq_r, LD.seq_b, LD.seq_c, LD.seq_e, LD.storeK_s, LD.memK_s, LD.endF_n, LD.endF_r, LD.endF_e, LD.pick_t, LD.pick_f, LD.finL_f, LD.finL_t, LD.v_add, LD.v_sub, LD.v_mulR, LD.v_fdiv, LD.v_mod, LD.v_int, LD.v_lt, LD.v_le, LD.v_gt, LD.v_ge, LD.v_eq, LD.v_ne, LD.v_len, LD.v_tix, LD.v_lix, LD.v_rix, LD.rixK_l, LD.rixK_d, LD.v_isN, LD.v_isnN, LD.v_isNone, LD.v_isNoneN, LD.startD, List.length_cons, List.length_nil, List.map_cons, List.map_nil, List.cons_append, List.nil_append, List.append_nil, List.getElem?_cons_zero, List.getElem?_cons_succ, List.set_cons_zero, List.set_cons_succ, List.replicate_succ, List.replicate_zero, Nat.reduceAdd, Nat.reduceSub, Nat.reduceBEq, Int.reduceLT, Int.reduceNeg, Int.reduceLE, Nat.reduceLeDiff, Nat.reduceLT, List.lookup_cons, List.lookup_nil, beq_self_eq_true, Option.map_some, Option.map_none, LD.q_DispK, hd, LD.dispK_s, hz, e]
end K68
namespace K68
open PySem PySem.Spec PyProof.Rows L2 LD
open P (Kp)
/-! ### texts as lists of signs -/
abbrev L (x : Str) : List Nat := x.cps.toList
theorem str_ext {a b : Str} (h : L a = L b) : a = b := by
  obtain ⟨x⟩ := a
  obtain ⟨y⟩ := b
  have e : x = y := Array.toList_inj.mp h
  rw [e]
theorem L_app {a b : Str} : L (a ++ b) = L a ++ L b := Array.toList_append
theorem L_len {a : Str} : (L a).length = a.length := Array.length_toList
def r1 (c : Nat) (z l : List Nat) : List Nat := l.flatMap fun d => if d = c then z else [d]
theorem r1_app {c : Nat} {z a b : List Nat} : r1 c z (a ++ b) = r1 c z a ++ r1 c z b := List.flatMap_append
theorem repl_r1 {c : Nat} {z : List Nat} : ∀ l : List Nat, StrLaws.replL [c] z l = r1 c z l
  | [] => StrLaws.replL_nil
  | d :: l => by
    by_cases h : d = c
    · subst h
      rw [StrLaws.replL_hit (by simp) rfl]
      show z ++ StrLaws.replL [d] z l = _
      rw [repl_r1 l]
      unfold r1
      rw [List.flatMap_cons, if_pos rfl]
    · rw [StrLaws.replL_miss (fun e => h (by simpa using e)), repl_r1 l]
      unfold r1
      rw [List.flatMap_cons, if_neg h] <;> rfl
theorem repl1 {x y z : Str} {c : Nat} (hy : L y = [c]) : L (Txt.replace x y z) = r1 c (L z) (L x) := by
  have hl : 1 ≤ y.length := by
    rw [← L_len, hy]
    exact Nat.le_refl _
  refine (StrLaws.replace_list hl).trans ?_
  show StrLaws.replL (L y) (L z) (L x) = _
  rw [hy, repl_r1]
theorem r1_ge {c : Nat} {z : List Nat} (hz : 1 ≤ z.length) : ∀ l : List Nat, l.length ≤ (r1 c z l).length
  | [] => Nat.zero_le _
  | d :: l => by
    have ih := r1_ge (c := c) hz l
    unfold r1 at ih ⊢
    rw [List.flatMap_cons, List.length_append, List.length_cons]
    by_cases h : d = c
    · rw [if_pos h]; omega
    · rw [if_neg h, List.length_singleton]; omega
def amp : Str := "&amp;"
def lts : Str := "&lt;"
def gts : Str := "&gt;"
def quo : Str := "&quot;"
def es (l : List Nat) : List Nat := r1 62 (L gts) (r1 60 (L lts) (r1 38 (L amp) l))
def vl (l : List Nat) : List Nat := r1 34 (L quo) (r1 60 (L lts) (r1 38 (L amp) l))
theorem es_app {a b : List Nat} : es (a ++ b) = es a ++ es b := by unfold es; rw [r1_app, r1_app, r1_app]
theorem vl_app {a b : List Nat} : vl (a ++ b) = vl a ++ vl b := by unfold vl; rw [r1_app, r1_app, r1_app]
theorem r1_one {c d : Nat} {z : List Nat} (h : d ≠ c) : r1 c z [d] = [d] := by
  unfold r1
  rw [List.flatMap_cons, if_neg h] <;> rfl
theorem es_le : ∀ l : List Nat, (es l).length ≤ 5 * l.length
  | [] => Nat.le_refl _
  | d :: l => by
    have ih := es_le l
    have h1 : (es [d]).length ≤ 5 := by
      by_cases h : d = 38
      · subst h; decide
      · by_cases h2 : d = 60
        · subst h2; decide
        · by_cases h3 : d = 62
          · subst h3; decide
          · unfold es
            rw [r1_one h, r1_one h2, r1_one h3]
            show 1 ≤ _
            decide
    rw [show d :: l = [d] ++ l from rfl, es_app, List.length_append, List.length_append, List.length_singleton]
    omega
theorem vl_le : ∀ l : List Nat, (vl l).length ≤ 6 * l.length
  | [] => Nat.le_refl _
  | d :: l => by
    have ih := vl_le l
    have h1 : (vl [d]).length ≤ 6 := by
      by_cases h : d = 38
      · subst h; decide
      · by_cases h2 : d = 60
        · subst h2; decide
        · by_cases h3 : d = 34
          · subst h3; decide
          · unfold vl
            rw [r1_one h, r1_one h2, r1_one h3]
            show 1 ≤ _
            decide
    rw [show d :: l = [d] ++ l from rfl, vl_app, List.length_append, List.length_append, List.length_singleton]
    omega
theorem es_ge (l : List Nat) : l.length ≤ (es l).length := by
  unfold es
  have h1 := r1_ge (c := 38) (z := L amp) (by decide) l
  have h2 := r1_ge (c := 60) (z := L lts) (by decide) (r1 38 (L amp) l)
  have h3 := r1_ge (c := 62) (z := L gts) (by decide) (r1 60 (L lts) (r1 38 (L amp) l))
  omega
theorem repl_ok {φ : Sem1 D} {s : DS} {M : Mem} {x y z : Str} (h : φ s M = .ok (.str x) M) (hz : z.length ≤ 6) (hx : x.length ≤ 2000000) : eRepl φ y z s M = .ok (.str (Txt.replace x y z)) M := by
  unfold eRepl
  rw [h]
  show (if x.length + (x.length + 1) * z.length ≤ LINE then _ else _) = _
  have h1 : (x.length + 1) * z.length ≤ (x.length + 1) * 6 := Nat.mul_le_mul_left _ hz
  have : LINE = 16777216 := rfl
  rw [if_pos (by omega)]
theorem wtext_eq {x : Str} (M : Mem) (hx : (es (L x)).length ≤ 2000000) : ∃ y : Str, φ_write_text [.str x] M = .ok (.str y) M ∧ L y = es (L x) := by
  have e1 : L (Txt.replace x "&" "&amp;") = r1 38 (L amp) (L x) := repl1 rfl
  have e2 : L (Txt.replace (Txt.replace x "&" "&amp;") "<" "&lt;") = r1 60 (L lts) (r1 38 (L amp) (L x)) := by rw [repl1 (c := 60) rfl, e1] <;> rfl
  have e3 : L (Txt.replace (Txt.replace (Txt.replace x "&" "&amp;") "<" "&lt;") ">" "&gt;") = es (L x) := by rw [repl1 (c := 62) rfl, e2] <;> rfl
  have h3 := r1_ge (c := 62) (z := L gts) (by decide) (r1 60 (L lts) (r1 38 (L amp) (L x)))
  have h2 := r1_ge (c := 60) (z := L lts) (by decide) (r1 38 (L amp) (L x))
  have h1 := r1_ge (c := 38) (z := L amp) (by decide) (L x)
  have he : es (L x) = r1 62 (L gts) (r1 60 (L lts) (r1 38 (L amp) (L x))) := rfl
  rw [← he] at h3
  have l1 := congrArg List.length e1
  have l2 := congrArg List.length e2
  rw [L_len] at l1 l2
  have q : eRepl (eRepl (eRepl (eVar 0) "&" "&amp;") "<" "&lt;") ">" "&gt;" [some (.str x)] M = .ok (.str (Txt.replace (Txt.replace (Txt.replace x "&" "&amp;") "<" "&lt;") ">" "&gt;")) M :=
    repl_ok (repl_ok (repl_ok rfl (by decide) (by rw [← L_len]; omega)) (by decide) (by omega)) (by decide) (by omega)
  refine ⟨_, ?_, e3⟩
  unfold φ_write_text
  refine run_def rfl ?_
  unfold ψ_write_text
  simp only [LD.q_RaiseF, LD.raiK_1, LD.raiK_2, LD.raiK_3, LD.q_Chain, LD.chC_t, LD.chC_f, LD.q_tCh, LD.blC_t, LD.blC_f, LD.q_Aug, LD.augR_r, LD.augF_c, LD.augV_i, LD.augS_i, LD.augT_i, LD.q_Pop, LD.v_pop, LD.popK_s, LD.q_Range3, LD.q_iRev, LD.revR_t, LD.revR_l, LD.q_DicF, LD.P.q_Slice, LD.P.q_oSome, LD.P.q_oNone, LD.P.soK_i, LD.P.rix_s, LD.P.rix_fs, LD.lkG_s, LD.leG_s, LD.q_SLock, LD.q_ELock, LD.lkS_r, LD.lkE_r, LD.lockM_d, LD.unlM_f, LD.unlS_n, LD.unlS_r, LD.unlE_o, LD.nxK_s, LD.rtK_s, LD.okU_s, LD.q_iDic, LD.fdR_r, LD.fdK_f, LD.dcmK_l, LD.q_Dcm, LD.finDK_t, LD.finDK_f, LD.q_LItems, LD.itmR_r, LD.itmK_d, LD.rixK_f, LD.v_lenO, LD.v_eqQi, LD.v_neQi, LD.v_mulGi, LD.q_Ins, LD.q_App, LD.okS_t, LD.v_isLst, LD.lstK_s, LD.v_app, LD.q_Rev, LD.lsK_s, LD.q_Get, LD.getKK_s, LD.v_lsL, LD.v_keyI, LD.v_keyS, Option.isSome_some, Option.isSome_none, Option.getD_some, Option.getD_none, LD.v_eqs, LD.v_nes, LD.v_isiBb, LD.q_C, LD.q_Var, LD.q_Bin, LD.q_Un, LD.q_tOf, LD.q_tCmp, LD.q_tAnd, LD.q_tOr, LD.q_tNot, LD.q_And, LD.q_Or, LD.q_Not, LD.q_If, LD.q_Nil, LD.q_Cons, LD.q_Tup, LD.q_Lst, LD.q_LstM, LD.q_Call, LD.q_Meth, LD.q_Attr, LD.q_Blt, LD.q_Comp, LD.q_iOf, LD.srcK_s, LD.v_truB, LD.v_truL, LD.v_truN, LD.v_srcL, LD.v_neg, LD.q_iRange, LD.q_Next, LD.q_Seq, LD.q_Expr, LD.q_Ret, LD.q_RetN, LD.q_SIf, LD.q_Bk, LD.q_Ct, LD.q_Asg, LD.q_Nm, LD.q_Sub, LD.q_Del, LD.q_Fld, LD.q_Dic, LD.q_For, LD.wipeD, Bool.not_true, Bool.not_false, LD.ifT, LD.le0, LD.le1, LD.le2, LD.le3, LD.le4, LD.le5, LD.le6, LD.cmpK_l, LD.nn_n, LD.nn_i, LD.nn_t, LD.nn_l, LD.nn_r, LD.nn_b, LD.nn_s, LD.nonK_n, LD.okK_o, LD.bind_k, LD.bind_b, LD.bind_e, LD.bindS_k, LD.bindS_e, LD.ofO_s, LD.getV_s, LD.truK_s, LD.blK_b, LD.refK_r, LD.insK_i, LD.lookK_s, LD.lookK_n, LD.refS_r, LD.insS_i, LD.lookS_s, LD.seq_n, LD.seq_r, LD.seq_b, LD.seq_c, LD.seq_e, LD.storeK_s, LD.memK_s, LD.endF_n, LD.endF_r, LD.endF_e, LD.pick_t, LD.pick_f, LD.finL_f, LD.finL_t, LD.v_add, LD.v_sub, LD.v_mulR, LD.v_fdiv, LD.v_mod, LD.v_int, LD.v_lt, LD.v_le, LD.v_gt, LD.v_ge, LD.v_eq, LD.v_ne, LD.v_len, LD.v_tix, LD.v_lix, LD.v_rix, LD.rixK_l, LD.rixK_d, LD.v_isN, LD.v_isnN, LD.v_isNone, LD.v_isNoneN, LD.startD, List.length_cons, List.length_nil, List.map_cons, List.map_nil, List.cons_append, List.nil_append, List.append_nil, List.getElem?_cons_zero, List.getElem?_cons_succ, List.set_cons_zero, List.set_cons_succ, List.replicate_succ, List.replicate_zero, Nat.reduceAdd, Nat.reduceSub, Nat.reduceBEq, Int.reduceLT, Int.reduceNeg, Int.reduceLE, Nat.reduceLeDiff, Nat.reduceLT, List.lookup_cons, List.lookup_nil, beq_self_eq_true, Option.map_some, Option.map_none, q]
theorem wval_eq {x : Str} (M : Mem) (hx : x.length ≤ 6) : ∃ y : Str, φ_write_value [.str x] M = .ok (.str y) M ∧ L y = vl (L x) := by
  have e1 : L (Txt.replace x "&" "&amp;") = r1 38 (L amp) (L x) := repl1 rfl
  have e2 : L (Txt.replace (Txt.replace x "&" "&amp;") "<" "&lt;") = r1 60 (L lts) (r1 38 (L amp) (L x)) := by rw [repl1 (c := 60) rfl, e1] <;> rfl
  have e3 : L (Txt.replace (Txt.replace (Txt.replace x "&" "&amp;") "<" "&lt;") "\"" "&quot;") = vl (L x) := by rw [repl1 (c := 34) rfl, e2] <;> rfl
  have h3 := r1_ge (c := 34) (z := L quo) (by decide) (r1 60 (L lts) (r1 38 (L amp) (L x)))
  have h2 := r1_ge (c := 60) (z := L lts) (by decide) (r1 38 (L amp) (L x))
  have he : vl (L x) = r1 34 (L quo) (r1 60 (L lts) (r1 38 (L amp) (L x))) := rfl
  rw [← he] at h3
  have hv := vl_le (L x)
  rw [L_len] at hv
  have l1 := congrArg List.length e1
  have l2 := congrArg List.length e2
  rw [L_len] at l1 l2
  have q : eRepl (eRepl (eRepl (eVar 0) "&" "&amp;") "<" "&lt;") "\"" "&quot;" [some (.str x)] M = .ok (.str (Txt.replace (Txt.replace (Txt.replace x "&" "&amp;") "<" "&lt;") "\"" "&quot;")) M :=
    repl_ok (repl_ok (repl_ok rfl (by decide) (by omega)) (by decide) (by omega)) (by decide) (by omega)
  refine ⟨_, ?_, e3⟩
  unfold φ_write_value
  refine run_def rfl ?_
  unfold ψ_write_value
  simp only [LD.q_RaiseF, LD.raiK_1, LD.raiK_2, LD.raiK_3, LD.q_Chain, LD.chC_t, LD.chC_f, LD.q_tCh, LD.blC_t, LD.blC_f, LD.q_Aug, LD.augR_r, LD.augF_c, LD.augV_i, LD.augS_i, LD.augT_i, LD.q_Pop, LD.v_pop, LD.popK_s, LD.q_Range3, LD.q_iRev, LD.revR_t, LD.revR_l, LD.q_DicF, LD.P.q_Slice, LD.P.q_oSome, LD.P.q_oNone, LD.P.soK_i, LD.P.rix_s, LD.P.rix_fs, LD.lkG_s, LD.leG_s, LD.q_SLock, LD.q_ELock, LD.lkS_r, LD.lkE_r, LD.lockM_d, LD.unlM_f, LD.unlS_n, LD.unlS_r, LD.unlE_o, LD.nxK_s, LD.rtK_s, LD.okU_s, LD.q_iDic, LD.fdR_r, LD.fdK_f, LD.dcmK_l, LD.q_Dcm, LD.finDK_t, LD.finDK_f, LD.q_LItems, LD.itmR_r, LD.itmK_d, LD.rixK_f, LD.v_lenO, LD.v_eqQi, LD.v_neQi, LD.v_mulGi, LD.q_Ins, LD.q_App, LD.okS_t, LD.v_isLst, LD.lstK_s, LD.v_app, LD.q_Rev, LD.lsK_s, LD.q_Get, LD.getKK_s, LD.v_lsL, LD.v_keyI, LD.v_keyS, Option.isSome_some, Option.isSome_none, Option.getD_some, Option.getD_none, LD.v_eqs, LD.v_nes, LD.v_isiBb, LD.q_C, LD.q_Var, LD.q_Bin, LD.q_Un, LD.q_tOf, LD.q_tCmp, LD.q_tAnd, LD.q_tOr, LD.q_tNot, LD.q_And, LD.q_Or, LD.q_Not, LD.q_If, LD.q_Nil, LD.q_Cons, LD.q_Tup, LD.q_Lst, LD.q_LstM, LD.q_Call, LD.q_Meth, LD.q_Attr, LD.q_Blt, LD.q_Comp, LD.q_iOf, LD.srcK_s, LD.v_truB, LD.v_truL, LD.v_truN, LD.v_srcL, LD.v_neg, LD.q_iRange, LD.q_Next, LD.q_Seq, LD.q_Expr, LD.q_Ret, LD.q_RetN, LD.q_SIf, LD.q_Bk, LD.q_Ct, LD.q_Asg, LD.q_Nm, LD.q_Sub, LD.q_Del, LD.q_Fld, LD.q_Dic, LD.q_For, LD.wipeD, Bool.not_true, Bool.not_false, LD.ifT, LD.le0, LD.le1, LD.le2, LD.le3, LD.le4, LD.le5, LD.le6, LD.cmpK_l, LD.nn_n, LD.nn_i, LD.nn_t, LD.nn_l, LD.nn_r, LD.nn_b, LD.nn_s, LD.nonK_n, LD.okK_o, LD.bind_k, LD.bind_b, LD.bind_e, LD.bindS_k, LD.bindS_e, LD.ofO_s, LD.getV_s, LD.truK_s, LD.blK_b, LD.refK_r, LD.insK_i, LD.lookK_s, LD.lookK_n, LD.refS_r, LD.insS_i, LD.lookS_s, LD.seq_n, LD.seq_r, LD.seq_b, LD.seq_c, LD.seq_e, LD.storeK_s, LD.memK_s, LD.endF_n, LD.endF_r, LD.endF_e, LD.pick_t, LD.pick_f, LD.finL_f, LD.finL_t, LD.v_add, LD.v_sub, LD.v_mulR, LD.v_fdiv, LD.v_mod, LD.v_int, LD.v_lt, LD.v_le, LD.v_gt, LD.v_ge, LD.v_eq, LD.v_ne, LD.v_len, LD.v_tix, LD.v_lix, LD.v_rix, LD.rixK_l, LD.rixK_d, LD.v_isN, LD.v_isnN, LD.v_isNone, LD.v_isNoneN, LD.startD, List.length_cons, List.length_nil, List.map_cons, List.map_nil, List.cons_append, List.nil_append, List.append_nil, List.getElem?_cons_zero, List.getElem?_cons_succ, List.set_cons_zero, List.set_cons_succ, List.replicate_succ, List.replicate_zero, Nat.reduceAdd, Nat.reduceSub, Nat.reduceBEq, Int.reduceLT, Int.reduceNeg, Int.reduceLE, Nat.reduceLeDiff, Nat.reduceLT, List.lookup_cons, List.lookup_nil, beq_self_eq_true, Option.map_some, Option.map_none, q]
/-! ### joining -/
theorem join_L : ∀ ys : List Str, L (Str.join "" ys) = ys.flatMap L
  | [] => rfl
  | [y] => by simp [Str.join]
  | x :: z :: r => by
    have e : Str.join "" (x :: z :: r) = x ++ "" ++ Str.join "" (z :: r) := rfl
    have h0 : L "" = [] := rfl
    rw [e, L_app, L_app, join_L (z :: r), h0, List.append_nil, List.flatMap_cons] <;> rfl
theorem tjoin_L (ys : List Str) : L (Txt.join "" ys) = ys.flatMap L := by
  have e : Txt.join "" ys = Str.join "" ys := by
    show Builtin.Str.glued (PySem.Str.ofString "") ys = _
    exact StrLaws.glued_eq_join _ _
  rw [e]
  exact join_L ys
theorem sum_L (ys : List Str) : (ys.map (·.length)).sum = (ys.flatMap L).length := by
  induction ys with
  | nil => rfl
  | cons y ys ih => rw [List.map_cons, List.sum_cons, ih, List.flatMap_cons, List.length_append, L_len]
theorem joinR {p : Nat} {M : Mem} {ys : List Str} (h : M[p]? = some (.lst (ys.map .str))) (hl : (ys.flatMap L).length ≤ 2000000) : joinG (.str "") [.ref p] M = some (.str (Txt.join "" ys), M) := by
  have e0 : lsOf M (.ref p) = some (ys.map .str) := v_lsR h
  show (match (match tupO (.ref p) with | some xs => some xs | none => lsOf M (.ref p)) with | some xs => _ | none => none) = _
  show (match lsOf M (.ref p) with | some xs => _ | none => none) = _
  rw [e0]
  show (match strsOf (ys.map .str) with | some ys => _ | none => none) = _
  rw [strs_map]
  have : LINE = 16777216 := rfl
  exact if_pos (by rw [sum_L]; show _ + ys.length * 0 ≤ _; omega)
end K68
namespace K68
open PySem PySem.Spec PyProof.Rows L2 LD
open P (Kp)
theorem okUp {b : Nat} {M : Mem} : ∀ {h : Nat} {t : Nd}, Ok b M h t → Ok b M (h + 1) t
  | 0, _, o => o.elim
  | h + 1, .txt _, o => o
  | h + 1, .el tag a ps d ks, o => ⟨o.1, o.2.1, o.2.2.1, o.2.2.2.1, o.2.2.2.2.1, fun k hk => okUp (o.2.2.2.2.2 k hk)⟩
  | h + 1, .aw n d ks, o => ⟨o.1, fun k hk => okUp (o.2 k hk)⟩
theorem ls_lt {M : Mem} {d : D} {xs : List D} (h : lsOf M d = some xs) : ∀ r, d = .ref r → r < M.length := fun r e => by
  subst e
  exact P.lt_of (lsOf_ref h)
theorem Ok.lt {b : Nat} {M : Mem} : ∀ {h : Nat} {t : Nd}, Ok b M h t → In (fun i => i < M.length) h t
  | 0, _, o => o.elim
  | h + 1, .txt _, _ => trivial
  | h + 1, .el tag a ps d ks, o => ⟨ls_lt o.2.1, ls_lt o.2.2.2.2.1, fun k hk => Ok.lt (o.2.2.2.2.2 k hk)⟩
  | h + 1, .aw n d ks, o => ⟨ls_lt o.1.2, fun k hk => Ok.lt (o.2 k hk)⟩
theorem Ok.all {b : Nat} {M M' : Mem} (e : P.Ext M M') {h : Nat} {t : Nd} (o : Ok b M h t) : Ok b M' h t := Ok.ext (P := fun i => i < M.length) (fun i o _ q => e i o q) o o.lt
theorem src_at {M : Mem} {x : D} {xs : List D} (h : lsOf M x = some xs) : ∃ chk, srcOf M x = some ⟨xs, chk⟩ ∧ ∀ M', lsOf M' x = some xs → chk M' = true := by
  rcases lsOf_is h with rfl | ⟨r, rfl, q⟩
  · exact ⟨_, rfl, fun _ _ => rfl⟩
  · refine ⟨_, by simp only [srcOf, q]; rfl, fun M' h' => ?_⟩
    simp only [lsOf_ref h']
    exact eqbL_refl xs
theorem adds {a b : Str} (h : a.length + b.length ≤ 2000000) (N : Mem) : addD (.str a) (.str b) N = some (.str (a ++ b), N) := if_pos (by have : LINE = 16777216 := rfl; omega)
/-! ### what is written -/
def atL (p : Str × Str) : List Nat := L " " ++ L p.1 ++ L "=\"" ++ vl (L p.2) ++ L "\""
def startL (t : Str) (ps : List (Str × Str)) : List Nat := L "<" ++ L t ++ ps.flatMap atL ++ L ">"
def pl : Nat → Nd → List Nat
  | 0, _ => []
  | _ + 1, .txt x => es (L x)
  | h + 1, .el t _ ps _ ks => startL t ps ++ ks.flatMap (pl h) ++ L "</" ++ L t ++ L ">"
  | h + 1, .aw _ _ ks => ks.flatMap (pl h)
theorem atL_le {p : Str × Str} (h : sOk 6 p.1 ∧ sOk 6 p.2) : (atL p).length ≤ 46 := by
  have h1 := vl_le (L p.2)
  have h2 := h.1.1
  have h3 := h.2.1
  rw [L_len] at h1
  unfold atL
  simp only [List.length_append, L_len]
  have e1 : (" " : Str).length = 1 := rfl
  have e2 : ("=\"" : Str).length = 2 := rfl
  have e3 : ("\"" : Str).length = 1 := rfl
  omega
theorem flat_le {α : Type} {f : α → List Nat} {B : Nat} : ∀ {l : List α}, (∀ a ∈ l, (f a).length ≤ B) → (l.flatMap f).length ≤ B * l.length
  | [], _ => Nat.zero_le _
  | a :: l, h => by
    have h1 := h a List.mem_cons_self
    have h2 := flat_le (B := B) (l := l) fun b hb => h b (List.mem_cons_of_mem _ hb)
    rw [List.flatMap_cons, List.length_append, List.length_cons, Nat.mul_succ]
    omega
theorem flat_mem {α : Type} {f : α → List Nat} {a : α} : ∀ {l : List α}, a ∈ l → (f a).length ≤ (l.flatMap f).length
  | b :: l, h => by
    rw [List.flatMap_cons, List.length_append]
    rcases List.mem_cons.mp h with rfl | h
    · omega
    · have := flat_mem (f := f) h
      omega
theorem ws_loop {tag a : D} {M : Mem} {chk : Mem → Bool} : ∀ (ps : List (Str × Str)) (ys : List Str) (x3 x4 : Option D), (∀ zs : List Str, chk (M ++ [.lst (zs.map .str)]) = true) → (∀ p ∈ ps, sOk 6 p.1 ∧ sOk 6 p.2) → ys.length + ps.length ≤ 100 →
    ∃ (zs : List Str) (y3 y4 : Option D), forV chk (gTp [3, 4]) β_write_start_2 (ps.map prQ) [some tag, some a, some (.ref M.length), x3, x4] (M ++ [.lst (ys.map .str)]) = .nx [some tag, some a, some (.ref M.length), y3, y4] (M ++ [.lst (zs.map .str)]) ∧ zs.flatMap L = ys.flatMap L ++ ps.flatMap atL
  | [], ys, x3, x4, hc, _, _ => ⟨ys, x3, x4, forV_n (hc ys), by rw [List.flatMap_nil, List.append_nil]⟩
  | p :: ps, ys, x3, x4, hc, hp, hl => by
    have hq := hp p List.mem_cons_self
    rw [List.length_cons] at hl
    have hM : (M ++ [DO.lst (ys.map .str)])[M.length]? = some (.lst (ys.map .str)) := P.app_at
    obtain ⟨v, e1, e2⟩ := wval_eq (x := p.2) (M ++ [.lst (ys.map .str)]) hq.2.1
    have lv : v.length ≤ 36 := by
      rw [← L_len, e2]
      have h1 := vl_le (L p.2)
      have h3 := hq.2.1
      rw [L_len] at h1
      omega
    have l1 : (" " : Str).length = 1 := rfl
    have l2 : ("=\"" : Str).length = 2 := rfl
    have l3 : ("\"" : Str).length = 1 := rfl
    have sl : ∀ {a b : Str}, (a ++ b).length = a.length + b.length := fun {a b} => slen_app
    have h2 := hq.1.1
    have a1 := adds (a := " ") (b := p.1) (by omega)
    have a2 := adds (a := " " ++ p.1) (b := "=\"") (by rw [sl]; omega)
    have a3 := adds (a := " " ++ p.1 ++ "=\"") (b := v) (by rw [sl, sl]; omega)
    have a4 := adds (a := " " ++ p.1 ++ "=\"" ++ v) (b := "\"") (by rw [sl, sl, sl]; omega)
    have hi : isLst (M ++ [.lst (ys.map .str)]) (.ref M.length) = true := isLst_r hM
    have hap : (ys.map D.str).length < LINE := by rw [List.length_map]; have := P.big; omega
    have hz : (M ++ [DO.lst (ys.map .str)]).set M.length (.lst (ys.map .str ++ [.str (" " ++ p.1 ++ "=\"" ++ v ++ "\"")])) = M ++ [.lst ((ys ++ [" " ++ p.1 ++ "=\"" ++ v ++ "\""]).map .str)] := by
      rw [P.set_end, List.map_append] <;> rfl
    have st : β_write_start_2 [some tag, some a, some (.ref M.length), some (.str p.1), some (.str p.2)] (M ++ [.lst (ys.map .str)]) = .nx [some tag, some a, some (.ref M.length), some (.str p.1), some (.str p.2)] (M ++ [.lst ((ys ++ [" " ++ p.1 ++ "=\"" ++ v ++ "\""]).map .str)]) := by
      unfold β_write_start_2
      simp only [LD.q_RaiseF, LD.raiK_1, LD.raiK_2, LD.raiK_3, LD.q_Chain, LD.chC_t, LD.chC_f, LD.q_tCh, LD.blC_t, LD.blC_f, LD.q_Aug, LD.augR_r, LD.augF_c, LD.augV_i, LD.augS_i, LD.augT_i, LD.q_Pop, LD.v_pop, LD.popK_s, LD.q_Range3, LD.q_iRev, LD.revR_t, LD.revR_l, LD.q_DicF, LD.P.q_Slice, LD.P.q_oSome, LD.P.q_oNone, LD.P.soK_i, LD.P.rix_s, LD.P.rix_fs, LD.lkG_s, LD.leG_s, LD.q_SLock, LD.q_ELock, LD.lkS_r, LD.lkE_r, LD.lockM_d, LD.unlM_f, LD.unlS_n, LD.unlS_r, LD.unlE_o, LD.nxK_s, LD.rtK_s, LD.okU_s, LD.q_iDic, LD.fdR_r, LD.fdK_f, LD.dcmK_l, LD.q_Dcm, LD.finDK_t, LD.finDK_f, LD.q_LItems, LD.itmR_r, LD.itmK_d, LD.rixK_f, LD.v_lenO, LD.v_eqQi, LD.v_neQi, LD.v_mulGi, LD.q_Ins, LD.q_App, LD.okS_t, LD.v_isLst, LD.lstK_s, LD.v_app, LD.q_Rev, LD.lsK_s, LD.q_Get, LD.getKK_s, LD.v_lsL, LD.v_keyI, LD.v_keyS, Option.isSome_some, Option.isSome_none, Option.getD_some, Option.getD_none, LD.v_eqs, LD.v_nes, LD.v_isiBb, LD.q_C, LD.q_Var, LD.q_Bin, LD.q_Un, LD.q_tOf, LD.q_tCmp, LD.q_tAnd, LD.q_tOr, LD.q_tNot, LD.q_And, LD.q_Or, LD.q_Not, LD.q_If, LD.q_Nil, LD.q_Cons, LD.q_Tup, LD.q_Lst, LD.q_LstM, LD.q_Call, LD.q_Meth, LD.q_Attr, LD.q_Blt, LD.q_Comp, LD.q_iOf, LD.srcK_s, LD.v_truB, LD.v_truL, LD.v_truN, LD.v_srcL, LD.v_neg, LD.q_iRange, LD.q_Next, LD.q_Seq, LD.q_Expr, LD.q_Ret, LD.q_RetN, LD.q_SIf, LD.q_Bk, LD.q_Ct, LD.q_Asg, LD.q_Nm, LD.q_Sub, LD.q_Del, LD.q_Fld, LD.q_Dic, LD.q_For, LD.wipeD, Bool.not_true, Bool.not_false, LD.ifT, LD.le0, LD.le1, LD.le2, LD.le3, LD.le4, LD.le5, LD.le6, LD.cmpK_l, LD.nn_n, LD.nn_i, LD.nn_t, LD.nn_l, LD.nn_r, LD.nn_b, LD.nn_s, LD.nonK_n, LD.okK_o, LD.bind_k, LD.bind_b, LD.bind_e, LD.bindS_k, LD.bindS_e, LD.ofO_s, LD.getV_s, LD.truK_s, LD.blK_b, LD.refK_r, LD.insK_i, LD.lookK_s, LD.lookK_n, LD.refS_r, LD.insS_i, LD.lookS_s, LD.seq_n, LD.seq_r, LD.seq_b, LD.seq_c, LD.seq_e, LD.storeK_s, LD.memK_s, LD.endF_n, LD.endF_r, LD.endF_e, LD.pick_t, LD.pick_f, LD.finL_f, LD.finL_t, LD.v_add, LD.v_sub, LD.v_mulR, LD.v_fdiv, LD.v_mod, LD.v_int, LD.v_lt, LD.v_le, LD.v_gt, LD.v_ge, LD.v_eq, LD.v_ne, LD.v_len, LD.v_tix, LD.v_lix, LD.v_rix, LD.rixK_l, LD.rixK_d, LD.v_isN, LD.v_isnN, LD.v_isNone, LD.v_isNoneN, LD.startD, List.length_cons, List.length_nil, List.map_cons, List.map_nil, List.cons_append, List.nil_append, List.append_nil, List.getElem?_cons_zero, List.getElem?_cons_succ, List.set_cons_zero, List.set_cons_succ, List.replicate_succ, List.replicate_zero, Nat.reduceAdd, Nat.reduceSub, Nat.reduceBEq, Int.reduceLT, Int.reduceNeg, Int.reduceLE, Nat.reduceLeDiff, Nat.reduceLT, List.lookup_cons, List.lookup_nil, beq_self_eq_true, Option.map_some, Option.map_none, e1, a1, a2, a3, a4, hi, hM, appK_s hap, hz]
    obtain ⟨zs, y3, y4, f1, f2⟩ := ws_loop (tag := tag) (a := a) (M := M) (chk := chk) ps (ys ++ [" " ++ p.1 ++ "=\"" ++ v ++ "\""]) (some (.str p.1)) (some (.str p.2)) hc (fun q hq => hp q (List.mem_cons_of_mem _ hq)) (by rw [List.length_append, List.length_singleton]; omega)
    refine ⟨zs, y3, y4, ?_, ?_⟩
    · rw [List.map_cons]
      exact (forV_c (hc ys) rfl st).trans f1
    · rw [f2, List.flatMap_append, List.flatMap_cons, List.append_assoc]
      congr 1
      rw [List.flatMap_cons, List.flatMap_nil, List.append_nil]
      congr 1
      rw [L_app, L_app, L_app, L_app, e2] <;> rfl
theorem join_bm {α : Sem1 (List D)} {s : DS} {M : Mem} {p : Nat} {ys : List Str} (h : α s M = .ok [.ref p] M) (hM : M[p]? = some (.lst (ys.map .str))) (hl : (ys.flatMap L).length ≤ 2000000) : eBm isStrD joinG (eC (.str "")) α s M = .ok (.str (Txt.join "" ys)) M := by
  show (α s M).bind _ = _
  rw [h]
  show ofO (joinG (.str "") [.ref p] M) = _
  rw [joinR hM hl] <;> rfl
theorem start_eq {tag : Str} {a : D} {ps : List (Str × Str)} {M : Mem} (h : lsOf M a = some (ps.map prQ)) (ht : sOk 6 tag) (hp : ∀ p ∈ ps, sOk 6 p.1 ∧ sOk 6 p.2) (hl : ps.length ≤ 3) : ∃ (y : Str) (M' : Mem), φ_write_start [.str tag, a] M = .ok (.str y) M' ∧ L y = startL tag ps ∧ P.Ext M M' := by
  have l1 : ("<" : Str).length = 1 := rfl
  have l2 : (">" : Str).length = 1 := rfl
  have lt := ht.1
  have a1 := adds (a := "<") (b := tag) (by omega)
  have h1 : lsOf (M ++ [DO.lst [.str ("<" ++ tag)]]) a = some (ps.map prQ) := ls_ext (P := fun i => i < M.length) (fun i o _ q => P.grow q) h (ls_lt h)
  obtain ⟨chk, e1, e2⟩ := src_at h1
  obtain ⟨zs, y3, y4, f1, f2⟩ := ws_loop (tag := .str tag) (a := a) (M := M) (chk := chk) ps ["<" ++ tag] none none (fun zs => e2 _ (ls_ext (P := fun i => i < M.length) (fun i o _ q => P.grow q) h (ls_lt h))) hp (by rw [List.length_singleton]; omega)
  have f1 : forV chk (gTp [3, 4]) β_write_start_2 (ps.map prQ) [some (.str tag), some a, some (.ref M.length), none, none] (M ++ [DO.lst [.str ("<" ++ tag)]]) = .nx [some (.str tag), some a, some (.ref M.length), y3, y4] (M ++ [.lst (zs.map .str)]) := f1
  have hz : (zs.flatMap L).length ≤ 200 := by
    rw [f2, List.length_append]
    have q := flat_le (f := atL) (B := 46) (l := ps) fun p hq => atL_le (hp p hq)
    simp only [List.flatMap_cons, List.flatMap_nil, List.append_nil, L_len]
    rw [slen_app]
    omega
  have hj := join_bm (α := aCons (eVar 2) aNil) (s := [some (.str tag), some a, some (.ref M.length), y3, y4]) (M := M ++ [.lst (zs.map .str)]) (p := M.length) (ys := zs) rfl P.app_at (by omega)
  have hjl : (Txt.join "" zs).length ≤ 200 := by rw [← L_len, tjoin_L]; exact hz
  have a2 := adds (a := Txt.join "" zs) (b := ">") (by omega)
  refine ⟨Txt.join "" zs ++ ">", M ++ [.lst (zs.map .str)], ?_, ?_, .app⟩
  · unfold φ_write_start
    refine run_def rfl ?_
    unfold ψ_write_start
    simp only [LD.q_RaiseF, LD.raiK_1, LD.raiK_2, LD.raiK_3, LD.q_Chain, LD.chC_t, LD.chC_f, LD.q_tCh, LD.blC_t, LD.blC_f, LD.q_Aug, LD.augR_r, LD.augF_c, LD.augV_i, LD.augS_i, LD.augT_i, LD.q_Pop, LD.v_pop, LD.popK_s, LD.q_Range3, LD.q_iRev, LD.revR_t, LD.revR_l, LD.q_DicF, LD.P.q_Slice, LD.P.q_oSome, LD.P.q_oNone, LD.P.soK_i, LD.P.rix_s, LD.P.rix_fs, LD.lkG_s, LD.leG_s, LD.q_SLock, LD.q_ELock, LD.lkS_r, LD.lkE_r, LD.lockM_d, LD.unlM_f, LD.unlS_n, LD.unlS_r, LD.unlE_o, LD.nxK_s, LD.rtK_s, LD.okU_s, LD.q_iDic, LD.fdR_r, LD.fdK_f, LD.dcmK_l, LD.q_Dcm, LD.finDK_t, LD.finDK_f, LD.q_LItems, LD.itmR_r, LD.itmK_d, LD.rixK_f, LD.v_lenO, LD.v_eqQi, LD.v_neQi, LD.v_mulGi, LD.q_Ins, LD.q_App, LD.okS_t, LD.v_isLst, LD.lstK_s, LD.v_app, LD.q_Rev, LD.lsK_s, LD.q_Get, LD.getKK_s, LD.v_lsL, LD.v_keyI, LD.v_keyS, Option.isSome_some, Option.isSome_none, Option.getD_some, Option.getD_none, LD.v_eqs, LD.v_nes, LD.v_isiBb, LD.q_C, LD.q_Var, LD.q_Bin, LD.q_Un, LD.q_tOf, LD.q_tCmp, LD.q_tAnd, LD.q_tOr, LD.q_tNot, LD.q_And, LD.q_Or, LD.q_Not, LD.q_If, LD.q_Nil, LD.q_Cons, LD.q_Tup, LD.q_Lst, LD.q_LstM, LD.q_Call, LD.q_Meth, LD.q_Attr, LD.q_Blt, LD.q_Comp, LD.q_iOf, LD.srcK_s, LD.v_truB, LD.v_truL, LD.v_truN, LD.v_srcL, LD.v_neg, LD.q_iRange, LD.q_Next, LD.q_Seq, LD.q_Expr, LD.q_Ret, LD.q_RetN, LD.q_SIf, LD.q_Bk, LD.q_Ct, LD.q_Asg, LD.q_Nm, LD.q_Sub, LD.q_Del, LD.q_Fld, LD.q_Dic, LD.q_For, LD.wipeD, Bool.not_true, Bool.not_false, LD.ifT, LD.le0, LD.le1, LD.le2, LD.le3, LD.le4, LD.le5, LD.le6, LD.cmpK_l, LD.nn_n, LD.nn_i, LD.nn_t, LD.nn_l, LD.nn_r, LD.nn_b, LD.nn_s, LD.nonK_n, LD.okK_o, LD.bind_k, LD.bind_b, LD.bind_e, LD.bindS_k, LD.bindS_e, LD.ofO_s, LD.getV_s, LD.truK_s, LD.blK_b, LD.refK_r, LD.insK_i, LD.lookK_s, LD.lookK_n, LD.refS_r, LD.insS_i, LD.lookS_s, LD.seq_n, LD.seq_r, LD.seq_b, LD.seq_c, LD.seq_e, LD.storeK_s, LD.memK_s, LD.endF_n, LD.endF_r, LD.endF_e, LD.pick_t, LD.pick_f, LD.finL_f, LD.finL_t, LD.v_add, LD.v_sub, LD.v_mulR, LD.v_fdiv, LD.v_mod, LD.v_int, LD.v_lt, LD.v_le, LD.v_gt, LD.v_ge, LD.v_eq, LD.v_ne, LD.v_len, LD.v_tix, LD.v_lix, LD.v_rix, LD.rixK_l, LD.rixK_d, LD.v_isN, LD.v_isnN, LD.v_isNone, LD.v_isNoneN, LD.startD, List.length_cons, List.length_nil, List.map_cons, List.map_nil, List.cons_append, List.nil_append, List.append_nil, List.getElem?_cons_zero, List.getElem?_cons_succ, List.set_cons_zero, List.set_cons_succ, List.replicate_succ, List.replicate_zero, Nat.reduceAdd, Nat.reduceSub, Nat.reduceBEq, Int.reduceLT, Int.reduceNeg, Int.reduceLE, Nat.reduceLeDiff, Nat.reduceLT, List.lookup_cons, List.lookup_nil, beq_self_eq_true, Option.map_some, Option.map_none, a1, e1, f1, hj, a2]
  · rw [L_app, tjoin_L, f2]
    unfold startL
    simp only [List.flatMap_cons, List.flatMap_nil, List.append_nil]
    rw [L_app]
end K68
namespace K68
open PySem PySem.Spec PyProof.Rows L2 LD
open P (Kp)
/-! ### the plain text -/
def Fn (n : Nat) (M M' : Mem) : Prop := ∀ (i : Nat) o, i < n → M[i]? = some o → M'[i]? = some o
theorem Fn.trans {n : Nat} {M M' M'' : Mem} (a : Fn n M M') (b : Fn n M' M'') : Fn n M M'' := fun i o h q => b i o h (a i o h q)
theorem Fn.set {n p : Nat} {M : Mem} {o : DO} (h : n ≤ p) : Fn n M (M.set p o) := fun i u k q => by rw [P.set_at (by omega)]; exact q
theorem Fn.ext {n : Nat} {M M' : Mem} (e : P.Ext M M') : Fn n M M' := fun i o _ q => e i o q
theorem tEl : (("element" : Str) == "text") = false ∧ (("await" : Str) == "text") = false ∧ (("await" : Str) == "element") = false ∧ (("text" : Str) == "element") = false ∧ (("text" : Str) == "await") = false ∧ (("element" : Str) == "await") = false := by decide
theorem b20 {a b : D} : atI [a, b] 0 = some a := rfl
theorem b21 {a b : D} : atI [a, b] 1 = some b := rfl
theorem b30 {a b c : D} : atI [a, b, c] 0 = some a := rfl
theorem b31 {a b c : D} : atI [a, b, c] 1 = some b := rfl
theorem b32 {a b c : D} : atI [a, b, c] 2 = some c := rfl
theorem b40 {a b c d : D} : atI [a, b, c, d] 0 = some a := rfl
theorem b41 {a b c d : D} : atI [a, b, c, d] 1 = some b := rfl
theorem b42 {a b c d : D} : atI [a, b, c, d] 2 = some c := rfl
theorem b43 {a b c d : D} : atI [a, b, c, d] 3 = some d := rfl
theorem len_pl {b h : Nat} {M : Mem} : ∀ {ks : List Nd}, (∀ k ∈ ks, Ok b M h k) → (ks.map (cnt h)).sum ≤ 90000 → ks.length ≤ 90000
  | ks, o, hs => by
    have : ks.length ≤ (ks.map (cnt h)).sum := by
      clear hs
      induction ks with
      | nil => exact Nat.zero_le _
      | cons k ks ih =>
        have := ih fun a ha => o a (List.mem_cons_of_mem _ ha)
        have h1 : 1 ≤ cnt h k := by
          have ok := o k List.mem_cons_self
          cases h with
          | zero => exact ok.elim
          | succ h => cases k <;> simp only [cnt] <;> omega
        rw [List.length_cons, List.map_cons, List.sum_cons]
        omega
    omega
def Cn (h : Nat) (ks : List Nd) : Prop := (ks.map (cnt h)).sum ≤ 4000
theorem Cn.mem {h : Nat} {ks : List Nd} {k : Nd} (c : Cn h ks) (hk : k ∈ ks) : cnt h k ≤ 4000 := by
  unfold Cn at c
  have : ∀ {l : List Nd}, k ∈ l → cnt h k ≤ (l.map (cnt h)).sum := fun {l} => by
    induction l with
    | nil => exact fun h => nomatch h
    | cons a l ih =>
      intro hm
      rw [List.map_cons, List.sum_cons]
      rcases List.mem_cons.mp hm with rfl | hm
      · omega
      · have := ih hm
        omega
  have := this hk
  omega
def Pt (b h : Nat) (φr : FnD) : Prop := ∀ (d : D) (ks : List Nd) (M : Mem), lsOf M d = some (ks.map dv) → (∀ k ∈ ks, Ok b M h k) → (ks.flatMap (pl h)).length ≤ 1000000 → Cn h ks → ∃ (y : Str) (M' : Mem), φr [d] M = .ok (.str y) M' ∧ P.Ext M M' ∧ L y = ks.flatMap (pl h)
theorem app_str {p : Nat} {M : Mem} {ys : List Str} {y : Str} (h : M[p]? = some (.lst (ys.map .str))) : (M.set p (.lst (ys.map D.str ++ [.str y])))[p]? = some (.lst ((ys ++ [y]).map .str)) := by
  rw [List.map_append]
  exact P.set_is h
/-- what is put between tags -/
theorem el_add {s k t : Str} (h : s.length + k.length + t.length ≤ 1100000) : (∀ N, addD (.str s) (.str k) N = some (.str (s ++ k), N)) ∧ (∀ N, addD (.str (s ++ k)) (.str "</") N = some (.str (s ++ k ++ "</"), N)) ∧ (∀ N, addD (.str (s ++ k ++ "</")) (.str t) N = some (.str (s ++ k ++ "</" ++ t), N)) ∧ (∀ N, addD (.str (s ++ k ++ "</" ++ t)) (.str ">") N = some (.str (s ++ k ++ "</" ++ t ++ ">"), N)) := by
  have l1 : ("</" : Str).length = 2 := rfl
  have l2 : (">" : Str).length = 1 := rfl
  have sl : ∀ {a b : Str}, (a ++ b).length = a.length + b.length := fun {a b} => slen_app
  exact ⟨adds (by omega), adds (by rw [sl]; omega), adds (by rw [sl, sl]; omega), adds (by rw [sl, sl, sl]; omega)⟩
theorem plain_body {b h p : Nat} {φr : FnD} (ih : ∀ h', h = h' + 1 → Pt b h' φr) {x0 : Option D} {M : Mem} {ys : List Str} {k : Nd} (hp : M[p]? = some (.lst (ys.map .str))) (o : Ok b M h k) (hi : In (fun i => i < p) h k) (hl : (pl h k).length ≤ 1000000) (hcn : cnt h k ≤ 4000) (hy : ys.length ≤ 100000) :
    ∃ (y : Str) (M' : Mem), β_plain_text_2 φr [x0, some (.ref p), some (dv k)] M = .nx [x0, some (.ref p), some (dv k)] M' ∧ Fn p M M' ∧ M'[p]? = some (.lst ((ys ++ [y]).map .str)) ∧ L y = pl h k := by
  obtain ⟨t1, t2, t3, t4, t5, t6⟩ := tEl
  have his := isLst_r hp
  have hap : (ys.map D.str).length < LINE := by rw [List.length_map]; have := P.big; have e : LINE = 16777216 := rfl; omega
  cases h with
  | zero => exact o.elim
  | succ h =>
    cases k with
    | txt x =>
      obtain ⟨y, e1, e2⟩ := wtext_eq (x := x) M (by show (pl (h + 1) (.txt x)).length ≤ _; omega)
      refine ⟨y, M.set p (.lst (ys.map .str ++ [.str y])), ?_, Fn.set (Nat.le_refl _), app_str hp, e2⟩
      show β_plain_text_2 φr [x0, some (.ref p), some (.tup [.str "text", .str x])] M = _
      unfold β_plain_text_2
      simp only [LD.q_RaiseF, LD.raiK_1, LD.raiK_2, LD.raiK_3, LD.q_Chain, LD.chC_t, LD.chC_f, LD.q_tCh, LD.blC_t, LD.blC_f, LD.q_Aug, LD.augR_r, LD.augF_c, LD.augV_i, LD.augS_i, LD.augT_i, LD.q_Pop, LD.v_pop, LD.popK_s, LD.q_Range3, LD.q_iRev, LD.revR_t, LD.revR_l, LD.q_DicF, LD.P.q_Slice, LD.P.q_oSome, LD.P.q_oNone, LD.P.soK_i, LD.P.rix_s, LD.P.rix_fs, LD.lkG_s, LD.leG_s, LD.q_SLock, LD.q_ELock, LD.lkS_r, LD.lkE_r, LD.lockM_d, LD.unlM_f, LD.unlS_n, LD.unlS_r, LD.unlE_o, LD.nxK_s, LD.rtK_s, LD.okU_s, LD.q_iDic, LD.fdR_r, LD.fdK_f, LD.dcmK_l, LD.q_Dcm, LD.finDK_t, LD.finDK_f, LD.q_LItems, LD.itmR_r, LD.itmK_d, LD.rixK_f, LD.v_lenO, LD.v_eqQi, LD.v_neQi, LD.v_mulGi, LD.q_Ins, LD.q_App, LD.okS_t, LD.v_isLst, LD.lstK_s, LD.v_app, LD.q_Rev, LD.lsK_s, LD.q_Get, LD.getKK_s, LD.v_lsL, LD.v_keyI, LD.v_keyS, Option.isSome_some, Option.isSome_none, Option.getD_some, Option.getD_none, LD.v_eqs, LD.v_nes, LD.v_isiBb, LD.q_C, LD.q_Var, LD.q_Bin, LD.q_Un, LD.q_tOf, LD.q_tCmp, LD.q_tAnd, LD.q_tOr, LD.q_tNot, LD.q_And, LD.q_Or, LD.q_Not, LD.q_If, LD.q_Nil, LD.q_Cons, LD.q_Tup, LD.q_Lst, LD.q_LstM, LD.q_Call, LD.q_Meth, LD.q_Attr, LD.q_Blt, LD.q_Comp, LD.q_iOf, LD.srcK_s, LD.v_truB, LD.v_truL, LD.v_truN, LD.v_srcL, LD.v_neg, LD.q_iRange, LD.q_Next, LD.q_Seq, LD.q_Expr, LD.q_Ret, LD.q_RetN, LD.q_SIf, LD.q_Bk, LD.q_Ct, LD.q_Asg, LD.q_Nm, LD.q_Sub, LD.q_Del, LD.q_Fld, LD.q_Dic, LD.q_For, LD.wipeD, Bool.not_true, Bool.not_false, LD.ifT, LD.le0, LD.le1, LD.le2, LD.le3, LD.le4, LD.le5, LD.le6, LD.cmpK_l, LD.nn_n, LD.nn_i, LD.nn_t, LD.nn_l, LD.nn_r, LD.nn_b, LD.nn_s, LD.nonK_n, LD.okK_o, LD.bind_k, LD.bind_b, LD.bind_e, LD.bindS_k, LD.bindS_e, LD.ofO_s, LD.getV_s, LD.truK_s, LD.blK_b, LD.refK_r, LD.insK_i, LD.lookK_s, LD.lookK_n, LD.refS_r, LD.insS_i, LD.lookS_s, LD.seq_n, LD.seq_r, LD.seq_b, LD.seq_c, LD.seq_e, LD.storeK_s, LD.memK_s, LD.endF_n, LD.endF_r, LD.endF_e, LD.pick_t, LD.pick_f, LD.finL_f, LD.finL_t, LD.v_add, LD.v_sub, LD.v_mulR, LD.v_fdiv, LD.v_mod, LD.v_int, LD.v_lt, LD.v_le, LD.v_gt, LD.v_ge, LD.v_eq, LD.v_ne, LD.v_len, LD.v_tix, LD.v_lix, LD.v_rix, LD.rixK_l, LD.rixK_d, LD.v_isN, LD.v_isnN, LD.v_isNone, LD.v_isNoneN, LD.startD, List.length_cons, List.length_nil, List.map_cons, List.map_nil, List.cons_append, List.nil_append, List.append_nil, List.getElem?_cons_zero, List.getElem?_cons_succ, List.set_cons_zero, List.set_cons_succ, List.replicate_succ, List.replicate_zero, Nat.reduceAdd, Nat.reduceSub, Nat.reduceBEq, Int.reduceLT, Int.reduceNeg, Int.reduceLE, Nat.reduceLeDiff, Nat.reduceLT, List.lookup_cons, List.lookup_nil, beq_self_eq_true, Option.map_some, Option.map_none, b20, b21, his, e1, hp, appK_s hap]
      rfl
    | aw n d ks =>
      obtain ⟨y, M', e1, e2, e3⟩ := ih h rfl d ks M o.1.2 o.2 hl (by have e : cnt (h + 1) (.aw n d ks) = 1 + (ks.map (cnt h)).sum := rfl; show _ ≤ 4000; omega)
      have hp' := e2 _ _ hp
      refine ⟨y, M'.set p (.lst (ys.map .str ++ [.str y])), ?_, (Fn.ext e2).trans (Fn.set (Nat.le_refl _)), app_str hp', e3⟩
      show β_plain_text_2 φr [x0, some (.ref p), some (.tup [.str "await", n, d])] M = _
      unfold β_plain_text_2
      simp only [LD.q_RaiseF, LD.raiK_1, LD.raiK_2, LD.raiK_3, LD.q_Chain, LD.chC_t, LD.chC_f, LD.q_tCh, LD.blC_t, LD.blC_f, LD.q_Aug, LD.augR_r, LD.augF_c, LD.augV_i, LD.augS_i, LD.augT_i, LD.q_Pop, LD.v_pop, LD.popK_s, LD.q_Range3, LD.q_iRev, LD.revR_t, LD.revR_l, LD.q_DicF, LD.P.q_Slice, LD.P.q_oSome, LD.P.q_oNone, LD.P.soK_i, LD.P.rix_s, LD.P.rix_fs, LD.lkG_s, LD.leG_s, LD.q_SLock, LD.q_ELock, LD.lkS_r, LD.lkE_r, LD.lockM_d, LD.unlM_f, LD.unlS_n, LD.unlS_r, LD.unlE_o, LD.nxK_s, LD.rtK_s, LD.okU_s, LD.q_iDic, LD.fdR_r, LD.fdK_f, LD.dcmK_l, LD.q_Dcm, LD.finDK_t, LD.finDK_f, LD.q_LItems, LD.itmR_r, LD.itmK_d, LD.rixK_f, LD.v_lenO, LD.v_eqQi, LD.v_neQi, LD.v_mulGi, LD.q_Ins, LD.q_App, LD.okS_t, LD.v_isLst, LD.lstK_s, LD.v_app, LD.q_Rev, LD.lsK_s, LD.q_Get, LD.getKK_s, LD.v_lsL, LD.v_keyI, LD.v_keyS, Option.isSome_some, Option.isSome_none, Option.getD_some, Option.getD_none, LD.v_eqs, LD.v_nes, LD.v_isiBb, LD.q_C, LD.q_Var, LD.q_Bin, LD.q_Un, LD.q_tOf, LD.q_tCmp, LD.q_tAnd, LD.q_tOr, LD.q_tNot, LD.q_And, LD.q_Or, LD.q_Not, LD.q_If, LD.q_Nil, LD.q_Cons, LD.q_Tup, LD.q_Lst, LD.q_LstM, LD.q_Call, LD.q_Meth, LD.q_Attr, LD.q_Blt, LD.q_Comp, LD.q_iOf, LD.srcK_s, LD.v_truB, LD.v_truL, LD.v_truN, LD.v_srcL, LD.v_neg, LD.q_iRange, LD.q_Next, LD.q_Seq, LD.q_Expr, LD.q_Ret, LD.q_RetN, LD.q_SIf, LD.q_Bk, LD.q_Ct, LD.q_Asg, LD.q_Nm, LD.q_Sub, LD.q_Del, LD.q_Fld, LD.q_Dic, LD.q_For, LD.wipeD, Bool.not_true, Bool.not_false, LD.ifT, LD.le0, LD.le1, LD.le2, LD.le3, LD.le4, LD.le5, LD.le6, LD.cmpK_l, LD.nn_n, LD.nn_i, LD.nn_t, LD.nn_l, LD.nn_r, LD.nn_b, LD.nn_s, LD.nonK_n, LD.okK_o, LD.bind_k, LD.bind_b, LD.bind_e, LD.bindS_k, LD.bindS_e, LD.ofO_s, LD.getV_s, LD.truK_s, LD.blK_b, LD.refK_r, LD.insK_i, LD.lookK_s, LD.lookK_n, LD.refS_r, LD.insS_i, LD.lookS_s, LD.seq_n, LD.seq_r, LD.seq_b, LD.seq_c, LD.seq_e, LD.storeK_s, LD.memK_s, LD.endF_n, LD.endF_r, LD.endF_e, LD.pick_t, LD.pick_f, LD.finL_f, LD.finL_t, LD.v_add, LD.v_sub, LD.v_mulR, LD.v_fdiv, LD.v_mod, LD.v_int, LD.v_lt, LD.v_le, LD.v_gt, LD.v_ge, LD.v_eq, LD.v_ne, LD.v_len, LD.v_tix, LD.v_lix, LD.v_rix, LD.rixK_l, LD.rixK_d, LD.v_isN, LD.v_isnN, LD.v_isNone, LD.v_isNoneN, LD.startD, List.length_cons, List.length_nil, List.map_cons, List.map_nil, List.cons_append, List.nil_append, List.append_nil, List.getElem?_cons_zero, List.getElem?_cons_succ, List.set_cons_zero, List.set_cons_succ, List.replicate_succ, List.replicate_zero, Nat.reduceAdd, Nat.reduceSub, Nat.reduceBEq, Int.reduceLT, Int.reduceNeg, Int.reduceLE, Nat.reduceLeDiff, Nat.reduceLT, List.lookup_cons, List.lookup_nil, beq_self_eq_true, Option.map_some, Option.map_none, b30, b31, b32, t2, t3, his, e1, hp', appK_s hap]
      rfl
    | el t a ps d ks =>
      obtain ⟨s, M1, e1, e2, e3⟩ := start_eq o.2.1 o.1 o.2.2.2.1 o.2.2.1
      have hl' : (startL t ps).length + (ks.flatMap (pl h)).length + (L t).length + 3 ≤ 1000000 := by
        have e : (pl (h + 1) (.el t a ps d ks)).length = (startL t ps).length + (ks.flatMap (pl h)).length + 2 + (L t).length + 1 := by
          show (startL t ps ++ ks.flatMap (pl h) ++ L "</" ++ L t ++ L ">").length = _
          simp only [List.length_append]
          rfl
        omega
      obtain ⟨y, M2, f1, f2, f3⟩ := ih h rfl d ks M1 (ls_ext (P := fun i => i < M.length) (fun i o _ q => e3 i o q) o.2.2.2.2.1 (ls_lt o.2.2.2.2.1)) (fun k hk => (o.2.2.2.2.2 k hk).all e3) (by omega) (by have e : cnt (h + 1) (.el t a ps d ks) = 1 + (ks.map (cnt h)).sum := rfl; show _ ≤ 4000; omega)
      have hp' := f2 _ _ (e3 _ _ hp)
      have ls : s.length = (startL t ps).length := by rw [← L_len, e2]
      have ly : y.length = (ks.flatMap (pl h)).length := by rw [← L_len, f3]
      rw [L_len] at hl'
      obtain ⟨a1, a2, a3, a4⟩ := el_add (s := s) (k := y) (t := t) (by omega)
      refine ⟨s ++ y ++ "</" ++ t ++ ">", M2.set p (.lst (ys.map .str ++ [.str (s ++ y ++ "</" ++ t ++ ">")])), ?_, ((Fn.ext e3).trans (Fn.ext f2)).trans (Fn.set (Nat.le_refl _)), app_str hp', ?_⟩
      · show β_plain_text_2 φr [x0, some (.ref p), some (.tup [.str "element", .str t, a, d])] M = _
        unfold β_plain_text_2
        simp only [LD.q_RaiseF, LD.raiK_1, LD.raiK_2, LD.raiK_3, LD.q_Chain, LD.chC_t, LD.chC_f, LD.q_tCh, LD.blC_t, LD.blC_f, LD.q_Aug, LD.augR_r, LD.augF_c, LD.augV_i, LD.augS_i, LD.augT_i, LD.q_Pop, LD.v_pop, LD.popK_s, LD.q_Range3, LD.q_iRev, LD.revR_t, LD.revR_l, LD.q_DicF, LD.P.q_Slice, LD.P.q_oSome, LD.P.q_oNone, LD.P.soK_i, LD.P.rix_s, LD.P.rix_fs, LD.lkG_s, LD.leG_s, LD.q_SLock, LD.q_ELock, LD.lkS_r, LD.lkE_r, LD.lockM_d, LD.unlM_f, LD.unlS_n, LD.unlS_r, LD.unlE_o, LD.nxK_s, LD.rtK_s, LD.okU_s, LD.q_iDic, LD.fdR_r, LD.fdK_f, LD.dcmK_l, LD.q_Dcm, LD.finDK_t, LD.finDK_f, LD.q_LItems, LD.itmR_r, LD.itmK_d, LD.rixK_f, LD.v_lenO, LD.v_eqQi, LD.v_neQi, LD.v_mulGi, LD.q_Ins, LD.q_App, LD.okS_t, LD.v_isLst, LD.lstK_s, LD.v_app, LD.q_Rev, LD.lsK_s, LD.q_Get, LD.getKK_s, LD.v_lsL, LD.v_keyI, LD.v_keyS, Option.isSome_some, Option.isSome_none, Option.getD_some, Option.getD_none, LD.v_eqs, LD.v_nes, LD.v_isiBb, LD.q_C, LD.q_Var, LD.q_Bin, LD.q_Un, LD.q_tOf, LD.q_tCmp, LD.q_tAnd, LD.q_tOr, LD.q_tNot, LD.q_And, LD.q_Or, LD.q_Not, LD.q_If, LD.q_Nil, LD.q_Cons, LD.q_Tup, LD.q_Lst, LD.q_LstM, LD.q_Call, LD.q_Meth, LD.q_Attr, LD.q_Blt, LD.q_Comp, LD.q_iOf, LD.srcK_s, LD.v_truB, LD.v_truL, LD.v_truN, LD.v_srcL, LD.v_neg, LD.q_iRange, LD.q_Next, LD.q_Seq, LD.q_Expr, LD.q_Ret, LD.q_RetN, LD.q_SIf, LD.q_Bk, LD.q_Ct, LD.q_Asg, LD.q_Nm, LD.q_Sub, LD.q_Del, LD.q_Fld, LD.q_Dic, LD.q_For, LD.wipeD, Bool.not_true, Bool.not_false, LD.ifT, LD.le0, LD.le1, LD.le2, LD.le3, LD.le4, LD.le5, LD.le6, LD.cmpK_l, LD.nn_n, LD.nn_i, LD.nn_t, LD.nn_l, LD.nn_r, LD.nn_b, LD.nn_s, LD.nonK_n, LD.okK_o, LD.bind_k, LD.bind_b, LD.bind_e, LD.bindS_k, LD.bindS_e, LD.ofO_s, LD.getV_s, LD.truK_s, LD.blK_b, LD.refK_r, LD.insK_i, LD.lookK_s, LD.lookK_n, LD.refS_r, LD.insS_i, LD.lookS_s, LD.seq_n, LD.seq_r, LD.seq_b, LD.seq_c, LD.seq_e, LD.storeK_s, LD.memK_s, LD.endF_n, LD.endF_r, LD.endF_e, LD.pick_t, LD.pick_f, LD.finL_f, LD.finL_t, LD.v_add, LD.v_sub, LD.v_mulR, LD.v_fdiv, LD.v_mod, LD.v_int, LD.v_lt, LD.v_le, LD.v_gt, LD.v_ge, LD.v_eq, LD.v_ne, LD.v_len, LD.v_tix, LD.v_lix, LD.v_rix, LD.rixK_l, LD.rixK_d, LD.v_isN, LD.v_isnN, LD.v_isNone, LD.v_isNoneN, LD.startD, List.length_cons, List.length_nil, List.map_cons, List.map_nil, List.cons_append, List.nil_append, List.append_nil, List.getElem?_cons_zero, List.getElem?_cons_succ, List.set_cons_zero, List.set_cons_succ, List.replicate_succ, List.replicate_zero, Nat.reduceAdd, Nat.reduceSub, Nat.reduceBEq, Int.reduceLT, Int.reduceNeg, Int.reduceLE, Nat.reduceLeDiff, Nat.reduceLT, List.lookup_cons, List.lookup_nil, beq_self_eq_true, Option.map_some, Option.map_none, b40, b41, b42, b43, t1, his, e1, f1, a1, a2, a3, a4, hp', appK_s hap]
        rfl
      · rw [L_app, L_app, L_app, L_app, e2, f3] <;> rfl
theorem plain_loop {b h p : Nat} {φr : FnD} (ih : ∀ h', h = h' + 1 → Pt b h' φr) {x0 : Option D} {chk : Mem → Bool} : ∀ (ks : List Nd) (M : Mem) (ys : List Str) (x2 : Option D), M[p]? = some (.lst (ys.map .str)) → (∀ k ∈ ks, Ok b M h k ∧ In (fun i => i < p) h k) → (ks.flatMap (pl h)).length ≤ 1000000 → (∀ k ∈ ks, cnt h k ≤ 4000) → ys.length + ks.length ≤ 100000 → (∀ M', Fn p M M' → chk M' = true) →
    ∃ (zs : List Str) (M' : Mem) (y2 : Option D), forV chk (gNm 2) (β_plain_text_2 φr) (ks.map dv) [x0, some (.ref p), x2] M = .nx [x0, some (.ref p), y2] M' ∧ Fn p M M' ∧ M'[p]? = some (.lst (zs.map .str)) ∧ zs.flatMap L = ys.flatMap L ++ ks.flatMap (pl h)
  | [], M, ys, x2, hp, _, _, _, _, hc => ⟨ys, M, x2, forV_n (hc M fun _ _ _ q => q), fun _ _ _ q => q, hp, by rw [List.flatMap_nil, List.append_nil]⟩
  | k :: ks, M, ys, x2, hp, hk, hl, hcn, hy, hc => by
    rw [List.flatMap_cons, List.length_append] at hl
    rw [List.length_cons] at hy
    obtain ⟨o, i⟩ := hk k List.mem_cons_self
    obtain ⟨y, M1, e1, f1, p1, e2⟩ := plain_body ih (x0 := x0) hp o i (by omega) (hcn k List.mem_cons_self) (by omega)
    obtain ⟨zs, M', y2, e3, f3, p3, e4⟩ := plain_loop ih (x0 := x0) (chk := chk) ks M1 (ys ++ [y]) (some (dv k)) p1 (fun u hu => ⟨Ok.ext (P := fun i => i < p) (fun i o hi q => f1 i o hi q) (hk u (List.mem_cons_of_mem _ hu)).1 (hk u (List.mem_cons_of_mem _ hu)).2, (hk u (List.mem_cons_of_mem _ hu)).2⟩) (by omega) (fun u hu => hcn u (List.mem_cons_of_mem _ hu)) (by rw [List.length_append, List.length_singleton]; omega) fun M' f => hc M' (f1.trans f)
    refine ⟨zs, M', y2, ?_, f1.trans f3, p3, ?_⟩
    · rw [List.map_cons]
      exact (forV_c (hc M fun _ _ _ q => q) rfl e1).trans e3
    · rw [e4, List.flatMap_append, List.flatMap_cons, List.flatMap_cons, List.flatMap_nil, List.append_nil, e2, List.append_assoc]
theorem plain_eq {b : Nat} : ∀ (h m : Nat), h < m → Pt b h (φ_plain_text m)
  | h, 0, hm => by omega
  | h, m + 1, hm => fun d ks M hd hk hl hcn => by
    have ih : ∀ h', h = h' + 1 → Pt b h' (φ_plain_text m) := fun h' e => plain_eq h' m (by omega)
    have x1 : P.Ext M (M ++ [DO.lst []]) := .app
    have hd1 : lsOf (M ++ [DO.lst []]) d = some (ks.map dv) := ls_ext (P := fun i => i < M.length) (fun i o _ q => x1 i o q) hd (ls_lt hd)
    obtain ⟨chk, e3, e4⟩ := src_at hd1
    have hp : (M ++ [DO.lst []])[M.length]? = some (.lst (([] : List Str).map .str)) := P.app_at
    have hkl := len_pl (fun a ha => hk a ha) (show (ks.map (cnt h)).sum ≤ 90000 by unfold Cn at hcn; omega)
    obtain ⟨zs, M', y2, e, f, q, z⟩ := plain_loop ih (x0 := some d) (chk := chk) ks (M ++ [.lst []]) [] none hp (fun k hk' => ⟨(hk k hk').all x1, (hk k hk').lt⟩) hl (fun k hk' => hcn.mem hk') (by rw [List.length_nil]; omega) (fun M' f => e4 M' (ls_ext (P := fun i => i < M.length) (fun i o hi q => f i o hi q) hd1 (ls_lt hd)))
    rw [List.flatMap_nil, List.nil_append] at z
    have hj := join_bm (α := aCons (eVar 1) aNil) (s := [some d, some (.ref M.length), y2]) (M := M') (p := M.length) (ys := zs) rfl q (by rw [z]; omega)
    refine ⟨Txt.join "" zs, M', ?_, fun i o q => f i o (P.lt_of q) (x1 i o q), by rw [tjoin_L, z]⟩
    rw [φ_plain_text]
    refine run_def rfl ?_
    unfold ψ_plain_text
    simp only [LD.q_RaiseF, LD.raiK_1, LD.raiK_2, LD.raiK_3, LD.q_Chain, LD.chC_t, LD.chC_f, LD.q_tCh, LD.blC_t, LD.blC_f, LD.q_Aug, LD.augR_r, LD.augF_c, LD.augV_i, LD.augS_i, LD.augT_i, LD.q_Pop, LD.v_pop, LD.popK_s, LD.q_Range3, LD.q_iRev, LD.revR_t, LD.revR_l, LD.q_DicF, LD.P.q_Slice, LD.P.q_oSome, LD.P.q_oNone, LD.P.soK_i, LD.P.rix_s, LD.P.rix_fs, LD.lkG_s, LD.leG_s, LD.q_SLock, LD.q_ELock, LD.lkS_r, LD.lkE_r, LD.lockM_d, LD.unlM_f, LD.unlS_n, LD.unlS_r, LD.unlE_o, LD.nxK_s, LD.rtK_s, LD.okU_s, LD.q_iDic, LD.fdR_r, LD.fdK_f, LD.dcmK_l, LD.q_Dcm, LD.finDK_t, LD.finDK_f, LD.q_LItems, LD.itmR_r, LD.itmK_d, LD.rixK_f, LD.v_lenO, LD.v_eqQi, LD.v_neQi, LD.v_mulGi, LD.q_Ins, LD.q_App, LD.okS_t, LD.v_isLst, LD.lstK_s, LD.v_app, LD.q_Rev, LD.lsK_s, LD.q_Get, LD.getKK_s, LD.v_lsL, LD.v_keyI, LD.v_keyS, Option.isSome_some, Option.isSome_none, Option.getD_some, Option.getD_none, LD.v_eqs, LD.v_nes, LD.v_isiBb, LD.q_C, LD.q_Var, LD.q_Bin, LD.q_Un, LD.q_tOf, LD.q_tCmp, LD.q_tAnd, LD.q_tOr, LD.q_tNot, LD.q_And, LD.q_Or, LD.q_Not, LD.q_If, LD.q_Nil, LD.q_Cons, LD.q_Tup, LD.q_Lst, LD.q_LstM, LD.q_Call, LD.q_Meth, LD.q_Attr, LD.q_Blt, LD.q_Comp, LD.q_iOf, LD.srcK_s, LD.v_truB, LD.v_truL, LD.v_truN, LD.v_srcL, LD.v_neg, LD.q_iRange, LD.q_Next, LD.q_Seq, LD.q_Expr, LD.q_Ret, LD.q_RetN, LD.q_SIf, LD.q_Bk, LD.q_Ct, LD.q_Asg, LD.q_Nm, LD.q_Sub, LD.q_Del, LD.q_Fld, LD.q_Dic, LD.q_For, LD.wipeD, Bool.not_true, Bool.not_false, LD.ifT, LD.le0, LD.le1, LD.le2, LD.le3, LD.le4, LD.le5, LD.le6, LD.cmpK_l, LD.nn_n, LD.nn_i, LD.nn_t, LD.nn_l, LD.nn_r, LD.nn_b, LD.nn_s, LD.nonK_n, LD.okK_o, LD.bind_k, LD.bind_b, LD.bind_e, LD.bindS_k, LD.bindS_e, LD.ofO_s, LD.getV_s, LD.truK_s, LD.blK_b, LD.refK_r, LD.insK_i, LD.lookK_s, LD.lookK_n, LD.refS_r, LD.insS_i, LD.lookS_s, LD.seq_n, LD.seq_r, LD.seq_b, LD.seq_c, LD.seq_e, LD.storeK_s, LD.memK_s, LD.endF_n, LD.endF_r, LD.endF_e, LD.pick_t, LD.pick_f, LD.finL_f, LD.finL_t, LD.v_add, LD.v_sub, LD.v_mulR, LD.v_fdiv, LD.v_mod, LD.v_int, LD.v_lt, LD.v_le, LD.v_gt, LD.v_ge, LD.v_eq, LD.v_ne, LD.v_len, LD.v_tix, LD.v_lix, LD.v_rix, LD.rixK_l, LD.rixK_d, LD.v_isN, LD.v_isnN, LD.v_isNone, LD.v_isNoneN, LD.startD, List.length_cons, List.length_nil, List.map_cons, List.map_nil, List.cons_append, List.nil_append, List.append_nil, List.getElem?_cons_zero, List.getElem?_cons_succ, List.set_cons_zero, List.set_cons_succ, List.replicate_succ, List.replicate_zero, Nat.reduceAdd, Nat.reduceSub, Nat.reduceBEq, Int.reduceLT, Int.reduceNeg, Int.reduceLE, Nat.reduceLeDiff, Nat.reduceLT, List.lookup_cons, List.lookup_nil, beq_self_eq_true, Option.map_some, Option.map_none, e3, e, hj]
/-! ### the written tree, without awaits, with texts apart -/
def isT : Nd → Bool
  | .txt _ => true
  | _ => false
def Apart : List Nd → Prop
  | [] => True
  | [_] => True
  | a :: b :: r => ¬ (isT a = true ∧ isT b = true) ∧ Apart (b :: r)
/-- a joined tree -/
def Jn : Nat → Nd → Prop
  | 0, _ => True
  | _ + 1, .txt x => x ≠ ""
  | h + 1, .el _ _ _ _ ks => Apart ks ∧ ∀ k ∈ ks, Jn h k
  | _ + 1, .aw _ _ _ => False
def Wt (b h : Nat) (φr : FnD) : Prop := ∀ (d : D) (ks : List Nd) (M : Mem), lsOf M d = some (ks.map dv) → (∀ k ∈ ks, Ok b M h k ∧ Jn h k) → Apart ks → (ks.flatMap (pl h)).length ≤ 1000000 → Cn h ks → ∃ (y : Str) (M' : Mem), φr [d] M = .ok (.str y) M' ∧ P.Ext M M' ∧ L y = ks.flatMap (pl h)
def nbx : Nd → Str
  | .txt x => x
  | _ => ""
theorem write_body {b h p : Nat} {φr : FnD} (ih : ∀ h', h = h' + 1 → Wt b h' φr) {x0 x3 x4 : Option D} {bf : Str} {M : Mem} {ys : List Str} {k : Nd} (hp : M[p]? = some (.lst (ys.map .str))) (o : Ok b M h k) (j : Jn h k) (hb : isT k = true → bf = "") (hi : In (fun i => i < p) h k) (hl : (pl h k).length ≤ 1000000) (hcn : cnt h k ≤ 4000) (hy : ys.length ≤ 100000) :
    ∃ (y : Str) (M' : Mem), β_write_tree_3 φr [x0, some (.ref p), some (.str bf), some (dv k), x4] M = .nx [x0, some (.ref p), some (.str (nbx k)), some (dv k), x4] M' ∧ Fn p M M' ∧ M'[p]? = some (.lst ((ys ++ [y]).map .str)) ∧ L y = pl h k := by
  obtain ⟨t1, t2, t3, t4, t5, t6⟩ := tEl
  have his := isLst_r hp
  have hap : (ys.map D.str).length < LINE := by rw [List.length_map]; have := P.big; have e : LINE = 16777216 := rfl; omega
  cases h with
  | zero => exact o.elim
  | succ h =>
    cases k with
    | txt x =>
      obtain ⟨y, e1, e2⟩ := wtext_eq (x := x) M (by show (pl (h + 1) (.txt x)).length ≤ _; omega)
      obtain rfl := hb rfl
      have hx : (x == "") = false := by rw [beq_eq_false_iff_ne]; exact j
      have h0 : (("" : Str) == "") = true := by decide
      refine ⟨y, M.set p (.lst (ys.map .str ++ [.str y])), ?_, Fn.set (Nat.le_refl _), app_str hp, e2⟩
      show β_write_tree_3 φr [x0, some (.ref p), some (.str ""), some (.tup [.str "text", .str x]), x4] M = .nx [x0, some (.ref p), some (.str x), some (.tup [.str "text", .str x]), x4] _
      unfold β_write_tree_3
      simp only [LD.q_RaiseF, LD.raiK_1, LD.raiK_2, LD.raiK_3, LD.q_Chain, LD.chC_t, LD.chC_f, LD.q_tCh, LD.blC_t, LD.blC_f, LD.q_Aug, LD.augR_r, LD.augF_c, LD.augV_i, LD.augS_i, LD.augT_i, LD.q_Pop, LD.v_pop, LD.popK_s, LD.q_Range3, LD.q_iRev, LD.revR_t, LD.revR_l, LD.q_DicF, LD.P.q_Slice, LD.P.q_oSome, LD.P.q_oNone, LD.P.soK_i, LD.P.rix_s, LD.P.rix_fs, LD.lkG_s, LD.leG_s, LD.q_SLock, LD.q_ELock, LD.lkS_r, LD.lkE_r, LD.lockM_d, LD.unlM_f, LD.unlS_n, LD.unlS_r, LD.unlE_o, LD.nxK_s, LD.rtK_s, LD.okU_s, LD.q_iDic, LD.fdR_r, LD.fdK_f, LD.dcmK_l, LD.q_Dcm, LD.finDK_t, LD.finDK_f, LD.q_LItems, LD.itmR_r, LD.itmK_d, LD.rixK_f, LD.v_lenO, LD.v_eqQi, LD.v_neQi, LD.v_mulGi, LD.q_Ins, LD.q_App, LD.okS_t, LD.v_isLst, LD.lstK_s, LD.v_app, LD.q_Rev, LD.lsK_s, LD.q_Get, LD.getKK_s, LD.v_lsL, LD.v_keyI, LD.v_keyS, Option.isSome_some, Option.isSome_none, Option.getD_some, Option.getD_none, LD.v_eqs, LD.v_nes, LD.v_isiBb, LD.q_C, LD.q_Var, LD.q_Bin, LD.q_Un, LD.q_tOf, LD.q_tCmp, LD.q_tAnd, LD.q_tOr, LD.q_tNot, LD.q_And, LD.q_Or, LD.q_Not, LD.q_If, LD.q_Nil, LD.q_Cons, LD.q_Tup, LD.q_Lst, LD.q_LstM, LD.q_Call, LD.q_Meth, LD.q_Attr, LD.q_Blt, LD.q_Comp, LD.q_iOf, LD.srcK_s, LD.v_truB, LD.v_truL, LD.v_truN, LD.v_srcL, LD.v_neg, LD.q_iRange, LD.q_Next, LD.q_Seq, LD.q_Expr, LD.q_Ret, LD.q_RetN, LD.q_SIf, LD.q_Bk, LD.q_Ct, LD.q_Asg, LD.q_Nm, LD.q_Sub, LD.q_Del, LD.q_Fld, LD.q_Dic, LD.q_For, LD.wipeD, Bool.not_true, Bool.not_false, LD.ifT, LD.le0, LD.le1, LD.le2, LD.le3, LD.le4, LD.le5, LD.le6, LD.cmpK_l, LD.nn_n, LD.nn_i, LD.nn_t, LD.nn_l, LD.nn_r, LD.nn_b, LD.nn_s, LD.nonK_n, LD.okK_o, LD.bind_k, LD.bind_b, LD.bind_e, LD.bindS_k, LD.bindS_e, LD.ofO_s, LD.getV_s, LD.truK_s, LD.blK_b, LD.refK_r, LD.insK_i, LD.lookK_s, LD.lookK_n, LD.refS_r, LD.insS_i, LD.lookS_s, LD.seq_n, LD.seq_r, LD.seq_b, LD.seq_c, LD.seq_e, LD.storeK_s, LD.memK_s, LD.endF_n, LD.endF_r, LD.endF_e, LD.pick_t, LD.pick_f, LD.finL_f, LD.finL_t, LD.v_add, LD.v_sub, LD.v_mulR, LD.v_fdiv, LD.v_mod, LD.v_int, LD.v_lt, LD.v_le, LD.v_gt, LD.v_ge, LD.v_eq, LD.v_ne, LD.v_len, LD.v_tix, LD.v_lix, LD.v_rix, LD.rixK_l, LD.rixK_d, LD.v_isN, LD.v_isnN, LD.v_isNone, LD.v_isNoneN, LD.startD, List.length_cons, List.length_nil, List.map_cons, List.map_nil, List.cons_append, List.nil_append, List.append_nil, List.getElem?_cons_zero, List.getElem?_cons_succ, List.set_cons_zero, List.set_cons_succ, List.replicate_succ, List.replicate_zero, Nat.reduceAdd, Nat.reduceSub, Nat.reduceBEq, Int.reduceLT, Int.reduceNeg, Int.reduceLE, Nat.reduceLeDiff, Nat.reduceLT, List.lookup_cons, List.lookup_nil, beq_self_eq_true, Option.map_some, Option.map_none, b20, b21, his, h0, hx, e1, hp, appK_s hap]
    | aw n d ks => exact j.elim
    | el t a ps d ks =>
      obtain ⟨s, M1, e1, e2, e3⟩ := start_eq o.2.1 o.1 o.2.2.2.1 o.2.2.1
      have hl' : (startL t ps).length + (ks.flatMap (pl h)).length + (L t).length + 3 ≤ 1000000 := by
        have e : (pl (h + 1) (.el t a ps d ks)).length = (startL t ps).length + (ks.flatMap (pl h)).length + 2 + (L t).length + 1 := by
          show (startL t ps ++ ks.flatMap (pl h) ++ L "</" ++ L t ++ L ">").length = _
          simp only [List.length_append]
          rfl
        omega
      obtain ⟨y, M2, f1, f2, f3⟩ := ih h rfl d ks M1 (ls_ext (P := fun i => i < M.length) (fun i o _ q => e3 i o q) o.2.2.2.2.1 (ls_lt o.2.2.2.2.1)) (fun k hk => ⟨(o.2.2.2.2.2 k hk).all e3, j.2 k hk⟩) j.1 (by omega) (by have e : cnt (h + 1) (.el t a ps d ks) = 1 + (ks.map (cnt h)).sum := rfl; show _ ≤ 4000; omega)
      have hp' := f2 _ _ (e3 _ _ hp)
      have ls : s.length = (startL t ps).length := by rw [← L_len, e2]
      have ly : y.length = (ks.flatMap (pl h)).length := by rw [← L_len, f3]
      rw [L_len] at hl'
      obtain ⟨a1, a2, a3, a4⟩ := el_add (s := s) (k := y) (t := t) (by omega)
      refine ⟨s ++ y ++ "</" ++ t ++ ">", M2.set p (.lst (ys.map .str ++ [.str (s ++ y ++ "</" ++ t ++ ">")])), ?_, ((Fn.ext e3).trans (Fn.ext f2)).trans (Fn.set (Nat.le_refl _)), app_str hp', ?_⟩
      · show β_write_tree_3 φr [x0, some (.ref p), some (.str bf), some (.tup [.str "element", .str t, a, d]), x4] M = .nx [x0, some (.ref p), some (.str ""), some (.tup [.str "element", .str t, a, d]), x4] _
        unfold β_write_tree_3
        simp only [LD.q_RaiseF, LD.raiK_1, LD.raiK_2, LD.raiK_3, LD.q_Chain, LD.chC_t, LD.chC_f, LD.q_tCh, LD.blC_t, LD.blC_f, LD.q_Aug, LD.augR_r, LD.augF_c, LD.augV_i, LD.augS_i, LD.augT_i, LD.q_Pop, LD.v_pop, LD.popK_s, LD.q_Range3, LD.q_iRev, LD.revR_t, LD.revR_l, LD.q_DicF, LD.P.q_Slice, LD.P.q_oSome, LD.P.q_oNone, LD.P.soK_i, LD.P.rix_s, LD.P.rix_fs, LD.lkG_s, LD.leG_s, LD.q_SLock, LD.q_ELock, LD.lkS_r, LD.lkE_r, LD.lockM_d, LD.unlM_f, LD.unlS_n, LD.unlS_r, LD.unlE_o, LD.nxK_s, LD.rtK_s, LD.okU_s, LD.q_iDic, LD.fdR_r, LD.fdK_f, LD.dcmK_l, LD.q_Dcm, LD.finDK_t, LD.finDK_f, LD.q_LItems, LD.itmR_r, LD.itmK_d, LD.rixK_f, LD.v_lenO, LD.v_eqQi, LD.v_neQi, LD.v_mulGi, LD.q_Ins, LD.q_App, LD.okS_t, LD.v_isLst, LD.lstK_s, LD.v_app, LD.q_Rev, LD.lsK_s, LD.q_Get, LD.getKK_s, LD.v_lsL, LD.v_keyI, LD.v_keyS, Option.isSome_some, Option.isSome_none, Option.getD_some, Option.getD_none, LD.v_eqs, LD.v_nes, LD.v_isiBb, LD.q_C, LD.q_Var, LD.q_Bin, LD.q_Un, LD.q_tOf, LD.q_tCmp, LD.q_tAnd, LD.q_tOr, LD.q_tNot, LD.q_And, LD.q_Or, LD.q_Not, LD.q_If, LD.q_Nil, LD.q_Cons, LD.q_Tup, LD.q_Lst, LD.q_LstM, LD.q_Call, LD.q_Meth, LD.q_Attr, LD.q_Blt, LD.q_Comp, LD.q_iOf, LD.srcK_s, LD.v_truB, LD.v_truL, LD.v_truN, LD.v_srcL, LD.v_neg, LD.q_iRange, LD.q_Next, LD.q_Seq, LD.q_Expr, LD.q_Ret, LD.q_RetN, LD.q_SIf, LD.q_Bk, LD.q_Ct, LD.q_Asg, LD.q_Nm, LD.q_Sub, LD.q_Del, LD.q_Fld, LD.q_Dic, LD.q_For, LD.wipeD, Bool.not_true, Bool.not_false, LD.ifT, LD.le0, LD.le1, LD.le2, LD.le3, LD.le4, LD.le5, LD.le6, LD.cmpK_l, LD.nn_n, LD.nn_i, LD.nn_t, LD.nn_l, LD.nn_r, LD.nn_b, LD.nn_s, LD.nonK_n, LD.okK_o, LD.bind_k, LD.bind_b, LD.bind_e, LD.bindS_k, LD.bindS_e, LD.ofO_s, LD.getV_s, LD.truK_s, LD.blK_b, LD.refK_r, LD.insK_i, LD.lookK_s, LD.lookK_n, LD.refS_r, LD.insS_i, LD.lookS_s, LD.seq_n, LD.seq_r, LD.seq_b, LD.seq_c, LD.seq_e, LD.storeK_s, LD.memK_s, LD.endF_n, LD.endF_r, LD.endF_e, LD.pick_t, LD.pick_f, LD.finL_f, LD.finL_t, LD.v_add, LD.v_sub, LD.v_mulR, LD.v_fdiv, LD.v_mod, LD.v_int, LD.v_lt, LD.v_le, LD.v_gt, LD.v_ge, LD.v_eq, LD.v_ne, LD.v_len, LD.v_tix, LD.v_lix, LD.v_rix, LD.rixK_l, LD.rixK_d, LD.v_isN, LD.v_isnN, LD.v_isNone, LD.v_isNoneN, LD.startD, List.length_cons, List.length_nil, List.map_cons, List.map_nil, List.cons_append, List.nil_append, List.append_nil, List.getElem?_cons_zero, List.getElem?_cons_succ, List.set_cons_zero, List.set_cons_succ, List.replicate_succ, List.replicate_zero, Nat.reduceAdd, Nat.reduceSub, Nat.reduceBEq, Int.reduceLT, Int.reduceNeg, Int.reduceLE, Nat.reduceLeDiff, Nat.reduceLT, List.lookup_cons, List.lookup_nil, beq_self_eq_true, Option.map_some, Option.map_none, b40, b41, b42, b43, t1, his, e1, f1, a1, a2, a3, a4, hp', appK_s hap]
      · rw [L_app, L_app, L_app, L_app, e2, f3] <;> rfl
theorem write_loop {b h p : Nat} {φr : FnD} (ih : ∀ h', h = h' + 1 → Wt b h' φr) {x0 x4 : Option D} {chk : Mem → Bool} : ∀ (ks : List Nd) (M : Mem) (ys : List Str) (bf : Str) (x3 : Option D), M[p]? = some (.lst (ys.map .str)) → (∀ k ∈ ks, Ok b M h k ∧ Jn h k ∧ In (fun i => i < p) h k) → Apart ks → (∀ k, ks.head? = some k → isT k = true → bf = "") → (ks.flatMap (pl h)).length ≤ 1000000 → (∀ k ∈ ks, cnt h k ≤ 4000) → ys.length + ks.length ≤ 100000 → (∀ M', Fn p M M' → chk M' = true) →
    ∃ (zs : List Str) (M' : Mem) (y2 y3 : Option D), forV chk (gNm 3) (β_write_tree_3 φr) (ks.map dv) [x0, some (.ref p), some (.str bf), x3, x4] M = .nx [x0, some (.ref p), y2, y3, x4] M' ∧ Fn p M M' ∧ M'[p]? = some (.lst (zs.map .str)) ∧ zs.flatMap L = ys.flatMap L ++ ks.flatMap (pl h)
  | [], M, ys, bf, x3, hp, _, _, _, _, _, _, hc => ⟨ys, M, _, x3, forV_n (hc M fun _ _ _ q => q), fun _ _ _ q => q, hp, by rw [List.flatMap_nil, List.append_nil]⟩
  | k :: ks, M, ys, bf, x3, hp, hk, ha, hb, hl, hcn, hy, hc => by
    rw [List.flatMap_cons, List.length_append] at hl
    rw [List.length_cons] at hy
    obtain ⟨o, j, i⟩ := hk k List.mem_cons_self
    obtain ⟨y, M1, e1, f1, p1, e2⟩ := write_body ih (x0 := x0) (x3 := x3) (x4 := x4) (bf := bf) hp o j (hb k rfl) i (by omega) (hcn k List.mem_cons_self) (by omega)
    have ha' : Apart ks ∧ ∀ u, ks.head? = some u → isT u = true → nbx k = "" := by
      cases ks with
      | nil => exact ⟨trivial, fun _ h => nomatch h⟩
      | cons u us =>
        refine ⟨ha.2, fun v hv ht => ?_⟩
        cases hv
        cases k with
        | txt x => exact absurd ⟨rfl, ht⟩ ha.1
        | _ => rfl
    obtain ⟨zs, M', y2, y3, e3, f3, p3, e4⟩ := write_loop ih (x0 := x0) (x4 := x4) (chk := chk) ks M1 (ys ++ [y]) (nbx k) (some (dv k)) p1 (fun u hu => ⟨Ok.ext (P := fun i => i < p) (fun i o hi q => f1 i o hi q) (hk u (List.mem_cons_of_mem _ hu)).1 (hk u (List.mem_cons_of_mem _ hu)).2.2, (hk u (List.mem_cons_of_mem _ hu)).2⟩) ha'.1 ha'.2 (by omega) (fun u hu => hcn u (List.mem_cons_of_mem _ hu)) (by rw [List.length_append, List.length_singleton]; omega) fun M' f => hc M' (f1.trans f)
    refine ⟨zs, M', y2, y3, ?_, f1.trans f3, p3, ?_⟩
    · rw [List.map_cons]
      exact (forV_c (hc M fun _ _ _ q => q) rfl e1).trans e3
    · rw [e4, List.flatMap_append, List.flatMap_cons, List.flatMap_cons, List.flatMap_nil, List.append_nil, e2, List.append_assoc]
theorem write_eq {b : Nat} : ∀ (h m : Nat), h < m → Wt b h (φ_write_tree m)
  | h, 0, hm => by omega
  | h, m + 1, hm => fun d ks M hd hk ha hl hcn => by
    have ih : ∀ h', h = h' + 1 → Wt b h' (φ_write_tree m) := fun h' e => write_eq h' m (by omega)
    have x1 : P.Ext M (M ++ [DO.lst []]) := .app
    have hd1 : lsOf (M ++ [DO.lst []]) d = some (ks.map dv) := ls_ext (P := fun i => i < M.length) (fun i o _ q => x1 i o q) hd (ls_lt hd)
    obtain ⟨chk, e3, e4⟩ := src_at hd1
    have hp : (M ++ [DO.lst []])[M.length]? = some (.lst (([] : List Str).map .str)) := P.app_at
    have hkl := len_pl (fun a ha => (hk a ha).1) (show (ks.map (cnt h)).sum ≤ 90000 by unfold Cn at hcn; omega)
    obtain ⟨zs, M', y2, y3, e, f, q, z⟩ := write_loop ih (x0 := some d) (x4 := none) (chk := chk) ks (M ++ [.lst []]) [] "" none hp (fun k hk' => ⟨(hk k hk').1.all x1, (hk k hk').2, (hk k hk').1.lt⟩) ha (fun _ _ _ => rfl) hl (fun k hk' => hcn.mem hk') (by rw [List.length_nil]; omega) (fun M' f => e4 M' (ls_ext (P := fun i => i < M.length) (fun i o hi q => f i o hi q) hd1 (ls_lt hd)))
    rw [List.flatMap_nil, List.nil_append] at z
    have hj := join_bm (α := aCons (eVar 1) aNil) (s := [some d, some (.ref M.length), y2, y3, none]) (M := M') (p := M.length) (ys := zs) rfl q (by rw [z]; omega)
    refine ⟨Txt.join "" zs, M', ?_, fun i o q => f i o (P.lt_of q) (x1 i o q), by rw [tjoin_L, z]⟩
    rw [φ_write_tree]
    refine run_def rfl ?_
    unfold ψ_write_tree
    simp only [LD.q_RaiseF, LD.raiK_1, LD.raiK_2, LD.raiK_3, LD.q_Chain, LD.chC_t, LD.chC_f, LD.q_tCh, LD.blC_t, LD.blC_f, LD.q_Aug, LD.augR_r, LD.augF_c, LD.augV_i, LD.augS_i, LD.augT_i, LD.q_Pop, LD.v_pop, LD.popK_s, LD.q_Range3, LD.q_iRev, LD.revR_t, LD.revR_l, LD.q_DicF, LD.P.q_Slice, LD.P.q_oSome, LD.P.q_oNone, LD.P.soK_i, LD.P.rix_s, LD.P.rix_fs, LD.lkG_s, LD.leG_s, LD.q_SLock, LD.q_ELock, LD.lkS_r, LD.lkE_r, LD.lockM_d, LD.unlM_f, LD.unlS_n, LD.unlS_r, LD.unlE_o, LD.nxK_s, LD.rtK_s, LD.okU_s, LD.q_iDic, LD.fdR_r, LD.fdK_f, LD.dcmK_l, LD.q_Dcm, LD.finDK_t, LD.finDK_f, LD.q_LItems, LD.itmR_r, LD.itmK_d, LD.rixK_f, LD.v_lenO, LD.v_eqQi, LD.v_neQi, LD.v_mulGi, LD.q_Ins, LD.q_App, LD.okS_t, LD.v_isLst, LD.lstK_s, LD.v_app, LD.q_Rev, LD.lsK_s, LD.q_Get, LD.getKK_s, LD.v_lsL, LD.v_keyI, LD.v_keyS, Option.isSome_some, Option.isSome_none, Option.getD_some, Option.getD_none, LD.v_eqs, LD.v_nes, LD.v_isiBb, LD.q_C, LD.q_Var, LD.q_Bin, LD.q_Un, LD.q_tOf, LD.q_tCmp, LD.q_tAnd, LD.q_tOr, LD.q_tNot, LD.q_And, LD.q_Or, LD.q_Not, LD.q_If, LD.q_Nil, LD.q_Cons, LD.q_Tup, LD.q_Lst, LD.q_LstM, LD.q_Call, LD.q_Meth, LD.q_Attr, LD.q_Blt, LD.q_Comp, LD.q_iOf, LD.srcK_s, LD.v_truB, LD.v_truL, LD.v_truN, LD.v_srcL, LD.v_neg, LD.q_iRange, LD.q_Next, LD.q_Seq, LD.q_Expr, LD.q_Ret, LD.q_RetN, LD.q_SIf, LD.q_Bk, LD.q_Ct, LD.q_Asg, LD.q_Nm, LD.q_Sub, LD.q_Del, LD.q_Fld, LD.q_Dic, LD.q_For, LD.wipeD, Bool.not_true, Bool.not_false, LD.ifT, LD.le0, LD.le1, LD.le2, LD.le3, LD.le4, LD.le5, LD.le6, LD.cmpK_l, LD.nn_n, LD.nn_i, LD.nn_t, LD.nn_l, LD.nn_r, LD.nn_b, LD.nn_s, LD.nonK_n, LD.okK_o, LD.bind_k, LD.bind_b, LD.bind_e, LD.bindS_k, LD.bindS_e, LD.ofO_s, LD.getV_s, LD.truK_s, LD.blK_b, LD.refK_r, LD.insK_i, LD.lookK_s, LD.lookK_n, LD.refS_r, LD.insS_i, LD.lookS_s, LD.seq_n, LD.seq_r, LD.seq_b, LD.seq_c, LD.seq_e, LD.storeK_s, LD.memK_s, LD.endF_n, LD.endF_r, LD.endF_e, LD.pick_t, LD.pick_f, LD.finL_f, LD.finL_t, LD.v_add, LD.v_sub, LD.v_mulR, LD.v_fdiv, LD.v_mod, LD.v_int, LD.v_lt, LD.v_le, LD.v_gt, LD.v_ge, LD.v_eq, LD.v_ne, LD.v_len, LD.v_tix, LD.v_lix, LD.v_rix, LD.rixK_l, LD.rixK_d, LD.v_isN, LD.v_isnN, LD.v_isNone, LD.v_isNoneN, LD.startD, List.length_cons, List.length_nil, List.map_cons, List.map_nil, List.cons_append, List.nil_append, List.append_nil, List.getElem?_cons_zero, List.getElem?_cons_succ, List.set_cons_zero, List.set_cons_succ, List.replicate_succ, List.replicate_zero, Nat.reduceAdd, Nat.reduceSub, Nat.reduceBEq, Int.reduceLT, Int.reduceNeg, Int.reduceLE, Nat.reduceLeDiff, Nat.reduceLT, List.lookup_cons, List.lookup_nil, beq_self_eq_true, Option.map_some, Option.map_none, e3, e, hj]
end K68
namespace K68
open PySem PySem.Spec PyProof.Rows L2 LD
open P (Kp)
abbrev B : Nat := 1000000
theorem jnUp {b : Nat} {M : Mem} : ∀ {h : Nat} {t : Nd}, Ok b M h t → Jn h t → Jn (h + 1) t
  | 0, _, o, _ => o.elim
  | h + 1, .txt _, _, j => j
  | h + 1, .el _ _ _ _ ks, o, j => ⟨j.1, fun k hk => jnUp (o.2.2.2.2.2 k hk) (j.2 k hk)⟩
  | h + 1, .aw _ _ _, _, j => j.elim
theorem inUp {b : Nat} {M : Mem} {P : Nat → Prop} : ∀ {h : Nat} {t : Nd}, Ok b M h t → In P h t → In P (h + 1) t
  | 0, _, o, _ => o.elim
  | h + 1, .txt _, _, _ => trivial
  | h + 1, .el _ _ _ _ ks, o, i => ⟨i.1, i.2.1, fun k hk => inUp (o.2.2.2.2.2 k hk) (i.2.2 k hk)⟩
  | h + 1, .aw _ _ _, o, i => ⟨i.1, fun k hk => inUp (o.2 k hk) (i.2 k hk)⟩
theorem flat_congr {α : Type} {f g : α → List Nat} : ∀ {l : List α}, (∀ a ∈ l, f a = g a) → l.flatMap f = l.flatMap g
  | [], _ => rfl
  | a :: l, h => by rw [List.flatMap_cons, List.flatMap_cons, h a List.mem_cons_self, flat_congr fun b hb => h b (List.mem_cons_of_mem _ hb)]
theorem sum_congr {α : Type} {f g : α → Nat} : ∀ {l : List α}, (∀ a ∈ l, f a = g a) → (l.map f).sum = (l.map g).sum
  | [], _ => rfl
  | a :: l, h => by rw [List.map_cons, List.map_cons, List.sum_cons, List.sum_cons, h a List.mem_cons_self, sum_congr fun b hb => h b (List.mem_cons_of_mem _ hb)]
theorem plUp {b : Nat} {M : Mem} : ∀ {h : Nat} {t : Nd}, Ok b M h t → pl (h + 1) t = pl h t
  | 0, _, o => o.elim
  | h + 1, .txt _, _ => rfl
  | h + 1, .el t a ps d ks, o => by
    have e : ks.flatMap (pl (h + 1)) = ks.flatMap (pl h) := flat_congr fun k hk => plUp (o.2.2.2.2.2 k hk)
    show startL t ps ++ ks.flatMap (pl (h + 1)) ++ _ ++ _ ++ _ = startL t ps ++ ks.flatMap (pl h) ++ _ ++ _ ++ _
    rw [e]
  | h + 1, .aw n d ks, o => flat_congr fun k hk => plUp (o.2 k hk)
theorem cntUp {b : Nat} {M : Mem} : ∀ {h : Nat} {t : Nd}, Ok b M h t → cnt (h + 1) t = cnt h t
  | 0, _, o => o.elim
  | h + 1, .txt _, _ => rfl
  | h + 1, .el t a ps d ks, o => by
    show 1 + (ks.map (cnt (h + 1))).sum = 1 + (ks.map (cnt h)).sum
    rw [sum_congr fun k hk => cntUp (o.2.2.2.2.2 k hk)]
  | h + 1, .aw n d ks, o => by
    show 1 + (ks.map (cnt (h + 1))).sum = 1 + (ks.map (cnt h)).sum
    rw [sum_congr fun k hk => cntUp (o.2 k hk)]
theorem In.and {P Q : Nat → Prop} : ∀ {h : Nat} {t : Nd}, In P h t → In Q h t → In (fun i => P i ∧ Q i) h t
  | 0, _, _, _ => trivial
  | h + 1, .txt _, _, _ => trivial
  | h + 1, .el tag a ps d ks, p, q => ⟨fun r e => ⟨p.1 r e, q.1 r e⟩, fun r e => ⟨p.2.1 r e, q.2.1 r e⟩, fun k hk => In.and (p.2.2 k hk) (q.2.2 k hk)⟩
  | h + 1, .aw n d ks, p, q => ⟨fun r e => ⟨p.1 r e, q.1 r e⟩, fun k hk => In.and (p.2 k hk) (q.2 k hk)⟩
theorem apart_push {a : Nd} : ∀ {js : List Nd}, Apart js → (∀ l, js.getLast? = some l → ¬ (isT l = true ∧ isT a = true)) → Apart (js ++ [a])
  | [], _, _ => trivial
  | [b], _, h => ⟨h b rfl, trivial⟩
  | b :: c :: r, ha, h => ⟨ha.1, apart_push (js := c :: r) ha.2 fun l hl => h l (by rw [List.getLast?_cons_cons]; exact hl)⟩
theorem apart_swap {x y : Str} : ∀ {js : List Nd}, Apart (js ++ [.txt x]) → Apart (js ++ [.txt y])
  | [], _ => trivial
  | [b], h => ⟨h.1, trivial⟩
  | b :: c :: r, h => ⟨h.1, apart_swap (js := c :: r) h.2⟩
/-! ### joined -/
def JOk (G : Nat → Prop) (M : Mem) (h q : Nat) (js : List Nd) : Prop := ∀ j ∈ js, Ok B M h j ∧ Jn h j ∧ In (fun i => i ≠ q ∧ G i) h j
theorem ls_ix {M : Mem} {q : Nat} {xs : List D} {k : Nat} {x : D} (h : M[q]? = some (.lst xs)) (e : xs[k]? = some x) (N : Mem) : rixK M[q]? (.int (k : Int)) N = some (x, N) := by
  rw [h]
  show (atI xs (k : Int)).map _ = _
  rw [atN e] <;> rfl
theorem set_ix {M : Mem} {q : Nat} {xs : List D} {k : Nat} {d : D} (h : M[q]? = some (.lst xs)) (hk : k < xs.length) : setD (.ref q) (.int (k : Int)) d M = some (M.set q (.lst (xs.set k d))) := by
  unfold setD
  simp only [h]
  have e : ixN xs.length (k : Int) = some k := by
    unfold ixN
    rw [if_pos (by omega), if_pos (by omega), Int.toNat_natCast]
  rw [e]
theorem dv_kind {k : Nd} (N : Mem) : ixD (dv k) (.int 0) N = some (.str (match k with | .txt _ => "text" | .el _ _ _ _ _ => "element" | .aw _ _ _ => "await"), N) := by
  cases k <;> rfl
theorem jstep {G : Nat → Prop} {h q : Nat} {φr : FnD} {x0 : Option D} {M : Mem} {js : List Nd} {f : Nd} (hM : M[q]? = some (.lst (js.map dv))) (oj : JOk G M h q js) (ap : Apart js) (of : Ok B M h f) (jf : Jn h f) (nf : In (fun i => i ≠ q ∧ G i) h f) (hl : (js.flatMap (pl h)).length + (pl h f).length ≤ 1000000) (hc : js.length ≤ 4000) :
    ∃ (M' : Mem) (js' : List Nd), β__law_joined_2 φr [x0, some (.ref q), some (dv f)] M = .nx [x0, some (.ref q), some (dv f)] M' ∧ M'[q]? = some (.lst (js'.map dv)) ∧ (∀ i : Nat, i ≠ q → M'[i]? = M[i]?) ∧ M'.length = M.length ∧ JOk G M' h q js' ∧ Apart js' ∧ js'.flatMap (pl h) = js.flatMap (pl h) ++ pl h f ∧ (js'.map (cnt h)).sum ≤ (js.map (cnt h)).sum + cnt h f := by
  obtain ⟨t1, t2, t3, t4, t5, t6⟩ := tEl
  have his := isLst_r hM
  have hap : (js.map dv).length < LINE := by rw [List.length_map]; have e : LINE = 16777216 := rfl; omega
  have keep : ∀ {o : DO} {j : Nd}, Ok B M h j → In (fun i => i ≠ q ∧ G i) h j → Ok B (M.set q o) h j := fun {o j} ok i => Ok.ext (P := fun i => i ≠ q ∧ G i) (fun i o hi z => by rw [P.set_at (Ne.symm hi.1)]; exact z) ok i
  have hlen : lenC [.ref q] M = some (.int (js.length : Nat), M) := by
    show lenC [.ref q] M = _
    have e : lenC [.ref q] M = some (.int ((js.map dv).length : Nat), M) := by
      simp only [lenC, hM]
    rw [e, List.length_map]
  /- put behind -/
  have put : (∀ l, js.getLast? = some l → ¬ (isT l = true ∧ isT f = true)) → β__law_joined_2 φr [x0, some (.ref q), some (dv f)] M = .nx [x0, some (.ref q), some (dv f)] (M.set q (.lst (js.map dv ++ [dv f]))) → ∃ (M' : Mem) (js' : List Nd), β__law_joined_2 φr [x0, some (.ref q), some (dv f)] M = .nx [x0, some (.ref q), some (dv f)] M' ∧ M'[q]? = some (.lst (js'.map dv)) ∧ (∀ i : Nat, i ≠ q → M'[i]? = M[i]?) ∧ M'.length = M.length ∧ JOk G M' h q js' ∧ Apart js' ∧ js'.flatMap (pl h) = js.flatMap (pl h) ++ pl h f ∧ (js'.map (cnt h)).sum ≤ (js.map (cnt h)).sum + cnt h f := fun hn he => by
    refine ⟨_, js ++ [f], he, by rw [List.map_append]; exact P.set_is hM, fun i hi => P.set_at (Ne.symm hi), List.length_set, fun j hj => ?_, apart_push ap hn, by rw [List.flatMap_append, List.flatMap_cons, List.flatMap_nil, List.append_nil], by rw [List.map_append, List.sum_append]; exact Nat.le_refl _⟩
    rcases List.mem_append.mp hj with hj | hj
    · exact ⟨keep (oj j hj).1 (oj j hj).2.2, (oj j hj).2⟩
    · rw [List.mem_singleton.mp hj]
      exact ⟨keep of nf, jf, nf⟩
  cases h with
  | zero => exact of.elim
  | succ h =>
  cases f with
  | aw _ _ _ => exact jf.elim
  | el t a ps d ks =>
    refine put (fun l _ z => by cases z.2) ?_
    show β__law_joined_2 φr [x0, some (.ref q), some (.tup [.str "element", .str t, a, d])] M = .nx [x0, some (.ref q), some (.tup [.str "element", .str t, a, d])] _
    unfold β__law_joined_2
    simp only [LD.q_RaiseF, LD.raiK_1, LD.raiK_2, LD.raiK_3, LD.q_Chain, LD.chC_t, LD.chC_f, LD.q_tCh, LD.blC_t, LD.blC_f, LD.q_Aug, LD.augR_r, LD.augF_c, LD.augV_i, LD.augS_i, LD.augT_i, LD.q_Pop, LD.v_pop, LD.popK_s, LD.q_Range3, LD.q_iRev, LD.revR_t, LD.revR_l, LD.q_DicF, LD.P.q_Slice, LD.P.q_oSome, LD.P.q_oNone, LD.P.soK_i, LD.P.rix_s, LD.P.rix_fs, LD.lkG_s, LD.leG_s, LD.q_SLock, LD.q_ELock, LD.lkS_r, LD.lkE_r, LD.lockM_d, LD.unlM_f, LD.unlS_n, LD.unlS_r, LD.unlE_o, LD.nxK_s, LD.rtK_s, LD.okU_s, LD.q_iDic, LD.fdR_r, LD.fdK_f, LD.dcmK_l, LD.q_Dcm, LD.finDK_t, LD.finDK_f, LD.q_LItems, LD.itmR_r, LD.itmK_d, LD.rixK_f, LD.v_lenO, LD.v_eqQi, LD.v_neQi, LD.v_mulGi, LD.q_Ins, LD.q_App, LD.okS_t, LD.v_isLst, LD.lstK_s, LD.v_app, LD.q_Rev, LD.lsK_s, LD.q_Get, LD.getKK_s, LD.v_lsL, LD.v_keyI, LD.v_keyS, Option.isSome_some, Option.isSome_none, Option.getD_some, Option.getD_none, LD.v_eqs, LD.v_nes, LD.v_isiBb, LD.q_C, LD.q_Var, LD.q_Bin, LD.q_Un, LD.q_tOf, LD.q_tCmp, LD.q_tAnd, LD.q_tOr, LD.q_tNot, LD.q_And, LD.q_Or, LD.q_Not, LD.q_If, LD.q_Nil, LD.q_Cons, LD.q_Tup, LD.q_Lst, LD.q_LstM, LD.q_Call, LD.q_Meth, LD.q_Attr, LD.q_Blt, LD.q_Comp, LD.q_iOf, LD.srcK_s, LD.v_truB, LD.v_truL, LD.v_truN, LD.v_srcL, LD.v_neg, LD.q_iRange, LD.q_Next, LD.q_Seq, LD.q_Expr, LD.q_Ret, LD.q_RetN, LD.q_SIf, LD.q_Bk, LD.q_Ct, LD.q_Asg, LD.q_Nm, LD.q_Sub, LD.q_Del, LD.q_Fld, LD.q_Dic, LD.q_For, LD.wipeD, Bool.not_true, Bool.not_false, LD.ifT, LD.le0, LD.le1, LD.le2, LD.le3, LD.le4, LD.le5, LD.le6, LD.cmpK_l, LD.nn_n, LD.nn_i, LD.nn_t, LD.nn_l, LD.nn_r, LD.nn_b, LD.nn_s, LD.nonK_n, LD.okK_o, LD.bind_k, LD.bind_b, LD.bind_e, LD.bindS_k, LD.bindS_e, LD.ofO_s, LD.getV_s, LD.truK_s, LD.blK_b, LD.refK_r, LD.insK_i, LD.lookK_s, LD.lookK_n, LD.refS_r, LD.insS_i, LD.lookS_s, LD.seq_n, LD.seq_r, LD.seq_b, LD.seq_c, LD.seq_e, LD.storeK_s, LD.memK_s, LD.endF_n, LD.endF_r, LD.endF_e, LD.pick_t, LD.pick_f, LD.finL_f, LD.finL_t, LD.v_add, LD.v_sub, LD.v_mulR, LD.v_fdiv, LD.v_mod, LD.v_int, LD.v_lt, LD.v_le, LD.v_gt, LD.v_ge, LD.v_eq, LD.v_ne, LD.v_len, LD.v_tix, LD.v_lix, LD.v_rix, LD.rixK_l, LD.rixK_d, LD.v_isN, LD.v_isnN, LD.v_isNone, LD.v_isNoneN, LD.startD, List.length_cons, List.length_nil, List.map_cons, List.map_nil, List.cons_append, List.nil_append, List.append_nil, List.getElem?_cons_zero, List.getElem?_cons_succ, List.set_cons_zero, List.set_cons_succ, List.replicate_succ, List.replicate_zero, Nat.reduceAdd, Nat.reduceSub, Nat.reduceBEq, Int.reduceLT, Int.reduceNeg, Int.reduceLE, Nat.reduceLeDiff, Nat.reduceLT, List.lookup_cons, List.lookup_nil, beq_self_eq_true, Option.map_some, Option.map_none, b40, t1, his, hM, appK_s hap]
    rfl
  | txt x =>
    rcases List.eq_nil_or_concat js with rfl | ⟨js0, l, rfl⟩
    · refine put (fun l z => by cases z) ?_
      have hlen : lenC [.ref q] M = some (.int 0, M) := hlen
      have h0 : ∀ i : Decidable False, @decide False i = false := fun i => by cases i <;> first | rfl | contradiction
      show β__law_joined_2 φr [x0, some (.ref q), some (.tup [.str "text", .str x])] M = .nx [x0, some (.ref q), some (.tup [.str "text", .str x])] _
      unfold β__law_joined_2
      simp only [LD.q_RaiseF, LD.raiK_1, LD.raiK_2, LD.raiK_3, LD.q_Chain, LD.chC_t, LD.chC_f, LD.q_tCh, LD.blC_t, LD.blC_f, LD.q_Aug, LD.augR_r, LD.augF_c, LD.augV_i, LD.augS_i, LD.augT_i, LD.q_Pop, LD.v_pop, LD.popK_s, LD.q_Range3, LD.q_iRev, LD.revR_t, LD.revR_l, LD.q_DicF, LD.P.q_Slice, LD.P.q_oSome, LD.P.q_oNone, LD.P.soK_i, LD.P.rix_s, LD.P.rix_fs, LD.lkG_s, LD.leG_s, LD.q_SLock, LD.q_ELock, LD.lkS_r, LD.lkE_r, LD.lockM_d, LD.unlM_f, LD.unlS_n, LD.unlS_r, LD.unlE_o, LD.nxK_s, LD.rtK_s, LD.okU_s, LD.q_iDic, LD.fdR_r, LD.fdK_f, LD.dcmK_l, LD.q_Dcm, LD.finDK_t, LD.finDK_f, LD.q_LItems, LD.itmR_r, LD.itmK_d, LD.rixK_f, LD.v_lenO, LD.v_eqQi, LD.v_neQi, LD.v_mulGi, LD.q_Ins, LD.q_App, LD.okS_t, LD.v_isLst, LD.lstK_s, LD.v_app, LD.q_Rev, LD.lsK_s, LD.q_Get, LD.getKK_s, LD.v_lsL, LD.v_keyI, LD.v_keyS, Option.isSome_some, Option.isSome_none, Option.getD_some, Option.getD_none, LD.v_eqs, LD.v_nes, LD.v_isiBb, LD.q_C, LD.q_Var, LD.q_Bin, LD.q_Un, LD.q_tOf, LD.q_tCmp, LD.q_tAnd, LD.q_tOr, LD.q_tNot, LD.q_And, LD.q_Or, LD.q_Not, LD.q_If, LD.q_Nil, LD.q_Cons, LD.q_Tup, LD.q_Lst, LD.q_LstM, LD.q_Call, LD.q_Meth, LD.q_Attr, LD.q_Blt, LD.q_Comp, LD.q_iOf, LD.srcK_s, LD.v_truB, LD.v_truL, LD.v_truN, LD.v_srcL, LD.v_neg, LD.q_iRange, LD.q_Next, LD.q_Seq, LD.q_Expr, LD.q_Ret, LD.q_RetN, LD.q_SIf, LD.q_Bk, LD.q_Ct, LD.q_Asg, LD.q_Nm, LD.q_Sub, LD.q_Del, LD.q_Fld, LD.q_Dic, LD.q_For, LD.wipeD, Bool.not_true, Bool.not_false, LD.ifT, LD.le0, LD.le1, LD.le2, LD.le3, LD.le4, LD.le5, LD.le6, LD.cmpK_l, LD.nn_n, LD.nn_i, LD.nn_t, LD.nn_l, LD.nn_r, LD.nn_b, LD.nn_s, LD.nonK_n, LD.okK_o, LD.bind_k, LD.bind_b, LD.bind_e, LD.bindS_k, LD.bindS_e, LD.ofO_s, LD.getV_s, LD.truK_s, LD.blK_b, LD.refK_r, LD.insK_i, LD.lookK_s, LD.lookK_n, LD.refS_r, LD.insS_i, LD.lookS_s, LD.seq_n, LD.seq_r, LD.seq_b, LD.seq_c, LD.seq_e, LD.storeK_s, LD.memK_s, LD.endF_n, LD.endF_r, LD.endF_e, LD.pick_t, LD.pick_f, LD.finL_f, LD.finL_t, LD.v_add, LD.v_sub, LD.v_mulR, LD.v_fdiv, LD.v_mod, LD.v_int, LD.v_lt, LD.v_le, LD.v_gt, LD.v_ge, LD.v_eq, LD.v_ne, LD.v_len, LD.v_tix, LD.v_lix, LD.v_rix, LD.rixK_l, LD.rixK_d, LD.v_isN, LD.v_isnN, LD.v_isNone, LD.v_isNoneN, LD.startD, List.length_cons, List.length_nil, List.map_cons, List.map_nil, List.cons_append, List.nil_append, List.append_nil, List.getElem?_cons_zero, List.getElem?_cons_succ, List.set_cons_zero, List.set_cons_succ, List.replicate_succ, List.replicate_zero, Nat.reduceAdd, Nat.reduceSub, Nat.reduceBEq, Int.reduceLT, Int.reduceNeg, Int.reduceLE, Nat.reduceLeDiff, Nat.reduceLT, List.lookup_cons, List.lookup_nil, beq_self_eq_true, Option.map_some, Option.map_none, b20, hlen, h0, his, hM, appK_s hap]
      rfl
    · have hn : (js0 ++ [l]).length = js0.length + 1 := by rw [List.length_append, List.length_singleton]
      rw [List.concat_eq_append] at *
      rw [hn] at hlen
      have h0 : decide ((0 : Int) < ((js0.length + 1 : Nat) : Int)) = true := decide_eq_true (by omega)
      have hs : (((js0.length + 1 : Nat) : Int) - 1) = (js0.length : Int) := by omega
      have hix : ∀ N, rixK M[q]? (.int (js0.length : Int)) N = some (dv l, N) := fun N => ls_ix hM (by rw [List.map_append, List.getElem?_append_right (by rw [List.length_map]; exact Nat.le_refl _), List.length_map, Nat.sub_self] <;> rfl) N
      obtain ⟨ol, jl, nl⟩ := oj l (by simp)
      cases l with
      | aw _ _ _ => exact jl.elim
      | el t a ps d ks =>
        refine put (fun l z => by rw [List.getLast?_append, List.getLast?_singleton] at z; cases z; exact fun w => by cases w.1) ?_
        have hat : atI ((js0 ++ [Nd.el t a ps d ks]).map dv) (js0.length : Int) = some (.tup [.str "element", .str t, a, d]) := atN (by rw [List.map_append, List.getElem?_append_right (by rw [List.length_map]; exact Nat.le_refl _), List.length_map, Nat.sub_self] <;> rfl)
        show β__law_joined_2 φr [x0, some (.ref q), some (.tup [.str "text", .str x])] M = .nx [x0, some (.ref q), some (.tup [.str "text", .str x])] _
        unfold β__law_joined_2
        simp only [LD.q_RaiseF, LD.raiK_1, LD.raiK_2, LD.raiK_3, LD.q_Chain, LD.chC_t, LD.chC_f, LD.q_tCh, LD.blC_t, LD.blC_f, LD.q_Aug, LD.augR_r, LD.augF_c, LD.augV_i, LD.augS_i, LD.augT_i, LD.q_Pop, LD.v_pop, LD.popK_s, LD.q_Range3, LD.q_iRev, LD.revR_t, LD.revR_l, LD.q_DicF, LD.P.q_Slice, LD.P.q_oSome, LD.P.q_oNone, LD.P.soK_i, LD.P.rix_s, LD.P.rix_fs, LD.lkG_s, LD.leG_s, LD.q_SLock, LD.q_ELock, LD.lkS_r, LD.lkE_r, LD.lockM_d, LD.unlM_f, LD.unlS_n, LD.unlS_r, LD.unlE_o, LD.nxK_s, LD.rtK_s, LD.okU_s, LD.q_iDic, LD.fdR_r, LD.fdK_f, LD.dcmK_l, LD.q_Dcm, LD.finDK_t, LD.finDK_f, LD.q_LItems, LD.itmR_r, LD.itmK_d, LD.rixK_f, LD.v_lenO, LD.v_eqQi, LD.v_neQi, LD.v_mulGi, LD.q_Ins, LD.q_App, LD.okS_t, LD.v_isLst, LD.lstK_s, LD.v_app, LD.q_Rev, LD.lsK_s, LD.q_Get, LD.getKK_s, LD.v_lsL, LD.v_keyI, LD.v_keyS, Option.isSome_some, Option.isSome_none, Option.getD_some, Option.getD_none, LD.v_eqs, LD.v_nes, LD.v_isiBb, LD.q_C, LD.q_Var, LD.q_Bin, LD.q_Un, LD.q_tOf, LD.q_tCmp, LD.q_tAnd, LD.q_tOr, LD.q_tNot, LD.q_And, LD.q_Or, LD.q_Not, LD.q_If, LD.q_Nil, LD.q_Cons, LD.q_Tup, LD.q_Lst, LD.q_LstM, LD.q_Call, LD.q_Meth, LD.q_Attr, LD.q_Blt, LD.q_Comp, LD.q_iOf, LD.srcK_s, LD.v_truB, LD.v_truL, LD.v_truN, LD.v_srcL, LD.v_neg, LD.q_iRange, LD.q_Next, LD.q_Seq, LD.q_Expr, LD.q_Ret, LD.q_RetN, LD.q_SIf, LD.q_Bk, LD.q_Ct, LD.q_Asg, LD.q_Nm, LD.q_Sub, LD.q_Del, LD.q_Fld, LD.q_Dic, LD.q_For, LD.wipeD, Bool.not_true, Bool.not_false, LD.ifT, LD.le0, LD.le1, LD.le2, LD.le3, LD.le4, LD.le5, LD.le6, LD.cmpK_l, LD.nn_n, LD.nn_i, LD.nn_t, LD.nn_l, LD.nn_r, LD.nn_b, LD.nn_s, LD.nonK_n, LD.okK_o, LD.bind_k, LD.bind_b, LD.bind_e, LD.bindS_k, LD.bindS_e, LD.ofO_s, LD.getV_s, LD.truK_s, LD.blK_b, LD.refK_r, LD.insK_i, LD.lookK_s, LD.lookK_n, LD.refS_r, LD.insS_i, LD.lookS_s, LD.seq_n, LD.seq_r, LD.seq_b, LD.seq_c, LD.seq_e, LD.storeK_s, LD.memK_s, LD.endF_n, LD.endF_r, LD.endF_e, LD.pick_t, LD.pick_f, LD.finL_f, LD.finL_t, LD.v_add, LD.v_sub, LD.v_mulR, LD.v_fdiv, LD.v_mod, LD.v_int, LD.v_lt, LD.v_le, LD.v_gt, LD.v_ge, LD.v_eq, LD.v_ne, LD.v_len, LD.v_tix, LD.v_lix, LD.v_rix, LD.rixK_l, LD.rixK_d, LD.v_isN, LD.v_isnN, LD.v_isNone, LD.v_isNoneN, LD.startD, List.length_cons, List.length_nil, List.map_cons, List.map_nil, List.cons_append, List.nil_append, List.append_nil, List.getElem?_cons_zero, List.getElem?_cons_succ, List.set_cons_zero, List.set_cons_succ, List.replicate_succ, List.replicate_zero, Nat.reduceAdd, Nat.reduceSub, Nat.reduceBEq, Int.reduceLT, Int.reduceNeg, Int.reduceLE, Nat.reduceLeDiff, Nat.reduceLT, List.lookup_cons, List.lookup_nil, beq_self_eq_true, Option.map_some, Option.map_none, b20, b40, hlen, h0, hs, hat, t1, his, hM, appK_s hap]
        rfl
      | txt y =>
        have hix : ∀ N, rixK M[q]? (.int (js0.length : Int)) N = some (.tup [.str "text", .str y], N) := hix
        have hL : (es (L (y ++ x))).length ≤ 1000000 := by
          rw [L_app, es_app, List.length_append]
          rw [List.flatMap_append, List.length_append, List.flatMap_cons, List.flatMap_nil, List.append_nil] at hl
          have e1 : pl (h + 1) (.txt y) = es (L y) := rfl
          have e2 : pl (h + 1) (.txt x) = es (L x) := rfl
          rw [e1, e2] at hl
          omega
        have hge := es_ge (L (y ++ x))
        rw [L_len, slen_app] at hge
        have ha := adds (a := y) (b := x) (by omega)
        have hset : setD (.ref q) (.int (js0.length : Int)) (.tup [.str "text", .str (y ++ x)]) M = some (M.set q (.lst ((js0 ++ [Nd.txt (y ++ x)]).map dv))) := by
          rw [set_ix hM (by rw [List.length_map, hn]; omega)]
          congr 3
          rw [List.map_append, List.map_append, List.set_append_right _ _ (by rw [List.length_map]; exact Nat.le_refl _), List.length_map, Nat.sub_self] <;> rfl
        refine ⟨M.set q (.lst ((js0 ++ [Nd.txt (y ++ x)]).map dv)), js0 ++ [.txt (y ++ x)], ?_, P.set_is hM, fun i hi => P.set_at (Ne.symm hi), List.length_set, fun j hj => ?_, apart_swap ap, ?_, ?_⟩
        · show β__law_joined_2 φr [x0, some (.ref q), some (.tup [.str "text", .str x])] M = .nx [x0, some (.ref q), some (.tup [.str "text", .str x])] _
          unfold β__law_joined_2
          simp only [LD.q_RaiseF, LD.raiK_1, LD.raiK_2, LD.raiK_3, LD.q_Chain, LD.chC_t, LD.chC_f, LD.q_tCh, LD.blC_t, LD.blC_f, LD.q_Aug, LD.augR_r, LD.augF_c, LD.augV_i, LD.augS_i, LD.augT_i, LD.q_Pop, LD.v_pop, LD.popK_s, LD.q_Range3, LD.q_iRev, LD.revR_t, LD.revR_l, LD.q_DicF, LD.P.q_Slice, LD.P.q_oSome, LD.P.q_oNone, LD.P.soK_i, LD.P.rix_s, LD.P.rix_fs, LD.lkG_s, LD.leG_s, LD.q_SLock, LD.q_ELock, LD.lkS_r, LD.lkE_r, LD.lockM_d, LD.unlM_f, LD.unlS_n, LD.unlS_r, LD.unlE_o, LD.nxK_s, LD.rtK_s, LD.okU_s, LD.q_iDic, LD.fdR_r, LD.fdK_f, LD.dcmK_l, LD.q_Dcm, LD.finDK_t, LD.finDK_f, LD.q_LItems, LD.itmR_r, LD.itmK_d, LD.rixK_f, LD.v_lenO, LD.v_eqQi, LD.v_neQi, LD.v_mulGi, LD.q_Ins, LD.q_App, LD.okS_t, LD.v_isLst, LD.lstK_s, LD.v_app, LD.q_Rev, LD.lsK_s, LD.q_Get, LD.getKK_s, LD.v_lsL, LD.v_keyI, LD.v_keyS, Option.isSome_some, Option.isSome_none, Option.getD_some, Option.getD_none, LD.v_eqs, LD.v_nes, LD.v_isiBb, LD.q_C, LD.q_Var, LD.q_Bin, LD.q_Un, LD.q_tOf, LD.q_tCmp, LD.q_tAnd, LD.q_tOr, LD.q_tNot, LD.q_And, LD.q_Or, LD.q_Not, LD.q_If, LD.q_Nil, LD.q_Cons, LD.q_Tup, LD.q_Lst, LD.q_LstM, LD.q_Call, LD.q_Meth, LD.q_Attr, LD.q_Blt, LD.q_Comp, LD.q_iOf, LD.srcK_s, LD.v_truB, LD.v_truL, LD.v_truN, LD.v_srcL, LD.v_neg, LD.q_iRange, LD.q_Next, LD.q_Seq, LD.q_Expr, LD.q_Ret, LD.q_RetN, LD.q_SIf, LD.q_Bk, LD.q_Ct, LD.q_Asg, LD.q_Nm, LD.q_Sub, LD.q_Del, LD.q_Fld, LD.q_Dic, LD.q_For, LD.wipeD, Bool.not_true, Bool.not_false, LD.ifT, LD.le0, LD.le1, LD.le2, LD.le3, LD.le4, LD.le5, LD.le6, LD.cmpK_l, LD.nn_n, LD.nn_i, LD.nn_t, LD.nn_l, LD.nn_r, LD.nn_b, LD.nn_s, LD.nonK_n, LD.okK_o, LD.bind_k, LD.bind_b, LD.bind_e, LD.bindS_k, LD.bindS_e, LD.ofO_s, LD.getV_s, LD.truK_s, LD.blK_b, LD.refK_r, LD.insK_i, LD.lookK_s, LD.lookK_n, LD.refS_r, LD.insS_i, LD.lookS_s, LD.seq_n, LD.seq_r, LD.seq_b, LD.seq_c, LD.seq_e, LD.storeK_s, LD.memK_s, LD.endF_n, LD.endF_r, LD.endF_e, LD.pick_t, LD.pick_f, LD.finL_f, LD.finL_t, LD.v_add, LD.v_sub, LD.v_mulR, LD.v_fdiv, LD.v_mod, LD.v_int, LD.v_lt, LD.v_le, LD.v_gt, LD.v_ge, LD.v_eq, LD.v_ne, LD.v_len, LD.v_tix, LD.v_lix, LD.v_rix, LD.rixK_l, LD.rixK_d, LD.v_isN, LD.v_isnN, LD.v_isNone, LD.v_isNoneN, LD.startD, List.length_cons, List.length_nil, List.map_cons, List.map_nil, List.cons_append, List.nil_append, List.append_nil, List.getElem?_cons_zero, List.getElem?_cons_succ, List.set_cons_zero, List.set_cons_succ, List.replicate_succ, List.replicate_zero, Nat.reduceAdd, Nat.reduceSub, Nat.reduceBEq, Int.reduceLT, Int.reduceNeg, Int.reduceLE, Nat.reduceLeDiff, Nat.reduceLT, List.lookup_cons, List.lookup_nil, beq_self_eq_true, Option.map_some, Option.map_none, b20, b21, hlen, h0, hs, hix, ha, hset]
        · rcases List.mem_append.mp hj with hj | hj
          · obtain ⟨o1, o2, o3⟩ := oj j (List.mem_append_left _ hj)
            exact ⟨keep o1 o3, o2, o3⟩
          · rw [List.mem_singleton.mp hj]
            refine ⟨⟨by rw [slen_app]; show _ ≤ 1000000; omega, strOk_app ol.2 of.2⟩, ?_, trivial⟩
            intro e
            have e2 : (y ++ x).length = ("" : Str).length := by rw [e]
            rw [slen_app] at e2
            have h0 : ("" : Str).length = 0 := rfl
            have hx : x ≠ "" := jf
            apply hx
            apply str_ext
            have : (L x).length = 0 := by rw [L_len]; omega
            rw [List.length_eq_zero_iff.mp this] <;> rfl
        · rw [List.flatMap_append, List.flatMap_append, List.flatMap_cons, List.flatMap_cons, List.flatMap_nil, List.append_nil, List.append_nil, List.append_assoc]
          congr 1
          show es (L (y ++ x)) = es (L y) ++ es (L x)
          rw [L_app, es_app]
        · rw [List.map_append, List.map_append, List.sum_append, List.sum_append]
          show _ + (1 + 0) ≤ _ + (1 + 0) + 1
          omega
theorem len_cn {h : Nat} {M : Mem} {ks : List Nd} (o : ∀ k ∈ ks, Ok B M h k) (hs : (ks.map (cnt h)).sum ≤ 4000) : ks.length ≤ 4000 := by
  induction ks with
  | nil => exact Nat.zero_le _
  | cons k ks ih =>
    have h1 : 1 ≤ cnt h k := by
      have ok := o k List.mem_cons_self
      cases h with
      | zero => exact ok.elim
      | succ h => cases k <;> simp only [cnt] <;> omega
    rw [List.map_cons, List.sum_cons] at hs
    have hge : ks.length ≤ (ks.map (cnt h)).sum := by
      clear ih hs
      induction ks with
      | nil => exact Nat.zero_le _
      | cons u us ih =>
        have h1 : 1 ≤ cnt h u := by
          have ok := o u (List.mem_cons_of_mem _ List.mem_cons_self)
          cases h with
          | zero => exact ok.elim
          | succ h => cases u <;> simp only [cnt] <;> omega
        have := ih fun a ha => o a (by
          rcases List.mem_cons.mp ha with rfl | ha
          · exact List.mem_cons_self
          · exact List.mem_cons_of_mem _ (List.mem_cons_of_mem _ ha))
        rw [List.length_cons, List.map_cons, List.sum_cons]
        omega
    rw [List.length_cons]
    omega
theorem jloop {G : Nat → Prop} {h q : Nat} {φr : FnD} {x0 : Option D} {chk : Mem → Bool} : ∀ (fs : List Nd) (M : Mem) (js : List Nd) (x2 : Option D), M[q]? = some (.lst (js.map dv)) → JOk G M h q js → Apart js → JOk G M h q fs → (js.flatMap (pl h)).length + (fs.flatMap (pl h)).length ≤ 1000000 → (js.map (cnt h)).sum + (fs.map (cnt h)).sum ≤ 4000 → (∀ M' : Mem, (∀ i : Nat, i ≠ q → M'[i]? = M[i]?) → chk M' = true) →
    ∃ (M' : Mem) (js' : List Nd) (y2 : Option D), forV chk (gNm 2) (β__law_joined_2 φr) (fs.map dv) [x0, some (.ref q), x2] M = .nx [x0, some (.ref q), y2] M' ∧ M'[q]? = some (.lst (js'.map dv)) ∧ (∀ i : Nat, i ≠ q → M'[i]? = M[i]?) ∧ M'.length = M.length ∧ JOk G M' h q js' ∧ Apart js' ∧ js'.flatMap (pl h) = js.flatMap (pl h) ++ fs.flatMap (pl h) ∧ (js'.map (cnt h)).sum ≤ (js.map (cnt h)).sum + (fs.map (cnt h)).sum
  | [], M, js, x2, hM, oj, ap, _, _, _, hc => ⟨M, js, x2, forV_n (hc M fun _ _ => rfl), hM, fun _ _ => rfl, rfl, oj, ap, by rw [List.flatMap_nil, List.append_nil], Nat.le_refl _⟩
  | f :: fs, M, js, x2, hM, oj, ap, of, hl, hs, hc => by
    rw [List.flatMap_cons, List.length_append] at hl
    rw [List.map_cons, List.sum_cons] at hs
    obtain ⟨o1, o2, o3⟩ := of f List.mem_cons_self
    have hjl := len_cn (fun j hj => (oj j hj).1) (by omega)
    obtain ⟨M1, js1, e1, p1, u1, l1, oj1, ap1, z1, c1⟩ := jstep (φr := φr) (x0 := x0) hM oj ap o1 o2 o3 (by omega) hjl
    obtain ⟨M', js', y2, e2, p2, u2, l2, oj2, ap2, z2, c2⟩ := jloop (φr := φr) (x0 := x0) (chk := chk) fs M1 js1 (some (dv f)) p1 oj1 ap1 (fun g hg => by
      obtain ⟨a, b, c⟩ := of g (List.mem_cons_of_mem _ hg)
      exact ⟨Ok.ext (P := fun i => i ≠ q ∧ G i) (fun i o hi z => by rw [u1 i hi.1]; exact z) a c, b, c⟩) (by rw [z1, List.length_append]; omega) (by omega) fun M' hu => hc M' fun i hi => by rw [hu i hi, u1 i hi]
    refine ⟨M', js', y2, ?_, p2, fun i hi => by rw [u2 i hi, u1 i hi], by rw [l2, l1], oj2, ap2, by rw [z2, z1, List.flatMap_cons, List.append_assoc], by rw [List.map_cons, List.sum_cons]; omega⟩
    rw [List.map_cons]
    exact (forV_c (hc M fun _ _ => rfl) rfl e1).trans e2
def Fq (h : Nat) (φr : FnD) : Prop := ∀ (d : D) (ks : List Nd) (M : Mem) (N : Nat), N ≤ M.length → lsOf M d = some (ks.map dv) → (∀ r, d = .ref r → r < N) → (∀ k ∈ ks, Ok B M h k ∧ In (fun i => i < N) h k) → (ks.map (cnt h)).sum ≤ 4000 → (ks.flatMap (pl h)).length ≤ 1000000 →
  ∃ (bs : List Nd) (M' : Mem) (p : Nat), φr [d] M = .ok (.ref p) M' ∧ P.Ext M M' ∧ M.length ≤ p ∧ M'[p]? = some (.lst (bs.map dv)) ∧ (∀ b ∈ bs, Ok B M' h b ∧ Jn h b ∧ In (fun i => i < N ∨ (M.length ≤ i ∧ i ≠ p)) h b) ∧ (bs.map (cnt h)).sum ≤ (ks.map (cnt h)).sum ∧ bs.flatMap (pl h) = ks.flatMap (pl h)
theorem joined_eq {h : Nat} {φr : FnD} (F : Fq h φr) {d : D} {ks : List Nd} {M : Mem} {N : Nat} (hN : N ≤ M.length) (hd : lsOf M d = some (ks.map dv)) (hdN : ∀ r, d = .ref r → r < N) (hk : ∀ k ∈ ks, Ok B M h k ∧ In (fun i => i < N) h k) (hs : (ks.map (cnt h)).sum ≤ 4000) (hl : (ks.flatMap (pl h)).length ≤ 1000000) :
    ∃ (js : List Nd) (M' : Mem) (q : Nat), φ__law_joined φr [d] M = .ok (.ref q) M' ∧ P.Ext M M' ∧ M.length ≤ q ∧ M'[q]? = some (.lst (js.map dv)) ∧ (∀ j ∈ js, Ok B M' h j ∧ Jn h j ∧ In (fun i => i < N ∨ (M.length ≤ i ∧ i ≠ q)) h j) ∧ Apart js ∧ (js.map (cnt h)).sum ≤ (ks.map (cnt h)).sum ∧ js.flatMap (pl h) = ks.flatMap (pl h) := by
  have x1 : P.Ext M (M ++ [DO.lst []]) := .app
  have m1 : (M ++ [DO.lst []]).length = M.length + 1 := P.len1
  obtain ⟨bs, M1, p, e1, x2, l2, p1, o1, c1, z1⟩ := F d ks (M ++ [.lst []]) N (by omega) (ls_ext (P := fun i => i < N) (fun i o _ q => x1 i o q) hd hdN) hdN (fun k hk' => ⟨(hk k hk').1.all x1, (hk k hk').2⟩) hs hl
  have hq : M1[M.length]? = some (.lst (([] : List Nd).map dv)) := x2 _ _ P.app_at
  obtain ⟨chk, e3, e4⟩ := src_at (v_lsR p1)
  obtain ⟨M', js, y2, f1, q1, u1, n1, oj, ap, z2, c2⟩ := jloop (G := fun i => i < N ∨ M.length ≤ i) (h := h) (q := M.length) (φr := φr) (x0 := some d) (chk := chk) bs M1 [] none hq (fun _ h => nomatch h) trivial (fun b hb => ⟨(o1 b hb).1, (o1 b hb).2.1, (o1 b hb).2.2.mono fun i hi => by omega⟩) (by rw [z1]; simpa using hl) (by simpa using (by omega : (bs.map (cnt h)).sum ≤ 4000)) fun M' hu => e4 M' (v_lsR (by rw [hu p (by omega)]; exact p1))
  have hnd : M.length < M1.length := P.lt_of hq
  refine ⟨js, M', M.length, ?_, fun i o z => ?_, Nat.le_refl _, q1, fun j hj => ⟨(oj j hj).1, (oj j hj).2.1, (oj j hj).2.2.mono fun i hi => by omega⟩, ap, by simp only [List.map_nil, List.sum_nil, Nat.zero_add] at c2; omega, by rw [z2, List.flatMap_nil, List.nil_append, z1]⟩
  · unfold φ__law_joined
    refine run_def rfl ?_
    unfold ψ__law_joined
    simp only [LD.q_RaiseF, LD.raiK_1, LD.raiK_2, LD.raiK_3, LD.q_Chain, LD.chC_t, LD.chC_f, LD.q_tCh, LD.blC_t, LD.blC_f, LD.q_Aug, LD.augR_r, LD.augF_c, LD.augV_i, LD.augS_i, LD.augT_i, LD.q_Pop, LD.v_pop, LD.popK_s, LD.q_Range3, LD.q_iRev, LD.revR_t, LD.revR_l, LD.q_DicF, LD.P.q_Slice, LD.P.q_oSome, LD.P.q_oNone, LD.P.soK_i, LD.P.rix_s, LD.P.rix_fs, LD.lkG_s, LD.leG_s, LD.q_SLock, LD.q_ELock, LD.lkS_r, LD.lkE_r, LD.lockM_d, LD.unlM_f, LD.unlS_n, LD.unlS_r, LD.unlE_o, LD.nxK_s, LD.rtK_s, LD.okU_s, LD.q_iDic, LD.fdR_r, LD.fdK_f, LD.dcmK_l, LD.q_Dcm, LD.finDK_t, LD.finDK_f, LD.q_LItems, LD.itmR_r, LD.itmK_d, LD.rixK_f, LD.v_lenO, LD.v_eqQi, LD.v_neQi, LD.v_mulGi, LD.q_Ins, LD.q_App, LD.okS_t, LD.v_isLst, LD.lstK_s, LD.v_app, LD.q_Rev, LD.lsK_s, LD.q_Get, LD.getKK_s, LD.v_lsL, LD.v_keyI, LD.v_keyS, Option.isSome_some, Option.isSome_none, Option.getD_some, Option.getD_none, LD.v_eqs, LD.v_nes, LD.v_isiBb, LD.q_C, LD.q_Var, LD.q_Bin, LD.q_Un, LD.q_tOf, LD.q_tCmp, LD.q_tAnd, LD.q_tOr, LD.q_tNot, LD.q_And, LD.q_Or, LD.q_Not, LD.q_If, LD.q_Nil, LD.q_Cons, LD.q_Tup, LD.q_Lst, LD.q_LstM, LD.q_Call, LD.q_Meth, LD.q_Attr, LD.q_Blt, LD.q_Comp, LD.q_iOf, LD.srcK_s, LD.v_truB, LD.v_truL, LD.v_truN, LD.v_srcL, LD.v_neg, LD.q_iRange, LD.q_Next, LD.q_Seq, LD.q_Expr, LD.q_Ret, LD.q_RetN, LD.q_SIf, LD.q_Bk, LD.q_Ct, LD.q_Asg, LD.q_Nm, LD.q_Sub, LD.q_Del, LD.q_Fld, LD.q_Dic, LD.q_For, LD.wipeD, Bool.not_true, Bool.not_false, LD.ifT, LD.le0, LD.le1, LD.le2, LD.le3, LD.le4, LD.le5, LD.le6, LD.cmpK_l, LD.nn_n, LD.nn_i, LD.nn_t, LD.nn_l, LD.nn_r, LD.nn_b, LD.nn_s, LD.nonK_n, LD.okK_o, LD.bind_k, LD.bind_b, LD.bind_e, LD.bindS_k, LD.bindS_e, LD.ofO_s, LD.getV_s, LD.truK_s, LD.blK_b, LD.refK_r, LD.insK_i, LD.lookK_s, LD.lookK_n, LD.refS_r, LD.insS_i, LD.lookS_s, LD.seq_n, LD.seq_r, LD.seq_b, LD.seq_c, LD.seq_e, LD.storeK_s, LD.memK_s, LD.endF_n, LD.endF_r, LD.endF_e, LD.pick_t, LD.pick_f, LD.finL_f, LD.finL_t, LD.v_add, LD.v_sub, LD.v_mulR, LD.v_fdiv, LD.v_mod, LD.v_int, LD.v_lt, LD.v_le, LD.v_gt, LD.v_ge, LD.v_eq, LD.v_ne, LD.v_len, LD.v_tix, LD.v_lix, LD.v_rix, LD.rixK_l, LD.rixK_d, LD.v_isN, LD.v_isnN, LD.v_isNone, LD.v_isNoneN, LD.startD, List.length_cons, List.length_nil, List.map_cons, List.map_nil, List.cons_append, List.nil_append, List.append_nil, List.getElem?_cons_zero, List.getElem?_cons_succ, List.set_cons_zero, List.set_cons_succ, List.replicate_succ, List.replicate_zero, Nat.reduceAdd, Nat.reduceSub, Nat.reduceBEq, Int.reduceLT, Int.reduceNeg, Int.reduceLE, Nat.reduceLeDiff, Nat.reduceLT, List.lookup_cons, List.lookup_nil, beq_self_eq_true, Option.map_some, Option.map_none, e1, e3, f1]
  · rw [u1 i (by have := P.lt_of z; omega)]
    exact x2 _ _ (x1 _ _ z)
/-! ### flat -/
def FOk (M : Mem) (h N L p : Nat) (bs : List Nd) : Prop := ∀ b ∈ bs, Ok B M h b ∧ Jn h b ∧ In (fun i => i < N ∨ (L ≤ i ∧ i ≠ p)) h b
theorem app_end' {M : Mem} {p : Nat} {ns : List Nd} {nd : Nd} (hp : M[p]? = some (.lst (ns.map dv))) : (M.set p (.lst (ns.map dv ++ [dv nd])))[p]? = some (.lst ((ns ++ [nd]).map dv)) := by
  rw [List.map_append]
  exact P.set_is hp
theorem flat_loop {h : Nat} {φr : FnD} (ih : ∀ h', h = h' + 1 → Fq h' φr) {chk : Mem → Bool} {x0 : Option D} {N L : Nat} (hNL : N ≤ L) : ∀ (ks : List Nd) (M : Mem) (acc : List Nd) (p : Nat) (x2 : Option D), L ≤ p → M[p]? = some (.lst (acc.map dv)) → FOk M h N L p acc → (∀ k ∈ ks, Ok B M h k ∧ In (fun i => i < N) h k) → (acc.map (cnt h)).sum + (ks.map (cnt h)).sum ≤ 4000 → (ks.flatMap (pl h)).length ≤ 1000000 → (∀ M', Fn L M M' → chk M' = true) →
    ∃ (M' : Mem) (acc' : List Nd) (p' : Nat) (y2 : Option D), forV chk (gNm 2) (β__law_flat_2 φr) (ks.map dv) [x0, some (.ref p), x2] M = .nx [x0, some (.ref p'), y2] M' ∧ Fn L M M' ∧ L ≤ p' ∧ M'[p']? = some (.lst (acc'.map dv)) ∧ FOk M' h N L p' acc' ∧ (acc'.map (cnt h)).sum ≤ (acc.map (cnt h)).sum + (ks.map (cnt h)).sum ∧ acc'.flatMap (pl h) = acc.flatMap (pl h) ++ ks.flatMap (pl h)
  | [], M, acc, p, x2, hp, hM, ok, _, _, _, hc => ⟨M, acc, p, x2, forV_n (hc M fun _ _ _ q => q), fun _ _ _ q => q, hp, hM, ok, Nat.le_refl _, by rw [List.flatMap_nil, List.append_nil]⟩
  | k :: ks, M, acc, p, x2, hp, hM, ok, hk, hs, hl, hc => by
    obtain ⟨ok0, in0⟩ := hk k List.mem_cons_self
    obtain ⟨t1, t2, t3, t4, t5, t6⟩ := tEl
    rw [List.map_cons, List.sum_cons] at hs
    rw [List.flatMap_cons, List.length_append] at hl
    have hpl := P.lt_of hM
    have hlen : acc.length ≤ 4000 := len_cn (fun a ha => (ok a ha).1) (by omega)
    have hapl : (acc.map dv).length < LINE := by rw [List.length_map]; have e : LINE = 16777216 := rfl; omega
    have hi : isLst M (.ref p) = true := isLst_r hM
    have hc0 := hc M fun _ _ _ q => q
    cases h with
    | zero => exact ok0.elim
    | succ h =>
    have go : ∀ (M2 : Mem) (p2 : Nat) (acc2 : List Nd), Fn L M M2 → L ≤ p2 → M2[p2]? = some (.lst (acc2.map dv)) → FOk M2 (h + 1) N L p2 acc2 → (acc2.map (cnt (h + 1))).sum ≤ (acc.map (cnt (h + 1))).sum + cnt (h + 1) k → acc2.flatMap (pl (h + 1)) = acc.flatMap (pl (h + 1)) ++ pl (h + 1) k →
        β__law_flat_2 φr [x0, some (.ref p), some (dv k)] M = .nx [x0, some (.ref p2), some (dv k)] M2 → ∃ (M' : Mem) (acc' : List Nd) (p' : Nat) (y2 : Option D), forV chk (gNm 2) (β__law_flat_2 φr) ((k :: ks).map dv) [x0, some (.ref p), x2] M = .nx [x0, some (.ref p'), y2] M' ∧ Fn L M M' ∧ L ≤ p' ∧ M'[p']? = some (.lst (acc'.map dv)) ∧ FOk M' (h + 1) N L p' acc' ∧ (acc'.map (cnt (h + 1))).sum ≤ (acc.map (cnt (h + 1))).sum + ((k :: ks).map (cnt (h + 1))).sum ∧ acc'.flatMap (pl (h + 1)) = acc.flatMap (pl (h + 1)) ++ (k :: ks).flatMap (pl (h + 1)) := fun M2 p2 acc2 f2 q2 m2 o2 c2 z2 e => by
      obtain ⟨M', acc', p', y2, e', f', q', m', o', c', z'⟩ := flat_loop ih (chk := chk) (x0 := x0) hNL ks M2 acc2 p2 (some (dv k)) q2 m2 o2 (fun u hu => ⟨Ok.ext (P := fun i => i < N) (fun i o hi q => f2 i o (by omega) q) (hk u (List.mem_cons_of_mem _ hu)).1 (hk u (List.mem_cons_of_mem _ hu)).2, (hk u (List.mem_cons_of_mem _ hu)).2⟩) (by omega) (by omega) (fun M' f => hc M' (f2.trans f))
      refine ⟨M', acc', p', y2, ?_, f2.trans f', q', m', o', by rw [List.map_cons, List.sum_cons]; omega, by rw [z', z2, List.flatMap_cons, List.append_assoc]⟩
      rw [List.map_cons]
      exact (forV_c (s1 := [x0, some (.ref p), some (dv k)]) hc0 rfl e).trans e'
    have app : ∀ (M1 : Mem) (nd : Nd), P.Ext M M1 → Ok B M1 (h + 1) nd → Jn (h + 1) nd → In (fun i => i < N ∨ (L ≤ i ∧ i ≠ p)) (h + 1) nd → FOk (M1.set p (.lst (acc.map dv ++ [dv nd]))) (h + 1) N L p (acc ++ [nd]) := fun M1 nd ex o1 b1 i1 b hb => by
      have keep : ∀ a, Ok B M1 (h + 1) a → In (fun i => i < N ∨ (L ≤ i ∧ i ≠ p)) (h + 1) a → Ok B (M1.set p (.lst (acc.map dv ++ [dv nd]))) (h + 1) a := fun a oa ia => Ok.ext (P := fun i => i < N ∨ (L ≤ i ∧ i ≠ p)) (fun i o hi q => by rw [P.set_at (by omega)]; exact q) oa ia
      rcases List.mem_append.mp hb with hb | hb
      · exact ⟨keep b (Ok.all ex (ok b hb).1) (ok b hb).2.2, (ok b hb).2.1, (ok b hb).2.2⟩
      · rw [List.mem_singleton.mp hb]
        exact ⟨keep nd o1 i1, b1, i1⟩
    cases k with
    | txt x =>
      cases hx : (x == "") with
      | true =>
        obtain rfl := beq_iff_eq.mp hx
        refine go M p acc (fun _ _ _ q => q) hp hM ok (Nat.le_add_right _ _) ?_ ?_
        · have e : pl (h + 1) (.txt "") = [] := rfl
          rw [e, List.append_nil]
        · show β__law_flat_2 φr [x0, some (.ref p), some (.tup [.str "text", .str ""])] M = .nx [x0, some (.ref p), some (.tup [.str "text", .str ""])] _
          unfold β__law_flat_2
          simp only [LD.q_RaiseF, LD.raiK_1, LD.raiK_2, LD.raiK_3, LD.q_Chain, LD.chC_t, LD.chC_f, LD.q_tCh, LD.blC_t, LD.blC_f, LD.q_Aug, LD.augR_r, LD.augF_c, LD.augV_i, LD.augS_i, LD.augT_i, LD.q_Pop, LD.v_pop, LD.popK_s, LD.q_Range3, LD.q_iRev, LD.revR_t, LD.revR_l, LD.q_DicF, LD.P.q_Slice, LD.P.q_oSome, LD.P.q_oNone, LD.P.soK_i, LD.P.rix_s, LD.P.rix_fs, LD.lkG_s, LD.leG_s, LD.q_SLock, LD.q_ELock, LD.lkS_r, LD.lkE_r, LD.lockM_d, LD.unlM_f, LD.unlS_n, LD.unlS_r, LD.unlE_o, LD.nxK_s, LD.rtK_s, LD.okU_s, LD.q_iDic, LD.fdR_r, LD.fdK_f, LD.dcmK_l, LD.q_Dcm, LD.finDK_t, LD.finDK_f, LD.q_LItems, LD.itmR_r, LD.itmK_d, LD.rixK_f, LD.v_lenO, LD.v_eqQi, LD.v_neQi, LD.v_mulGi, LD.q_Ins, LD.q_App, LD.okS_t, LD.v_isLst, LD.lstK_s, LD.v_app, LD.q_Rev, LD.lsK_s, LD.q_Get, LD.getKK_s, LD.v_lsL, LD.v_keyI, LD.v_keyS, Option.isSome_some, Option.isSome_none, Option.getD_some, Option.getD_none, LD.v_eqs, LD.v_nes, LD.v_isiBb, LD.q_C, LD.q_Var, LD.q_Bin, LD.q_Un, LD.q_tOf, LD.q_tCmp, LD.q_tAnd, LD.q_tOr, LD.q_tNot, LD.q_And, LD.q_Or, LD.q_Not, LD.q_If, LD.q_Nil, LD.q_Cons, LD.q_Tup, LD.q_Lst, LD.q_LstM, LD.q_Call, LD.q_Meth, LD.q_Attr, LD.q_Blt, LD.q_Comp, LD.q_iOf, LD.srcK_s, LD.v_truB, LD.v_truL, LD.v_truN, LD.v_srcL, LD.v_neg, LD.q_iRange, LD.q_Next, LD.q_Seq, LD.q_Expr, LD.q_Ret, LD.q_RetN, LD.q_SIf, LD.q_Bk, LD.q_Ct, LD.q_Asg, LD.q_Nm, LD.q_Sub, LD.q_Del, LD.q_Fld, LD.q_Dic, LD.q_For, LD.wipeD, Bool.not_true, Bool.not_false, LD.ifT, LD.le0, LD.le1, LD.le2, LD.le3, LD.le4, LD.le5, LD.le6, LD.cmpK_l, LD.nn_n, LD.nn_i, LD.nn_t, LD.nn_l, LD.nn_r, LD.nn_b, LD.nn_s, LD.nonK_n, LD.okK_o, LD.bind_k, LD.bind_b, LD.bind_e, LD.bindS_k, LD.bindS_e, LD.ofO_s, LD.getV_s, LD.truK_s, LD.blK_b, LD.refK_r, LD.insK_i, LD.lookK_s, LD.lookK_n, LD.refS_r, LD.insS_i, LD.lookS_s, LD.seq_n, LD.seq_r, LD.seq_b, LD.seq_c, LD.seq_e, LD.storeK_s, LD.memK_s, LD.endF_n, LD.endF_r, LD.endF_e, LD.pick_t, LD.pick_f, LD.finL_f, LD.finL_t, LD.v_add, LD.v_sub, LD.v_mulR, LD.v_fdiv, LD.v_mod, LD.v_int, LD.v_lt, LD.v_le, LD.v_gt, LD.v_ge, LD.v_eq, LD.v_ne, LD.v_len, LD.v_tix, LD.v_lix, LD.v_rix, LD.rixK_l, LD.rixK_d, LD.v_isN, LD.v_isnN, LD.v_isNone, LD.v_isNoneN, LD.startD, List.length_cons, List.length_nil, List.map_cons, List.map_nil, List.cons_append, List.nil_append, List.append_nil, List.getElem?_cons_zero, List.getElem?_cons_succ, List.set_cons_zero, List.set_cons_succ, List.replicate_succ, List.replicate_zero, Nat.reduceAdd, Nat.reduceSub, Nat.reduceBEq, Int.reduceLT, Int.reduceNeg, Int.reduceLE, Nat.reduceLeDiff, Nat.reduceLT, List.lookup_cons, List.lookup_nil, beq_self_eq_true, Option.map_some, Option.map_none, b20, b21, t4, t5, hx]
      | false =>
        have hne : x ≠ "" := by rw [beq_eq_false_iff_ne] at hx; exact hx
        refine go (M.set p (.lst (acc.map dv ++ [dv (.txt x)]))) p (acc ++ [.txt x]) (.set hp) hp (app_end' hM) (app M (.txt x) .refl ok0 hne trivial) (by rw [List.map_append, List.sum_append]; exact Nat.le_refl _) (by rw [List.flatMap_append, List.flatMap_cons, List.flatMap_nil, List.append_nil]) ?_
        show β__law_flat_2 φr [x0, some (.ref p), some (.tup [.str "text", .str x])] M = .nx [x0, some (.ref p), some (.tup [.str "text", .str x])] _
        unfold β__law_flat_2
        simp only [LD.q_RaiseF, LD.raiK_1, LD.raiK_2, LD.raiK_3, LD.q_Chain, LD.chC_t, LD.chC_f, LD.q_tCh, LD.blC_t, LD.blC_f, LD.q_Aug, LD.augR_r, LD.augF_c, LD.augV_i, LD.augS_i, LD.augT_i, LD.q_Pop, LD.v_pop, LD.popK_s, LD.q_Range3, LD.q_iRev, LD.revR_t, LD.revR_l, LD.q_DicF, LD.P.q_Slice, LD.P.q_oSome, LD.P.q_oNone, LD.P.soK_i, LD.P.rix_s, LD.P.rix_fs, LD.lkG_s, LD.leG_s, LD.q_SLock, LD.q_ELock, LD.lkS_r, LD.lkE_r, LD.lockM_d, LD.unlM_f, LD.unlS_n, LD.unlS_r, LD.unlE_o, LD.nxK_s, LD.rtK_s, LD.okU_s, LD.q_iDic, LD.fdR_r, LD.fdK_f, LD.dcmK_l, LD.q_Dcm, LD.finDK_t, LD.finDK_f, LD.q_LItems, LD.itmR_r, LD.itmK_d, LD.rixK_f, LD.v_lenO, LD.v_eqQi, LD.v_neQi, LD.v_mulGi, LD.q_Ins, LD.q_App, LD.okS_t, LD.v_isLst, LD.lstK_s, LD.v_app, LD.q_Rev, LD.lsK_s, LD.q_Get, LD.getKK_s, LD.v_lsL, LD.v_keyI, LD.v_keyS, Option.isSome_some, Option.isSome_none, Option.getD_some, Option.getD_none, LD.v_eqs, LD.v_nes, LD.v_isiBb, LD.q_C, LD.q_Var, LD.q_Bin, LD.q_Un, LD.q_tOf, LD.q_tCmp, LD.q_tAnd, LD.q_tOr, LD.q_tNot, LD.q_And, LD.q_Or, LD.q_Not, LD.q_If, LD.q_Nil, LD.q_Cons, LD.q_Tup, LD.q_Lst, LD.q_LstM, LD.q_Call, LD.q_Meth, LD.q_Attr, LD.q_Blt, LD.q_Comp, LD.q_iOf, LD.srcK_s, LD.v_truB, LD.v_truL, LD.v_truN, LD.v_srcL, LD.v_neg, LD.q_iRange, LD.q_Next, LD.q_Seq, LD.q_Expr, LD.q_Ret, LD.q_RetN, LD.q_SIf, LD.q_Bk, LD.q_Ct, LD.q_Asg, LD.q_Nm, LD.q_Sub, LD.q_Del, LD.q_Fld, LD.q_Dic, LD.q_For, LD.wipeD, Bool.not_true, Bool.not_false, LD.ifT, LD.le0, LD.le1, LD.le2, LD.le3, LD.le4, LD.le5, LD.le6, LD.cmpK_l, LD.nn_n, LD.nn_i, LD.nn_t, LD.nn_l, LD.nn_r, LD.nn_b, LD.nn_s, LD.nonK_n, LD.okK_o, LD.bind_k, LD.bind_b, LD.bind_e, LD.bindS_k, LD.bindS_e, LD.ofO_s, LD.getV_s, LD.truK_s, LD.blK_b, LD.refK_r, LD.insK_i, LD.lookK_s, LD.lookK_n, LD.refS_r, LD.insS_i, LD.lookS_s, LD.seq_n, LD.seq_r, LD.seq_b, LD.seq_c, LD.seq_e, LD.storeK_s, LD.memK_s, LD.endF_n, LD.endF_r, LD.endF_e, LD.pick_t, LD.pick_f, LD.finL_f, LD.finL_t, LD.v_add, LD.v_sub, LD.v_mulR, LD.v_fdiv, LD.v_mod, LD.v_int, LD.v_lt, LD.v_le, LD.v_gt, LD.v_ge, LD.v_eq, LD.v_ne, LD.v_len, LD.v_tix, LD.v_lix, LD.v_rix, LD.rixK_l, LD.rixK_d, LD.v_isN, LD.v_isnN, LD.v_isNone, LD.v_isNoneN, LD.startD, List.length_cons, List.length_nil, List.map_cons, List.map_nil, List.cons_append, List.nil_append, List.append_nil, List.getElem?_cons_zero, List.getElem?_cons_succ, List.set_cons_zero, List.set_cons_succ, List.replicate_succ, List.replicate_zero, Nat.reduceAdd, Nat.reduceSub, Nat.reduceBEq, Int.reduceLT, Int.reduceNeg, Int.reduceLE, Nat.reduceLeDiff, Nat.reduceLT, List.lookup_cons, List.lookup_nil, beq_self_eq_true, Option.map_some, Option.map_none, b20, b21, t4, t5, hx, hi, hM, appK_s hapl]
        rfl
    | el tag a ps d kk =>
      have hcnt : cnt (h + 1) (.el tag a ps d kk) = 1 + (kk.map (cnt h)).sum := rfl
      have hpl2 : (pl (h + 1) (.el tag a ps d kk)) = startL tag ps ++ kk.flatMap (pl h) ++ K68.L "</" ++ K68.L tag ++ K68.L ">" := rfl
      have hl2 : (kk.flatMap (pl h)).length ≤ 1000000 := by
        rw [hpl2] at hl
        simp only [List.length_append] at hl
        omega
      obtain ⟨bs, M1, p1, e1, x1, l1, q1, o1, ap1, c1, z1⟩ := joined_eq (ih h rfl) (M := M) (N := N) (by omega) ok0.2.2.2.2.1 in0.2.1 (fun k hk => ⟨ok0.2.2.2.2.2 k hk, in0.2.2 k hk⟩) (by rw [hcnt] at hs; omega) hl2
      have hM1 := x1 _ _ hM
      have o1' : Ok B M1 (h + 1) (.el tag a ps (.ref p1) bs) := ⟨ok0.1, ls_ext (P := fun i => i < N) (fun i o _ q => x1 i o q) ok0.2.1 in0.1, ok0.2.2.1, ok0.2.2.2.1, v_lsR q1, fun b hb => (o1 b hb).1⟩
      have i1 : In (fun i => i < N ∨ (L ≤ i ∧ i ≠ p)) (h + 1) (.el tag a ps (.ref p1) bs) := ⟨fun r e => .inl (in0.1 r e), fun r e => by cases e; exact .inr ⟨by omega, by omega⟩, fun b hb => (o1 b hb).2.2.mono fun i hi => by omega⟩
      refine go (M1.set p (.lst (acc.map dv ++ [dv (.el tag a ps (.ref p1) bs)]))) p (acc ++ [.el tag a ps (.ref p1) bs]) ((Fn.ext x1).trans (.set hp)) hp (app_end' hM1) (app M1 _ x1 o1' ⟨ap1, fun b hb => (o1 b hb).2.1⟩ i1) (by
        have hcnt2 : cnt (h + 1) (.el tag a ps (.ref p1) bs) = 1 + (bs.map (cnt h)).sum := rfl
        rw [List.map_append, List.sum_append, List.map_cons, List.sum_cons, hcnt, hcnt2]
        simp only [List.map_nil, List.sum_nil]
        omega) (by
        have e : pl (h + 1) (.el tag a ps (.ref p1) bs) = startL tag ps ++ bs.flatMap (pl h) ++ K68.L "</" ++ K68.L tag ++ K68.L ">" := rfl
        rw [List.flatMap_append, List.flatMap_cons, List.flatMap_nil, List.append_nil, e, z1, hpl2]) ?_
      show β__law_flat_2 φr [x0, some (.ref p), some (.tup [.str "element", .str tag, a, d])] M = .nx [x0, some (.ref p), some (.tup [.str "element", .str tag, a, d])] _
      unfold β__law_flat_2
      simp only [LD.q_RaiseF, LD.raiK_1, LD.raiK_2, LD.raiK_3, LD.q_Chain, LD.chC_t, LD.chC_f, LD.q_tCh, LD.blC_t, LD.blC_f, LD.q_Aug, LD.augR_r, LD.augF_c, LD.augV_i, LD.augS_i, LD.augT_i, LD.q_Pop, LD.v_pop, LD.popK_s, LD.q_Range3, LD.q_iRev, LD.revR_t, LD.revR_l, LD.q_DicF, LD.P.q_Slice, LD.P.q_oSome, LD.P.q_oNone, LD.P.soK_i, LD.P.rix_s, LD.P.rix_fs, LD.lkG_s, LD.leG_s, LD.q_SLock, LD.q_ELock, LD.lkS_r, LD.lkE_r, LD.lockM_d, LD.unlM_f, LD.unlS_n, LD.unlS_r, LD.unlE_o, LD.nxK_s, LD.rtK_s, LD.okU_s, LD.q_iDic, LD.fdR_r, LD.fdK_f, LD.dcmK_l, LD.q_Dcm, LD.finDK_t, LD.finDK_f, LD.q_LItems, LD.itmR_r, LD.itmK_d, LD.rixK_f, LD.v_lenO, LD.v_eqQi, LD.v_neQi, LD.v_mulGi, LD.q_Ins, LD.q_App, LD.okS_t, LD.v_isLst, LD.lstK_s, LD.v_app, LD.q_Rev, LD.lsK_s, LD.q_Get, LD.getKK_s, LD.v_lsL, LD.v_keyI, LD.v_keyS, Option.isSome_some, Option.isSome_none, Option.getD_some, Option.getD_none, LD.v_eqs, LD.v_nes, LD.v_isiBb, LD.q_C, LD.q_Var, LD.q_Bin, LD.q_Un, LD.q_tOf, LD.q_tCmp, LD.q_tAnd, LD.q_tOr, LD.q_tNot, LD.q_And, LD.q_Or, LD.q_Not, LD.q_If, LD.q_Nil, LD.q_Cons, LD.q_Tup, LD.q_Lst, LD.q_LstM, LD.q_Call, LD.q_Meth, LD.q_Attr, LD.q_Blt, LD.q_Comp, LD.q_iOf, LD.srcK_s, LD.v_truB, LD.v_truL, LD.v_truN, LD.v_srcL, LD.v_neg, LD.q_iRange, LD.q_Next, LD.q_Seq, LD.q_Expr, LD.q_Ret, LD.q_RetN, LD.q_SIf, LD.q_Bk, LD.q_Ct, LD.q_Asg, LD.q_Nm, LD.q_Sub, LD.q_Del, LD.q_Fld, LD.q_Dic, LD.q_For, LD.wipeD, Bool.not_true, Bool.not_false, LD.ifT, LD.le0, LD.le1, LD.le2, LD.le3, LD.le4, LD.le5, LD.le6, LD.cmpK_l, LD.nn_n, LD.nn_i, LD.nn_t, LD.nn_l, LD.nn_r, LD.nn_b, LD.nn_s, LD.nonK_n, LD.okK_o, LD.bind_k, LD.bind_b, LD.bind_e, LD.bindS_k, LD.bindS_e, LD.ofO_s, LD.getV_s, LD.truK_s, LD.blK_b, LD.refK_r, LD.insK_i, LD.lookK_s, LD.lookK_n, LD.refS_r, LD.insS_i, LD.lookS_s, LD.seq_n, LD.seq_r, LD.seq_b, LD.seq_c, LD.seq_e, LD.storeK_s, LD.memK_s, LD.endF_n, LD.endF_r, LD.endF_e, LD.pick_t, LD.pick_f, LD.finL_f, LD.finL_t, LD.v_add, LD.v_sub, LD.v_mulR, LD.v_fdiv, LD.v_mod, LD.v_int, LD.v_lt, LD.v_le, LD.v_gt, LD.v_ge, LD.v_eq, LD.v_ne, LD.v_len, LD.v_tix, LD.v_lix, LD.v_rix, LD.rixK_l, LD.rixK_d, LD.v_isN, LD.v_isnN, LD.v_isNone, LD.v_isNoneN, LD.startD, List.length_cons, List.length_nil, List.map_cons, List.map_nil, List.cons_append, List.nil_append, List.append_nil, List.getElem?_cons_zero, List.getElem?_cons_succ, List.set_cons_zero, List.set_cons_succ, List.replicate_succ, List.replicate_zero, Nat.reduceAdd, Nat.reduceSub, Nat.reduceBEq, Int.reduceLT, Int.reduceNeg, Int.reduceLE, Nat.reduceLeDiff, Nat.reduceLT, List.lookup_cons, List.lookup_nil, beq_self_eq_true, Option.map_some, Option.map_none, b40, b41, b42, b43, t6, e1, hi, hM, hM1, appK_s hapl]
      rfl
    | aw n d kk =>
      have hcnt : cnt (h + 1) (.aw n d kk) = 1 + (kk.map (cnt h)).sum := rfl
      have hpl2 : (pl (h + 1) (.aw n d kk)) = kk.flatMap (pl h) := rfl
      obtain ⟨bs, M1, p1, e1, x1, l1, q1, o1, c1, z1⟩ := ih h rfl d kk M N (by omega) ok0.1.2 in0.1 (fun k hk => ⟨ok0.2 k hk, in0.2 k hk⟩) (by rw [hcnt] at hs; omega) (by rw [hpl2] at hl; omega)
      have hM1 := x1 _ _ hM
      have hl1 := P.lt_of q1
      have hbl : bs.length ≤ 4000 := len_cn (fun a ha => (o1 a ha).1) (by rw [hcnt] at hs; omega)
      have hadd : addM (.ref p) (.ref p1) M1 = some (.ref M1.length, M1 ++ [.lst (acc.map dv ++ bs.map dv)]) := v_addM (v_lsR hM1) (v_lsR q1) (by rw [List.length_map, List.length_map]; have e : LINE = 16777216 := rfl; omega)
      refine go (M1 ++ [.lst (acc.map dv ++ bs.map dv)]) M1.length (acc ++ bs) ((Fn.ext x1).trans (.ext .app)) (by omega) (by rw [List.map_append]; exact P.app_at) (fun b hb => ?_) (by
        have hb : (bs.map (cnt (h + 1))).sum = (bs.map (cnt h)).sum := sum_congr fun b hb => cntUp (o1 b hb).1
        rw [List.map_append, List.sum_append, hcnt, hb]
        omega) (by
        have hb : bs.flatMap (pl (h + 1)) = bs.flatMap (pl h) := flat_congr fun b hb => plUp (o1 b hb).1
        rw [List.flatMap_append, hb, z1, hpl2]) ?_
      · rcases List.mem_append.mp hb with hb | hb
        · have oM1 := Ok.all x1 (ok b hb).1
          exact ⟨oM1.all .app, (ok b hb).2.1, ((ok b hb).2.2.and oM1.lt).mono fun i hi => by omega⟩
        · exact ⟨okUp ((o1 b hb).1.all .app), jnUp (o1 b hb).1 (o1 b hb).2.1, inUp (o1 b hb).1 (((o1 b hb).2.2.and (o1 b hb).1.lt).mono fun i hi => by omega)⟩
      · show β__law_flat_2 φr [x0, some (.ref p), some (.tup [.str "await", n, d])] M = .nx [x0, some (.ref M1.length), some (.tup [.str "await", n, d])] _
        unfold β__law_flat_2
        simp only [LD.q_RaiseF, LD.raiK_1, LD.raiK_2, LD.raiK_3, LD.q_Chain, LD.chC_t, LD.chC_f, LD.q_tCh, LD.blC_t, LD.blC_f, LD.q_Aug, LD.augR_r, LD.augF_c, LD.augV_i, LD.augS_i, LD.augT_i, LD.q_Pop, LD.v_pop, LD.popK_s, LD.q_Range3, LD.q_iRev, LD.revR_t, LD.revR_l, LD.q_DicF, LD.P.q_Slice, LD.P.q_oSome, LD.P.q_oNone, LD.P.soK_i, LD.P.rix_s, LD.P.rix_fs, LD.lkG_s, LD.leG_s, LD.q_SLock, LD.q_ELock, LD.lkS_r, LD.lkE_r, LD.lockM_d, LD.unlM_f, LD.unlS_n, LD.unlS_r, LD.unlE_o, LD.nxK_s, LD.rtK_s, LD.okU_s, LD.q_iDic, LD.fdR_r, LD.fdK_f, LD.dcmK_l, LD.q_Dcm, LD.finDK_t, LD.finDK_f, LD.q_LItems, LD.itmR_r, LD.itmK_d, LD.rixK_f, LD.v_lenO, LD.v_eqQi, LD.v_neQi, LD.v_mulGi, LD.q_Ins, LD.q_App, LD.okS_t, LD.v_isLst, LD.lstK_s, LD.v_app, LD.q_Rev, LD.lsK_s, LD.q_Get, LD.getKK_s, LD.v_lsL, LD.v_keyI, LD.v_keyS, Option.isSome_some, Option.isSome_none, Option.getD_some, Option.getD_none, LD.v_eqs, LD.v_nes, LD.v_isiBb, LD.q_C, LD.q_Var, LD.q_Bin, LD.q_Un, LD.q_tOf, LD.q_tCmp, LD.q_tAnd, LD.q_tOr, LD.q_tNot, LD.q_And, LD.q_Or, LD.q_Not, LD.q_If, LD.q_Nil, LD.q_Cons, LD.q_Tup, LD.q_Lst, LD.q_LstM, LD.q_Call, LD.q_Meth, LD.q_Attr, LD.q_Blt, LD.q_Comp, LD.q_iOf, LD.srcK_s, LD.v_truB, LD.v_truL, LD.v_truN, LD.v_srcL, LD.v_neg, LD.q_iRange, LD.q_Next, LD.q_Seq, LD.q_Expr, LD.q_Ret, LD.q_RetN, LD.q_SIf, LD.q_Bk, LD.q_Ct, LD.q_Asg, LD.q_Nm, LD.q_Sub, LD.q_Del, LD.q_Fld, LD.q_Dic, LD.q_For, LD.wipeD, Bool.not_true, Bool.not_false, LD.ifT, LD.le0, LD.le1, LD.le2, LD.le3, LD.le4, LD.le5, LD.le6, LD.cmpK_l, LD.nn_n, LD.nn_i, LD.nn_t, LD.nn_l, LD.nn_r, LD.nn_b, LD.nn_s, LD.nonK_n, LD.okK_o, LD.bind_k, LD.bind_b, LD.bind_e, LD.bindS_k, LD.bindS_e, LD.ofO_s, LD.getV_s, LD.truK_s, LD.blK_b, LD.refK_r, LD.insK_i, LD.lookK_s, LD.lookK_n, LD.refS_r, LD.insS_i, LD.lookS_s, LD.seq_n, LD.seq_r, LD.seq_b, LD.seq_c, LD.seq_e, LD.storeK_s, LD.memK_s, LD.endF_n, LD.endF_r, LD.endF_e, LD.pick_t, LD.pick_f, LD.finL_f, LD.finL_t, LD.v_add, LD.v_sub, LD.v_mulR, LD.v_fdiv, LD.v_mod, LD.v_int, LD.v_lt, LD.v_le, LD.v_gt, LD.v_ge, LD.v_eq, LD.v_ne, LD.v_len, LD.v_tix, LD.v_lix, LD.v_rix, LD.rixK_l, LD.rixK_d, LD.v_isN, LD.v_isnN, LD.v_isNone, LD.v_isNoneN, LD.startD, List.length_cons, List.length_nil, List.map_cons, List.map_nil, List.cons_append, List.nil_append, List.append_nil, List.getElem?_cons_zero, List.getElem?_cons_succ, List.set_cons_zero, List.set_cons_succ, List.replicate_succ, List.replicate_zero, Nat.reduceAdd, Nat.reduceSub, Nat.reduceBEq, Int.reduceLT, Int.reduceNeg, Int.reduceLE, Nat.reduceLeDiff, Nat.reduceLT, List.lookup_cons, List.lookup_nil, beq_self_eq_true, Option.map_some, Option.map_none, b30, b32, e1, hadd]
theorem flat_eq : ∀ (h m : Nat), h < m → Fq h (φ__law_flat m)
  | h, 0, hm => by omega
  | h, m + 1, hm => fun d ks M N hN hd hdN hk hs hl => by
    have ih : ∀ h', h = h' + 1 → Fq h' (φ__law_flat m) := fun h' e => flat_eq h' m (by omega)
    have x1 : P.Ext M (M ++ [DO.lst []]) := .app
    have hd1 : lsOf (M ++ [DO.lst []]) d = some (ks.map dv) := ls_ext (P := fun i => i < N) (fun i o _ q => x1 i o q) hd hdN
    obtain ⟨chk, e3, e4⟩ := src_at hd1
    have hp : (M ++ [DO.lst []])[M.length]? = some (.lst (([] : List Nd).map dv)) := P.app_at
    obtain ⟨M', acc', p', y2, e, f, q, m', o, c, z⟩ := flat_loop ih (chk := chk) (x0 := some d) (N := N) (L := M.length) hN ks (M ++ [.lst []]) [] M.length none (Nat.le_refl _) hp (fun _ h => nomatch h) (fun k hk' => ⟨(hk k hk').1.all x1, (hk k hk').2⟩) (by simpa using hs) hl (fun M' f => e4 M' (ls_ext (P := fun i => i < N) (fun i o hi q => f i o (by omega) q) hd1 hdN))
    refine ⟨acc', M', p', ?_, fun i o q => f i o (P.lt_of q) (x1 i o q), q, m', o, by simpa using c, by simpa using z⟩
    rw [φ__law_flat]
    refine run_def rfl ?_
    unfold ψ__law_flat
    simp only [LD.q_RaiseF, LD.raiK_1, LD.raiK_2, LD.raiK_3, LD.q_Chain, LD.chC_t, LD.chC_f, LD.q_tCh, LD.blC_t, LD.blC_f, LD.q_Aug, LD.augR_r, LD.augF_c, LD.augV_i, LD.augS_i, LD.augT_i, LD.q_Pop, LD.v_pop, LD.popK_s, LD.q_Range3, LD.q_iRev, LD.revR_t, LD.revR_l, LD.q_DicF, LD.P.q_Slice, LD.P.q_oSome, LD.P.q_oNone, LD.P.soK_i, LD.P.rix_s, LD.P.rix_fs, LD.lkG_s, LD.leG_s, LD.q_SLock, LD.q_ELock, LD.lkS_r, LD.lkE_r, LD.lockM_d, LD.unlM_f, LD.unlS_n, LD.unlS_r, LD.unlE_o, LD.nxK_s, LD.rtK_s, LD.okU_s, LD.q_iDic, LD.fdR_r, LD.fdK_f, LD.dcmK_l, LD.q_Dcm, LD.finDK_t, LD.finDK_f, LD.q_LItems, LD.itmR_r, LD.itmK_d, LD.rixK_f, LD.v_lenO, LD.v_eqQi, LD.v_neQi, LD.v_mulGi, LD.q_Ins, LD.q_App, LD.okS_t, LD.v_isLst, LD.lstK_s, LD.v_app, LD.q_Rev, LD.lsK_s, LD.q_Get, LD.getKK_s, LD.v_lsL, LD.v_keyI, LD.v_keyS, Option.isSome_some, Option.isSome_none, Option.getD_some, Option.getD_none, LD.v_eqs, LD.v_nes, LD.v_isiBb, LD.q_C, LD.q_Var, LD.q_Bin, LD.q_Un, LD.q_tOf, LD.q_tCmp, LD.q_tAnd, LD.q_tOr, LD.q_tNot, LD.q_And, LD.q_Or, LD.q_Not, LD.q_If, LD.q_Nil, LD.q_Cons, LD.q_Tup, LD.q_Lst, LD.q_LstM, LD.q_Call, LD.q_Meth, LD.q_Attr, LD.q_Blt, LD.q_Comp, LD.q_iOf, LD.srcK_s, LD.v_truB, LD.v_truL, LD.v_truN, LD.v_srcL, LD.v_neg, LD.q_iRange, LD.q_Next, LD.q_Seq, LD.q_Expr, LD.q_Ret, LD.q_RetN, LD.q_SIf, LD.q_Bk, LD.q_Ct, LD.q_Asg, LD.q_Nm, LD.q_Sub, LD.q_Del, LD.q_Fld, LD.q_Dic, LD.q_For, LD.wipeD, Bool.not_true, Bool.not_false, LD.ifT, LD.le0, LD.le1, LD.le2, LD.le3, LD.le4, LD.le5, LD.le6, LD.cmpK_l, LD.nn_n, LD.nn_i, LD.nn_t, LD.nn_l, LD.nn_r, LD.nn_b, LD.nn_s, LD.nonK_n, LD.okK_o, LD.bind_k, LD.bind_b, LD.bind_e, LD.bindS_k, LD.bindS_e, LD.ofO_s, LD.getV_s, LD.truK_s, LD.blK_b, LD.refK_r, LD.insK_i, LD.lookK_s, LD.lookK_n, LD.refS_r, LD.insS_i, LD.lookS_s, LD.seq_n, LD.seq_r, LD.seq_b, LD.seq_c, LD.seq_e, LD.storeK_s, LD.memK_s, LD.endF_n, LD.endF_r, LD.endF_e, LD.pick_t, LD.pick_f, LD.finL_f, LD.finL_t, LD.v_add, LD.v_sub, LD.v_mulR, LD.v_fdiv, LD.v_mod, LD.v_int, LD.v_lt, LD.v_le, LD.v_gt, LD.v_ge, LD.v_eq, LD.v_ne, LD.v_len, LD.v_tix, LD.v_lix, LD.v_rix, LD.rixK_l, LD.rixK_d, LD.v_isN, LD.v_isnN, LD.v_isNone, LD.v_isNoneN, LD.startD, List.length_cons, List.length_nil, List.map_cons, List.map_nil, List.cons_append, List.nil_append, List.append_nil, List.getElem?_cons_zero, List.getElem?_cons_succ, List.set_cons_zero, List.set_cons_succ, List.replicate_succ, List.replicate_zero, Nat.reduceAdd, Nat.reduceSub, Nat.reduceBEq, Int.reduceLT, Int.reduceNeg, Int.reduceLE, Nat.reduceLeDiff, Nat.reduceLT, List.lookup_cons, List.lookup_nil, beq_self_eq_true, Option.map_some, Option.map_none, e3, e]
end K68
namespace K68
open PySem PySem.Spec PyProof.Rows L2 LD
open P (Kp)
/-! ### repr of a tree -/
def pwN : D → PyData
  | .int i => .int i
  | _ => .none
def pw : Nat → Nd → PyData
  | 0, _ => .none
  | _ + 1, .txt x => .tuple [.str "text", .str x]
  | h + 1, .el t _ ps _ ks => .tuple [.str "element", .str t, .list (ps.map fun p => .tuple [.str p.1, .str p.2]), .list (ks.map (pw h))]
  | h + 1, .aw n _ ks => .tuple [.str "await", pwN n, .list (ks.map (pw h))]
theorem pyR_list {n : Nat} {M : Mem} {d : D} {xs : List D} (h : lsOf M d = some xs) : pyR (n + 1) M d = (mapO (pyR n M) xs).map .list := by
  rcases lsOf_is h with rfl | ⟨r, rfl, q⟩
  · rfl
  · have h1 : dcOf M (.ref r) = none := by simp only [dcOf, q]
    show (match dcOf M (.ref r) with | some kvs => _ | none => match lsOf M (.ref r) with | some xs => _ | none => none) = _
    rw [h1, h]
theorem pyR_num {n : Nat} {M : Mem} {d : D} (h : numOk d) : pyR (n + 1) M d = some (pwN d) := by
  rcases h with rfl | ⟨i, rfl, _⟩ <;> rfl
theorem pyR_eq {b : Nat} : ∀ (h n : Nat) (t : Nd) (M : Mem), 2 * h + 2 ≤ n → Ok b M h t → pyR n M (dv t) = some (pw h t)
  | 0, _, _, _, _, o => o.elim
  | h + 1, 0, _, _, hn, _ => by omega
  | h + 1, 1, _, _, hn, _ => by omega
  | h + 1, 2, _, _, hn, _ => by omega
  | h + 1, 3, _, _, hn, _ => by omega
  | h + 1, n + 4, t, M, hn, o => by
    cases t with
    | txt x => rfl
    | aw m d ks =>
      have e1 : pyR (n + 3) M m = some (pwN m) := pyR_num o.1.1
      have e2 : pyR (n + 3) M d = some (.list (ks.map (pw h))) := by
        rw [pyR_list o.1.2, mapO_map (g := pw h) fun k hk => pyR_eq h (n + 2) k M (by omega) (o.2 k hk)] <;> rfl
      have e3 : mapO (pyR (n + 3) M) [.str "await", m, d] = some [.str "await", pwN m, .list (ks.map (pw h))] := by
        simp only [mapO, e1, e2]
        rfl
      show (mapO (pyR (n + 3) M) [.str "await", m, d]).map PyData.tuple = _
      rw [e3] <;> rfl
    | el t a ps d ks =>
      have e1 : pyR (n + 3) M a = some (.list (ps.map fun p => .tuple [.str p.1, .str p.2])) := by
        rw [pyR_list o.2.1, mapO_map (g := fun p : Str × Str => PyData.tuple [.str p.1, .str p.2]) fun p _ => rfl] <;> rfl
      have e2 : pyR (n + 3) M d = some (.list (ks.map (pw h))) := by
        rw [pyR_list o.2.2.2.2.1, mapO_map (g := pw h) fun k hk => pyR_eq h (n + 2) k M (by omega) (o.2.2.2.2.2 k hk)] <;> rfl
      have e3 : mapO (pyR (n + 3) M) [.str "element", .str t, a, d] = some [.str "element", .str t, .list (ps.map fun p => .tuple [.str p.1, .str p.2]), .list (ks.map (pw h))] := by
        simp only [mapO, e1, e2]
        rfl
      show (mapO (pyR (n + 3) M) [.str "element", .str t, a, d]).map PyData.tuple = _
      rw [e3] <;> rfl
structure Fine (p : PyData) (w d : Nat) : Prop where
  sh : p.showable = true
  lv : p.leavesShort 8 = true
  wt : p.weight ≤ w
  dp : p.depth ≤ d
theorem Fine.le {p : PyData} {w w' d d' : Nat} (h : Fine p w d) (h1 : w ≤ w') (h2 : d ≤ d') : Fine p w' d' := ⟨h.sh, h.lv, Nat.le_trans h.wt h1, Nat.le_trans h.dp h2⟩
structure FineA (ps : List PyData) (w d : Nat) : Prop where
  sh : PyData.showableAll ps = true
  lv : PyData.leavesShortAll 8 ps = true
  wt : PyData.weightAll ps ≤ w
  dp : PyData.depthAll ps ≤ d
theorem fA_nil {d : Nat} : FineA [] 0 d := ⟨rfl, rfl, Nat.le_refl _, Nat.zero_le _⟩
theorem fA_cons {p : PyData} {ps : List PyData} {w w' d : Nat} (h : Fine p w d) (h' : FineA ps w' d) : FineA (p :: ps) (w + 1 + w') d := by
  obtain ⟨a, b, c, e⟩ := h
  obtain ⟨a', b', c', e'⟩ := h'
  refine ⟨?_, ?_, ?_, ?_⟩
  · rw [PyData.showableAll, a, a'] <;> rfl
  · rw [PyData.leavesShortAll, b, b'] <;> rfl
  · rw [PyData.weightAll]; omega
  · rw [PyData.depthAll]; omega
theorem FineA.le {p : List PyData} {w w' d d' : Nat} (h : FineA p w d) (h1 : w ≤ w') (h2 : d ≤ d') : FineA p w' d' := ⟨h.sh, h.lv, Nat.le_trans h.wt h1, Nat.le_trans h.dp h2⟩
theorem FineA.list {ps : List PyData} {w d : Nat} (h : FineA ps w d) : Fine (.list ps) w (d + 1) := ⟨by rw [PyData.showable]; exact h.sh, by rw [PyData.leavesShort]; exact h.lv, by rw [PyData.weight]; exact h.wt, by rw [PyData.depth]; have := h.dp; omega⟩
theorem FineA.tup {ps : List PyData} {w d : Nat} (h : FineA ps w d) : Fine (.tuple ps) w (d + 1) := ⟨by rw [PyData.showable]; exact h.sh, by rw [PyData.leavesShort]; exact h.lv, by rw [PyData.weight]; exact h.wt, by rw [PyData.depth]; have := h.dp; omega⟩
theorem fine_str {s : Str} {d : Nat} (h : s.length ≤ 7) (h2 : PyData.strOk s = true) : Fine (.str s) 7 d := by
  refine ⟨rfl, ?_, ?_, ?_⟩
  · rw [PyData.leavesShort, List.all_eq_true]
    intro c hc
    unfold PyData.strOk at h2
    rw [Array.all_eq_true_iff_forall_mem] at h2
    have := h2 c (Array.mem_toList_iff.mp hc)
    simp only [decide_eq_true_eq] at this ⊢
    exact Nat.lt_trans this (by decide)
  · rw [PyData.weight]
    have : s.cps.size = s.length := rfl
    omega
  · simp [PyData.depth]
theorem fine_int {i : Int} {d : Nat} (h : i.natAbs ≤ 4000) : Fine (.int i) 48 d := by
  have hl : i.natAbs.log2 < 13 := by
    by_cases z : i.natAbs = 0
    · rw [z]; decide
    · have h2 : i.natAbs < 2 ^ 12 := Nat.lt_of_le_of_lt h (by decide)
      have := (Nat.log2_lt z).mpr h2
      omega
  refine ⟨?_, ?_, ?_, ?_⟩
  · rw [PyData.showable, decide_eq_true_eq]; omega
  · rw [PyData.leavesShort, decide_eq_true_eq]
    have e := int_text_length_le10 (k := 4) (a := i) (by decide) (Nat.lt_of_le_of_lt h (by decide))
    show (Str.ofString (toString i)).length ≤ 8
    rw [PySem.ofString_length]
    omega
  · rw [PyData.weight]
    split <;> omega
  · simp [PyData.depth]
theorem fine_num {n : D} {d : Nat} (h : numOk n) : Fine (pwN n) 48 d := by
  rcases h with rfl | ⟨i, rfl, h1, h2⟩
  · exact ⟨rfl, rfl, by simp [pwN, PyData.weight], by simp [pwN, PyData.depth]⟩
  · exact fine_int (by omega)
theorem fine_ps {ps : List (Str × Str)} (h : ∀ p ∈ ps, sOk 6 p.1 ∧ sOk 6 p.2) : FineA (ps.map fun p => .tuple [.str p.1, .str p.2]) (17 * ps.length) 1 := by
  induction ps with
  | nil => exact fA_nil
  | cons p ps ih =>
    have h1 := h p List.mem_cons_self
    have h2 : Fine (.tuple [.str p.1, .str p.2]) 16 1 := (fA_cons (fine_str (by have := h1.1.1; omega) h1.1.2) (fA_cons (fine_str (by have := h1.2.1; omega) h1.2.2) (fA_nil (d := 0)))).tup
    rw [List.map_cons, List.length_cons]
    exact (fA_cons h2 (ih fun q hq => h q (List.mem_cons_of_mem _ hq))).le (by omega) (Nat.le_refl _)
theorem fine_nds {h d : Nat} : ∀ {ks : List Nd}, (∀ k ∈ ks, 1 ≤ cnt h k ∧ Fine (pw h k) (100 * cnt h k - 1) d) → FineA (ks.map (pw h)) (100 * (ks.map (cnt h)).sum) d
  | [], _ => fA_nil
  | k :: ks, hk => by
    obtain ⟨h1, h2⟩ := hk k List.mem_cons_self
    rw [List.map_cons, List.map_cons, List.sum_cons]
    exact (fA_cons h2 (fine_nds fun q hq => hk q (List.mem_cons_of_mem _ hq))).le (by omega) (Nat.le_refl _)
theorem fine_pw {b : Nat} {M : Mem} (hb : b ≤ 6) : ∀ (h : Nat) (t : Nd), Ok b M h t → 1 ≤ cnt h t ∧ Fine (pw h t) (100 * cnt h t - 1) (2 * h + 1)
  | 0, _, o => o.elim
  | h + 1, .aw n d ks, o => by
    have ih := fine_nds (h := h) (d := 2 * h + 1) (ks := ks) fun k hk => fine_pw hb h k (o.2 k hk)
    have e : cnt (h + 1) (.aw n d ks) = 1 + (ks.map (cnt h)).sum := rfl
    rw [e]
    refine ⟨by omega, ?_⟩
    have := (fA_cons (fine_str (s := "await") (d := 2 * h + 2) (by decide) (by decide +kernel)) (fA_cons (fine_num o.1.1) (fA_cons ih.list fA_nil))).tup
    exact this.le (by omega) (by omega)
  | h + 1, .txt x, o => by
    refine ⟨Nat.le_refl _, ?_⟩
    have := (fA_cons (fine_str (s := "text") (by decide) (by decide +kernel)) (fA_cons (fine_str (by have := o.1; omega) o.2) (fA_nil (d := 0)))).tup
    exact this.le (by show _ ≤ 100 * 1 - 1; omega) (by omega)
  | h + 1, .el t a ps d ks, o => by
    have ih := fine_nds (h := h) (d := 2 * h + 1) (ks := ks) fun k hk => fine_pw hb h k (o.2.2.2.2.2 k hk)
    have e : cnt (h + 1) (.el t a ps d ks) = 1 + (ks.map (cnt h)).sum := rfl
    rw [e]
    refine ⟨by omega, ?_⟩
    have hp := (fine_ps o.2.2.2.1).list
    have := (fA_cons (fine_str (s := "element") (d := 2 * h + 2) (by decide) (by decide +kernel)) (fA_cons (fine_str (s := t) (by have := o.1.1; omega) o.1.2) (fA_cons (hp.le (Nat.le_refl _) (by omega)) (fA_cons ih.list fA_nil)))).tup
    refine this.le ?_ (by omega)
    have := o.2.2.1
    omega
theorem repr_eq {b : Nat} {M : Mem} {d : D} {as : List Nd} (hb : b ≤ 6) (hd : lsOf M d = some (as.map dv)) (oa : ∀ a ∈ as, Ok b M 7 a) (hs : (as.map (cnt 7)).sum ≤ 12000) : reprC [d] M = some (.str (PyData.list (as.map (pw 7))).shown, M) := by
  have fa := fine_nds (h := 7) (d := 15) (ks := as) fun k hk => fine_pw hb 7 k (oa k hk)
  have f := fa.list
  have e0 : pyR 40 M d = some (.list (as.map (pw 7))) := by
    rw [pyR_list hd, mapO_map (g := pw 7) fun k hk => pyR_eq 7 39 k M (by decide) (oa k hk)] <;> rfl
  generalize PyData.list (as.map (pw 7)) = q at f e0 ⊢
  have hs' := PyData.shown_le 8 (by decide) q f.lv
  have hL : q.shown.length ≤ LINE := by
    have : LINE = 16777216 := rfl
    have h1 := f.wt
    rw [this]
    omega
  simp only [reprC, e0]
  rw [if_pos]
  rw [f.sh, decide_eq_true (show q.depth ≤ 60 by have := f.dp; omega), decide_eq_true hL] <;> rfl
theorem flat_cnt {h : Nat} {ks : List Nd} (hk : ∀ k ∈ ks, (pl h k).length ≤ 160 * cnt h k) : (ks.flatMap (pl h)).length ≤ 160 * (ks.map (cnt h)).sum := by
  induction ks with
  | nil => exact Nat.zero_le _
  | cons k ks ih =>
    have h1 := hk k List.mem_cons_self
    have h2 := ih fun u hu => hk u (List.mem_cons_of_mem _ hu)
    rw [List.flatMap_cons, List.length_append, List.map_cons, List.sum_cons]
    omega
theorem pl_le {M : Mem} : ∀ (h : Nat) (t : Nd), Ok 5 M h t → (pl h t).length ≤ 160 * cnt h t
  | 0, _, o => o.elim
  | h + 1, .txt x, o => by
    have h1 := es_le (L x)
    have h2 := o.1
    rw [L_len] at h1
    show (es (L x)).length ≤ 160 * 1
    omega
  | h + 1, .aw n d ks, o => by
    have h1 := flat_cnt (h := h) (ks := ks) fun k hk => pl_le h k (o.2 k hk)
    show (ks.flatMap (pl h)).length ≤ 160 * (1 + (ks.map (cnt h)).sum)
    omega
  | h + 1, .el t a ps d ks, o => by
    have h1 := flat_cnt (h := h) (ks := ks) fun k hk => pl_le h k (o.2.2.2.2.2 k hk)
    have h2 := flat_le (f := atL) (B := 46) (l := ps) fun p hp => atL_le (o.2.2.2.1 p hp)
    have h3 := o.1.1
    have h4 := o.2.2.1
    have e : (pl (h + 1) (.el t a ps d ks)).length = (1 + t.length + (ps.flatMap atL).length + 1) + (ks.flatMap (pl h)).length + 2 + t.length + 1 := by
      show (L "<" ++ L t ++ ps.flatMap atL ++ L ">" ++ ks.flatMap (pl h) ++ L "</" ++ L t ++ L ">").length = _
      simp only [List.length_append, L_len]
      rfl
    rw [e]
    show _ ≤ 160 * (1 + (ks.map (cnt h)).sum)
    omega
theorem Ok.mono {b c : Nat} {M : Mem} (hbc : b ≤ c) : ∀ {h : Nat} {t : Nd}, Ok b M h t → Ok c M h t
  | 0, _, o => o.elim
  | h + 1, .txt x, o => ⟨Nat.le_trans o.1 hbc, o.2⟩
  | h + 1, .aw n d ks, o => ⟨o.1, fun k hk => Ok.mono hbc (o.2 k hk)⟩
  | h + 1, .el t a ps d ks, o => ⟨o.1, o.2.1, o.2.2.1, o.2.2.2.1, o.2.2.2.2.1, fun k hk => Ok.mono hbc (o.2.2.2.2.2 k hk)⟩
end K68
namespace K68
open PySem PySem.Spec PyProof.Rows L2 LD
open P (Kp)
/-! ### the law -/
theorem ne_str {M : Mem} (x : Str) : boD (notB eqD) (.str x) (.str x) M = some (.bl false, M) := by
  have e : eqD M (.str x) (.str x) = some true := by
    show some (x == x) = _
    rw [beq_self_eq_true]
  unfold boD notB
  rw [e] <;> rfl
theorem turn {M : Mem} (r0 : Rw M 0) (j : Int) (h0 : 0 ≤ j) (h1 : j ≤ 2) (x0 x3 x4 x5 : Option D) : ∃ (y3 y4 y5 : Option D) (M' : Mem), β_law_2 [x0, some (.ref 0), some (.int j), x3, x4, x5] M = .nx [x0, some (.ref 0), some (.int j), y3, y4, y5] M' ∧ Rw M' 0 := by
  have hm : mulD (.int 19) (.int j) M = some (.int (19 * j), M) := LD.v_mulL (by decide) (by decide)
  obtain ⟨ks, M1, p, e2, x1, hp, ok7, s1⟩ := drawn_eq (a := 19 * j) (by omega) (by omega) r0
  have e3 := repr_eq (b := 5) (by decide) (v_lsR hp) ok7 (by omega)
  have hlen : (ks.flatMap (pl 7)).length ≤ 1000000 := by
    have := flat_cnt (h := 7) (ks := ks) fun k hk => pl_le 7 k (ok7 k hk)
    omega
  have hcn : Cn 7 ks := by unfold Cn; omega
  obtain ⟨y, M2, e4, x2, hy⟩ := plain_eq (b := 5) 7 10 (by decide) (.ref p) ks M1 (v_lsR hp) ok7 hlen hcn
  have hp2 := x2 _ _ hp
  have ok2 : ∀ k ∈ ks, Ok 5 M2 7 k := fun k hk => (ok7 k hk).all x2
  obtain ⟨js, M3, q, e5, x3', hq, q3, o3, ap, c3, z3⟩ := joined_eq (flat_eq 7 10 (by decide)) (N := M2.length) (Nat.le_refl _) (v_lsR hp2) (fun r e => by cases e; exact P.lt_of hp2) (fun k hk => ⟨(ok2 k hk).mono (by decide), (ok2 k hk).lt⟩) (by omega) hlen
  obtain ⟨y', M4, e6, x4', hy'⟩ := write_eq (b := B) 7 12 (by decide) (.ref q) js M3 (v_lsR q3) (fun k hk => ⟨(o3 k hk).1, (o3 k hk).2.1⟩) ap (by rw [z3]; exact hlen) (by unfold Cn; omega)
  obtain rfl : y' = y := str_ext (by rw [hy, hy', z3])
  have hp4 := x4' _ _ (x3' _ _ hp2)
  have ok4 : ∀ k ∈ ks, Ok 5 M4 7 k := fun k hk => ((ok2 k hk).all x3').all x4'
  have e7 := repr_eq (b := 5) (by decide) (v_lsR hp4) ok4 (by omega)
  obtain ⟨y2, M5, e8, x5', hy2⟩ := plain_eq (b := 5) 7 10 (by decide) (.ref p) ks M4 (v_lsR hp4) ok4 hlen hcn
  obtain rfl : y2 = y' := str_ext (by rw [hy, hy2])
  have n1 := ne_str (M := M4) y2
  have n2 := ne_str (M := M4) (PyData.list (ks.map (pw 7))).shown
  have n3 := ne_str (M := M5) y2
  have hs : isiC [.str y2, .ty "str"] M2 = some (.bl true, M2) := by simp only [isiC, tyD]; rfl
  refine ⟨some (.ref p), some (.str (PyData.list (ks.map (pw 7))).shown), some (.str y2), M5, ?_, r0.elim fun rs h => ⟨rs, x5' _ _ (x4' _ _ (x3' _ _ (x2 _ _ (x1 _ _ h.1)))), h.2⟩⟩
  unfold β_law_2
  simp only [LD.q_RaiseF, LD.raiK_1, LD.raiK_2, LD.raiK_3, LD.q_Chain, LD.chC_t, LD.chC_f, LD.q_tCh, LD.blC_t, LD.blC_f, LD.q_Aug, LD.augR_r, LD.augF_c, LD.augV_i, LD.augS_i, LD.augT_i, LD.q_Pop, LD.v_pop, LD.popK_s, LD.q_Range3, LD.q_iRev, LD.revR_t, LD.revR_l, LD.q_DicF, LD.P.q_Slice, LD.P.q_oSome, LD.P.q_oNone, LD.P.soK_i, LD.P.rix_s, LD.P.rix_fs, LD.lkG_s, LD.leG_s, LD.q_SLock, LD.q_ELock, LD.lkS_r, LD.lkE_r, LD.lockM_d, LD.unlM_f, LD.unlS_n, LD.unlS_r, LD.unlE_o, LD.nxK_s, LD.rtK_s, LD.okU_s, LD.q_iDic, LD.fdR_r, LD.fdK_f, LD.dcmK_l, LD.q_Dcm, LD.finDK_t, LD.finDK_f, LD.q_LItems, LD.itmR_r, LD.itmK_d, LD.rixK_f, LD.v_lenO, LD.v_eqQi, LD.v_neQi, LD.v_mulGi, LD.q_Ins, LD.q_App, LD.okS_t, LD.v_isLst, LD.lstK_s, LD.v_app, LD.q_Rev, LD.lsK_s, LD.q_Get, LD.getKK_s, LD.v_lsL, LD.v_keyI, LD.v_keyS, Option.isSome_some, Option.isSome_none, Option.getD_some, Option.getD_none, LD.v_eqs, LD.v_nes, LD.v_isiBb, LD.q_C, LD.q_Var, LD.q_Bin, LD.q_Un, LD.q_tOf, LD.q_tCmp, LD.q_tAnd, LD.q_tOr, LD.q_tNot, LD.q_And, LD.q_Or, LD.q_Not, LD.q_If, LD.q_Nil, LD.q_Cons, LD.q_Tup, LD.q_Lst, LD.q_LstM, LD.q_Call, LD.q_Meth, LD.q_Attr, LD.q_Blt, LD.q_Comp, LD.q_iOf, LD.srcK_s, LD.v_truB, LD.v_truL, LD.v_truN, LD.v_srcL, LD.v_neg, LD.q_iRange, LD.q_Next, LD.q_Seq, LD.q_Expr, LD.q_Ret, LD.q_RetN, LD.q_SIf, LD.q_Bk, LD.q_Ct, LD.q_Asg, LD.q_Nm, LD.q_Sub, LD.q_Del, LD.q_Fld, LD.q_Dic, LD.q_For, LD.wipeD, Bool.not_true, Bool.not_false, LD.ifT, LD.le0, LD.le1, LD.le2, LD.le3, LD.le4, LD.le5, LD.le6, LD.cmpK_l, LD.nn_n, LD.nn_i, LD.nn_t, LD.nn_l, LD.nn_r, LD.nn_b, LD.nn_s, LD.nonK_n, LD.okK_o, LD.bind_k, LD.bind_b, LD.bind_e, LD.bindS_k, LD.bindS_e, LD.ofO_s, LD.getV_s, LD.truK_s, LD.blK_b, LD.refK_r, LD.insK_i, LD.lookK_s, LD.lookK_n, LD.refS_r, LD.insS_i, LD.lookS_s, LD.seq_n, LD.seq_r, LD.seq_b, LD.seq_c, LD.seq_e, LD.storeK_s, LD.memK_s, LD.endF_n, LD.endF_r, LD.endF_e, LD.pick_t, LD.pick_f, LD.finL_f, LD.finL_t, LD.v_add, LD.v_sub, LD.v_mulR, LD.v_fdiv, LD.v_mod, LD.v_int, LD.v_lt, LD.v_le, LD.v_gt, LD.v_ge, LD.v_eq, LD.v_ne, LD.v_len, LD.v_tix, LD.v_lix, LD.v_rix, LD.rixK_l, LD.rixK_d, LD.v_isN, LD.v_isnN, LD.v_isNone, LD.v_isNoneN, LD.startD, List.length_cons, List.length_nil, List.map_cons, List.map_nil, List.cons_append, List.nil_append, List.append_nil, List.getElem?_cons_zero, List.getElem?_cons_succ, List.set_cons_zero, List.set_cons_succ, List.replicate_succ, List.replicate_zero, Nat.reduceAdd, Nat.reduceSub, Nat.reduceBEq, Int.reduceLT, Int.reduceNeg, Int.reduceLE, Nat.reduceLeDiff, Nat.reduceLT, List.lookup_cons, List.lookup_nil, beq_self_eq_true, Option.map_some, Option.map_none, hm, e2, e3, e4, hs, e5, e6, n1, e7, n2, e8, n3]
theorem turns : ∀ (js : List Nat) (M : Mem) (x0 x2 x3 x4 x5 : Option D), Rw M 0 → (∀ j ∈ js, j ≤ 2) → ∃ (y2 y3 y4 y5 : Option D) (M' : Mem), forV (fun _ => true) (gNm 2) β_law_2 (js.map fun k : Nat => D.int (k : Int)) [x0, some (.ref 0), x2, x3, x4, x5] M = .nx [x0, some (.ref 0), y2, y3, y4, y5] M'
  | [], M, x0, x2, x3, x4, x5, _, _ => ⟨x2, x3, x4, x5, M, forV_n rfl⟩
  | j :: js, M, x0, x2, x3, x4, x5, r0, hj => by
    obtain ⟨y3, y4, y5, M1, e1, r1⟩ := turn r0 (j : Int) (by omega) (by have := hj j List.mem_cons_self; omega) x0 x3 x4 x5
    obtain ⟨z2, z3, z4, z5, M2, e2⟩ := turns js M1 x0 (some (.int (j : Int))) y3 y4 y5 r1 fun i hi => hj i (List.mem_cons_of_mem _ hi)
    refine ⟨z2, z3, z4, z5, M2, ?_⟩
    rw [List.map_cons]
    exact (forV_c (s1 := [x0, some (.ref 0), some (.int (j : Int)), x3, x4, x5]) rfl rfl e1).trans e2
theorem law_ok : LawD 63 φ_law := fun ns hl => by
  have e1 := rows_eq ns 60 (by decide)
  have r0 : Rw [.lst ((rowL ns 60).map .int)] 0 := ⟨rowL ns 60, rfl, by unfold rowL; rw [List.length_map, List.length_range]⟩
  have e1 : φ__law_rows [intsD ns, .int 60] [] = .ok (.ref 0) [.lst ((rowL ns 60).map .int)] := e1
  obtain ⟨y2, y3, y4, y5, M', e⟩ := turns (List.range 3) [.lst ((rowL ns 60).map .int)] (some (intsD ns)) none none none none r0 fun j hj => by have := List.mem_range.mp hj; omega
  have hrg : ∀ M : Mem, rngK [.int 3] M = .ok ⟨(List.range 3).map fun k : Nat => D.int (k : Int), fun _ => true⟩ M := fun M => P.rng1 (j := 3) (by decide) M
  refine ⟨M', ?_⟩
  unfold φ_law
  refine run_def rfl ?_
  unfold ψ_law
  simp only [LD.q_RaiseF, LD.raiK_1, LD.raiK_2, LD.raiK_3, LD.q_Chain, LD.chC_t, LD.chC_f, LD.q_tCh, LD.blC_t, LD.blC_f, LD.q_Aug, LD.augR_r, LD.augF_c, LD.augV_i, LD.augS_i, LD.augT_i, LD.q_Pop, LD.v_pop, LD.popK_s, LD.q_Range3, LD.q_iRev, LD.revR_t, LD.revR_l, LD.q_DicF, LD.P.q_Slice, LD.P.q_oSome, LD.P.q_oNone, LD.P.soK_i, LD.P.rix_s, LD.P.rix_fs, LD.lkG_s, LD.leG_s, LD.q_SLock, LD.q_ELock, LD.lkS_r, LD.lkE_r, LD.lockM_d, LD.unlM_f, LD.unlS_n, LD.unlS_r, LD.unlE_o, LD.nxK_s, LD.rtK_s, LD.okU_s, LD.q_iDic, LD.fdR_r, LD.fdK_f, LD.dcmK_l, LD.q_Dcm, LD.finDK_t, LD.finDK_f, LD.q_LItems, LD.itmR_r, LD.itmK_d, LD.rixK_f, LD.v_lenO, LD.v_eqQi, LD.v_neQi, LD.v_mulGi, LD.q_Ins, LD.q_App, LD.okS_t, LD.v_isLst, LD.lstK_s, LD.v_app, LD.q_Rev, LD.lsK_s, LD.q_Get, LD.getKK_s, LD.v_lsL, LD.v_keyI, LD.v_keyS, Option.isSome_some, Option.isSome_none, Option.getD_some, Option.getD_none, LD.v_eqs, LD.v_nes, LD.v_isiBb, LD.q_C, LD.q_Var, LD.q_Bin, LD.q_Un, LD.q_tOf, LD.q_tCmp, LD.q_tAnd, LD.q_tOr, LD.q_tNot, LD.q_And, LD.q_Or, LD.q_Not, LD.q_If, LD.q_Nil, LD.q_Cons, LD.q_Tup, LD.q_Lst, LD.q_LstM, LD.q_Call, LD.q_Meth, LD.q_Attr, LD.q_Blt, LD.q_Comp, LD.q_iOf, LD.srcK_s, LD.v_truB, LD.v_truL, LD.v_truN, LD.v_srcL, LD.v_neg, LD.q_iRange, LD.q_Next, LD.q_Seq, LD.q_Expr, LD.q_Ret, LD.q_RetN, LD.q_SIf, LD.q_Bk, LD.q_Ct, LD.q_Asg, LD.q_Nm, LD.q_Sub, LD.q_Del, LD.q_Fld, LD.q_Dic, LD.q_For, LD.wipeD, Bool.not_true, Bool.not_false, LD.ifT, LD.le0, LD.le1, LD.le2, LD.le3, LD.le4, LD.le5, LD.le6, LD.cmpK_l, LD.nn_n, LD.nn_i, LD.nn_t, LD.nn_l, LD.nn_r, LD.nn_b, LD.nn_s, LD.nonK_n, LD.okK_o, LD.bind_k, LD.bind_b, LD.bind_e, LD.bindS_k, LD.bindS_e, LD.ofO_s, LD.getV_s, LD.truK_s, LD.blK_b, LD.refK_r, LD.insK_i, LD.lookK_s, LD.lookK_n, LD.refS_r, LD.insS_i, LD.lookS_s, LD.seq_n, LD.seq_r, LD.seq_b, LD.seq_c, LD.seq_e, LD.storeK_s, LD.memK_s, LD.endF_n, LD.endF_r, LD.endF_e, LD.pick_t, LD.pick_f, LD.finL_f, LD.finL_t, LD.v_add, LD.v_sub, LD.v_mulR, LD.v_fdiv, LD.v_mod, LD.v_int, LD.v_lt, LD.v_le, LD.v_gt, LD.v_ge, LD.v_eq, LD.v_ne, LD.v_len, LD.v_tix, LD.v_lix, LD.v_rix, LD.rixK_l, LD.rixK_d, LD.v_isN, LD.v_isnN, LD.v_isNone, LD.v_isNoneN, LD.startD, List.length_cons, List.length_nil, List.map_cons, List.map_nil, List.cons_append, List.nil_append, List.append_nil, List.getElem?_cons_zero, List.getElem?_cons_succ, List.set_cons_zero, List.set_cons_succ, List.replicate_succ, List.replicate_zero, Nat.reduceAdd, Nat.reduceSub, Nat.reduceBEq, Int.reduceLT, Int.reduceNeg, Int.reduceLE, Nat.reduceLeDiff, Nat.reduceLT, List.lookup_cons, List.lookup_nil, beq_self_eq_true, Option.map_some, Option.map_none, e1, hrg, e]
end K68
namespace K68
open PySem PySem.Spec PyProof.Rows L2 LD
theorem all_mk {l : PySem.W.OpenLaw} {w : World} {K : PySem.W.Frag} {h : Heap} {mg : Str → Option Value} {fa : Addr} {y0 : Addr} {y1 : Addr} {y2 : Addr} {y3 : Addr} {y4 : Addr} {y5 : Addr} {y6 : Addr} {y7 : Addr} {y8 : Addr} {y9 : Addr} {y10 : Addr} {y11 : Addr} {y12 : Addr} {y13 : Value} {y14 : Option Addr} {y15 : Value} {y16 : Value} {y17 : Value} {y18 : Option Addr} {y19 : Value} {y20 : Value} {y21 : Array (Option Value)} {y22 : Value} {y23 : Option Addr} {y24 : Value} {y25 : Value} {y26 : Value} {y27 : Option Addr} {y28 : Value} {y29 : Value} {y30 : Array (Option Value)} {y31 : Value} {y32 : Option Addr} {y33 : Value} {y34 : Value} {y35 : Value} {y36 : Option Addr} {y37 : Value} {y38 : Value} {y39 : Array (Option Value)} {y40 : Value} {y41 : Option Addr} {y42 : Value} {y43 : Value} {y44 : Value} {y45 : Option Addr} {y46 : Value} {y47 : Value} {y48 : Array (Option Value)} {y49 : Value} {y50 : Option Addr} {y51 : Value} {y52 : Value} {y53 : Value} {y54 : Option Addr} {y55 : Value} {y56 : Value} {y57 : Array (Option Value)} {y58 : Value} {y59 : Option Addr} {y60 : Value} {y61 : Value} {y62 : Value} {y63 : Option Addr} {y64 : Value} {y65 : Value} {y66 : Array (Option Value)} {y67 : Value} {y68 : Option Addr} {y69 : Value} {y70 : Value} {y71 : Value} {y72 : Option Addr} {y73 : Value} {y74 : Value} {y75 : Array (Option Value)} {y76 : Value} {y77 : Option Addr} {y78 : Value} {y79 : Value} {y80 : Value} {y81 : Option Addr} {y82 : Value} {y83 : Value} {y84 : Array (Option Value)} {y85 : Value} {y86 : Option Addr} {y87 : Value} {y88 : Value} {y89 : Value} {y90 : Option Addr} {y91 : Value} {y92 : Value} {y93 : Array (Option Value)} {y94 : Value} {y95 : Option Addr} {y96 : Value} {y97 : Value} {y98 : Value} {y99 : Option Addr} {y100 : Value} {y101 : Value} {y102 : Array (Option Value)} {y103 : Value} {y104 : Option Addr} {y105 : Value} {y106 : Value} {y107 : Value} {y108 : Option Addr} {y109 : Value} {y110 : Value} {y111 : Array (Option Value)} {y112 : Value} {y113 : Option Addr} {y114 : Value} {y115 : Value} {y116 : Value} {y117 : Option Addr} {y118 : Value} {y119 : Value} {y120 : Array (Option Value)} {y121 : Value} {y122 : Option Addr} {y123 : Value} {y124 : Value} {y125 : Value} {y126 : Option Addr} {y127 : Value} {y128 : Value} {y129 : Array (Option Value)} (X : K.In h) (G : h.Ns mainGlobals mg) (hfa : mg "law" = some (.ref fa))
    (z0 : PySem.W.nsIn K mainGlobals "range" = some none)
    (z1 : PySem.W.nsIn K mainGlobals "write_text" = some (some (.ref y0)))
    (z2 : PySem.W.keepIn K (.ref y0) = true)
    (z3 : PySem.W.nsIn K mainGlobals "write_value" = some (some (.ref y1)))
    (z4 : PySem.W.keepIn K (.ref y1) = true)
    (z5 : PySem.W.nsIn K mainGlobals "write_start" = some (some (.ref y2)))
    (z6 : PySem.W.keepIn K (.ref y2) = true)
    (z7 : PySem.W.nsIn K mainGlobals "plain_text" = some (some (.ref y3)))
    (z8 : PySem.W.keepIn K (.ref y3) = true)
    (z9 : PySem.W.nsIn K mainGlobals "str" = some none)
    (z10 : PySem.W.nsIn K mainGlobals "isinstance" = some none)
    (z11 : PySem.W.nsIn K mainGlobals "write_tree" = some (some (.ref y4)))
    (z12 : PySem.W.keepIn K (.ref y4) = true)
    (z13 : PySem.W.nsIn K mainGlobals "_law_flat" = some (some (.ref y6)))
    (z14 : PySem.W.keepIn K (.ref y6) = true)
    (z15 : PySem.W.nsIn K mainGlobals "len" = some none)
    (z16 : PySem.W.nsIn K mainGlobals "_law_joined" = some (some (.ref y5)))
    (z17 : PySem.W.keepIn K (.ref y5) = true)
    (z18 : PySem.W.nsIn K mainGlobals "repr" = some none)
    (z19 : PySem.W.nsIn K mainGlobals "int" = some none)
    (z20 : PySem.W.nsIn K mainGlobals "_law_text" = some (some (.ref y7)))
    (z21 : PySem.W.keepIn K (.ref y7) = true)
    (z22 : PySem.W.nsIn K mainGlobals "_law_word" = some (some (.ref y8)))
    (z23 : PySem.W.keepIn K (.ref y8) = true)
    (z24 : PySem.W.nsIn K mainGlobals "_law_tree" = some (some (.ref y9)))
    (z25 : PySem.W.keepIn K (.ref y9) = true)
    (z26 : PySem.W.nsIn K mainGlobals "_law_drawn" = some (some (.ref y10)))
    (z27 : PySem.W.keepIn K (.ref y10) = true)
    (z28 : PySem.W.nsIn K mainGlobals "_law_rows" = some (some (.ref y11)))
    (z29 : PySem.W.keepIn K (.ref y11) = true)
    (z30 : PySem.W.nsIn K mainGlobals "law" = some (some (.ref y12)))
    (z31 : K.lookup y0 = some ⟨y13, y14, .func (PySem.W.fnOf "write_text" "write_text" (defArgs st_write_text) (defBody st_write_text) (defScope st_write_text) .none y15 y16 y17 y18 y19 y20), y21⟩)
    (z32 : PySem.W.codeIn K y19 "write_text" = true)
    (z33 : PySem.W.keepIn K (.ref y0) = true)
    (z34 : K.lookup y1 = some ⟨y22, y23, .func (PySem.W.fnOf "write_value" "write_value" (defArgs st_write_value) (defBody st_write_value) (defScope st_write_value) .none y24 y25 y26 y27 y28 y29), y30⟩)
    (z35 : PySem.W.codeIn K y28 "write_value" = true)
    (z36 : PySem.W.keepIn K (.ref y1) = true)
    (z37 : K.lookup y2 = some ⟨y31, y32, .func (PySem.W.fnOf "write_start" "write_start" (defArgs st_write_start) (defBody st_write_start) (defScope st_write_start) .none y33 y34 y35 y36 y37 y38), y39⟩)
    (z38 : PySem.W.codeIn K y37 "write_start" = true)
    (z39 : PySem.W.keepIn K (.ref y2) = true)
    (z40 : K.lookup y3 = some ⟨y40, y41, .func (PySem.W.fnOf "plain_text" "plain_text" (defArgs st_plain_text) (defBody st_plain_text) (defScope st_plain_text) .none y42 y43 y44 y45 y46 y47), y48⟩)
    (z41 : PySem.W.codeIn K y46 "plain_text" = true)
    (z42 : PySem.W.keepIn K (.ref y3) = true)
    (z43 : K.lookup y4 = some ⟨y49, y50, .func (PySem.W.fnOf "write_tree" "write_tree" (defArgs st_write_tree) (defBody st_write_tree) (defScope st_write_tree) .none y51 y52 y53 y54 y55 y56), y57⟩)
    (z44 : PySem.W.codeIn K y55 "write_tree" = true)
    (z45 : PySem.W.keepIn K (.ref y4) = true)
    (z46 : K.lookup y5 = some ⟨y58, y59, .func (PySem.W.fnOf "_law_joined" "_law_joined" (defArgs st__law_joined) (defBody st__law_joined) (defScope st__law_joined) .none y60 y61 y62 y63 y64 y65), y66⟩)
    (z47 : PySem.W.codeIn K y64 "_law_joined" = true)
    (z48 : PySem.W.keepIn K (.ref y5) = true)
    (z49 : K.lookup y6 = some ⟨y67, y68, .func (PySem.W.fnOf "_law_flat" "_law_flat" (defArgs st__law_flat) (defBody st__law_flat) (defScope st__law_flat) .none y69 y70 y71 y72 y73 y74), y75⟩)
    (z50 : PySem.W.codeIn K y73 "_law_flat" = true)
    (z51 : PySem.W.keepIn K (.ref y6) = true)
    (z52 : K.lookup y7 = some ⟨y76, y77, .func (PySem.W.fnOf "_law_text" "_law_text" (defArgs st__law_text) (defBody st__law_text) (defScope st__law_text) .none y78 y79 y80 y81 y82 y83), y84⟩)
    (z53 : PySem.W.codeIn K y82 "_law_text" = true)
    (z54 : PySem.W.keepIn K (.ref y7) = true)
    (z55 : K.lookup y8 = some ⟨y85, y86, .func (PySem.W.fnOf "_law_word" "_law_word" (defArgs st__law_word) (defBody st__law_word) (defScope st__law_word) .none y87 y88 y89 y90 y91 y92), y93⟩)
    (z56 : PySem.W.codeIn K y91 "_law_word" = true)
    (z57 : PySem.W.keepIn K (.ref y8) = true)
    (z58 : K.lookup y9 = some ⟨y94, y95, .func (PySem.W.fnOf "_law_tree" "_law_tree" (defArgs st__law_tree) (defBody st__law_tree) (defScope st__law_tree) .none y96 y97 y98 y99 y100 y101), y102⟩)
    (z59 : PySem.W.codeIn K y100 "_law_tree" = true)
    (z60 : PySem.W.keepIn K (.ref y9) = true)
    (z61 : K.lookup y10 = some ⟨y103, y104, .func (PySem.W.fnOf "_law_drawn" "_law_drawn" (defArgs st__law_drawn) (defBody st__law_drawn) (defScope st__law_drawn) .none y105 y106 y107 y108 y109 y110), y111⟩)
    (z62 : PySem.W.codeIn K y109 "_law_drawn" = true)
    (z63 : PySem.W.keepIn K (.ref y10) = true)
    (z64 : K.lookup y11 = some ⟨y112, y113, .func (PySem.W.fnOf "_law_rows" "_law_rows" (defArgs st__law_rows) (defBody st__law_rows) (defScope st__law_rows) .none y114 y115 y116 y117 y118 y119), y120⟩)
    (z65 : PySem.W.codeIn K y118 "_law_rows" = true)
    (z66 : PySem.W.keepIn K (.ref y11) = true)
    (z67 : K.lookup y12 = some ⟨y121, y122, .func (PySem.W.fnOf "law" "law" (defArgs st_law) (defBody st_law) (defScope st_law) .none y123 y124 y125 y126 y127 y128), y129⟩)
    (z68 : PySem.W.codeIn K y127 "law" = true)
    (z69 : PySem.W.keepIn K (.ref y12) = true)
    : ∃ (T : Tab) (fd : FuncData), (∀ (s : Shared) (v : Value), BindsTo s fd ⟨[v], []⟩ [("_law_script", v)]) ∧ ∀ base : Heap, K.In base → base.Ns mainGlobals mg → FnX l.prog w K mg base T 22 fa fd ["_law_script"] φ_law := by
  have e := hfa.symm.trans (PySem.W.mg_of X G z30)
  cases e
  let a : Ad := { f_write_text := y0, f_write_value := y1, f_write_start := y2, f_plain_text := y3, f_write_tree := y4, f__law_joined := y5, f__law_flat := y6, f__law_text := y7, f__law_word := y8, f__law_tree := y9, f__law_drawn := y10, f__law_rows := y11, f_law := fa }
  have T : Tx K mg a := { no_range := PySem.W.mg_none_of X G z0, mg_write_text := PySem.W.mg_of X G z1, kp_write_text := z2, mg_write_value := PySem.W.mg_of X G z3, kp_write_value := z4, mg_write_start := PySem.W.mg_of X G z5, kp_write_start := z6, mg_plain_text := PySem.W.mg_of X G z7, kp_plain_text := z8, no_str := PySem.W.mg_none_of X G z9, no_isinstance := PySem.W.mg_none_of X G z10, mg_write_tree := PySem.W.mg_of X G z11, kp_write_tree := z12, mg__law_flat := PySem.W.mg_of X G z13, kp__law_flat := z14, no_len := PySem.W.mg_none_of X G z15, mg__law_joined := PySem.W.mg_of X G z16, kp__law_joined := z17, no_repr := PySem.W.mg_none_of X G z18, no_int := PySem.W.mg_none_of X G z19, mg__law_text := PySem.W.mg_of X G z20, kp__law_text := z21, mg__law_word := PySem.W.mg_of X G z22, kp__law_word := z23, mg__law_tree := PySem.W.mg_of X G z24, kp__law_tree := z25, mg__law_drawn := PySem.W.mg_of X G z26, kp__law_drawn := z27, mg__law_rows := PySem.W.mg_of X G z28, kp__law_rows := z29, fn_write_text := fnAt_mk z31 z32 z33, fn_write_value := fnAt_mk z34 z35 z36, fn_write_start := fnAt_mk z37 z38 z39, fn_plain_text := fnAt_mk z40 z41 z42, fn_write_tree := fnAt_mk z43 z44 z45, fn__law_joined := fnAt_mk z46 z47 z48, fn__law_flat := fnAt_mk z49 z50 z51, fn__law_text := fnAt_mk z52 z53 z54, fn__law_word := fnAt_mk z55 z56 z57, fn__law_tree := fnAt_mk z58 z59 z60, fn__law_drawn := fnAt_mk z61 z62 z63, fn__law_rows := fnAt_mk z64 z65 z66, fn_law := fnAt_mk z67 z68 z69 }
  obtain ⟨fd, h1, h2⟩ := ok_law (P := l.prog) (w := w) T
  exact ⟨_, fd, h1, fun base _ _ => h2 base⟩
end K68
open PySem PySem.W PyProof.Rows in
set_option maxRecDepth 100000 in
set_option maxHeartbeats 0 in
theorem PySem.Challenge.cw_viewloom_k68_plain_texts_holds : PySem.Challenge.rw_viewloom_k68_plain_texts.Holds := by
  w_on; o_law; k_head; (case hw => w_witness2)
  k_fill
  refine LD.walk_d (l := PySem.Challenge.rw_viewloom_k68_plain_texts) (k := 22) (x := "_law_script") rfl rfl (fun w h Y => PySem.W.kIn_of Y) ⟨rfl, by decide, by decide⟩ K68.law_ok ?F
  case F =>
    intro w mg fa h KX G hmg
    refine' K68.all_mk KX G hmg ?z0 ?z1 ?z2 ?z3 ?z4 ?z5 ?z6 ?z7 ?z8 ?z9 ?z10 ?z11 ?z12 ?z13 ?z14 ?z15 ?z16 ?z17 ?z18 ?z19 ?z20 ?z21 ?z22 ?z23 ?z24 ?z25 ?z26 ?z27 ?z28 ?z29 ?z30 ?z31 ?z32 ?z33 ?z34 ?z35 ?z36 ?z37 ?z38 ?z39 ?z40 ?z41 ?z42 ?z43 ?z44 ?z45 ?z46 ?z47 ?z48 ?z49 ?z50 ?z51 ?z52 ?z53 ?z54 ?z55 ?z56 ?z57 ?z58 ?z59 ?z60 ?z61 ?z62 ?z63 ?z64 ?z65 ?z66 ?z67 ?z68 ?z69
    (case z0 => k_is)
    (case z1 => k_is)
    (case z2 => k_is)
    (case z3 => k_is)
    (case z4 => k_is)
    (case z5 => k_is)
    (case z6 => k_is)
    (case z7 => k_is)
    (case z8 => k_is)
    (case z9 => k_is)
    (case z10 => k_is)
    (case z11 => k_is)
    (case z12 => k_is)
    (case z13 => k_is)
    (case z14 => k_is)
    (case z15 => k_is)
    (case z16 => k_is)
    (case z17 => k_is)
    (case z18 => k_is)
    (case z19 => k_is)
    (case z20 => k_is)
    (case z21 => k_is)
    (case z22 => k_is)
    (case z23 => k_is)
    (case z24 => k_is)
    (case z25 => k_is)
    (case z26 => k_is)
    (case z27 => k_is)
    (case z28 => k_is)
    (case z29 => k_is)
    (case z30 => k_is)
    (case z31 => k_is)
    (case z32 => k_is)
    (case z33 => k_is)
    (case z34 => k_is)
    (case z35 => k_is)
    (case z36 => k_is)
    (case z37 => k_is)
    (case z38 => k_is)
    (case z39 => k_is)
    (case z40 => k_is)
    (case z41 => k_is)
    (case z42 => k_is)
    (case z43 => k_is)
    (case z44 => k_is)
    (case z45 => k_is)
    (case z46 => k_is)
    (case z47 => k_is)
    (case z48 => k_is)
    (case z49 => k_is)
    (case z50 => k_is)
    (case z51 => k_is)
    (case z52 => k_is)
    (case z53 => k_is)
    (case z54 => k_is)
    (case z55 => k_is)
    (case z56 => k_is)
    (case z57 => k_is)
    (case z58 => k_is)
    (case z59 => k_is)
    (case z60 => k_is)
    (case z61 => k_is)
    (case z62 => k_is)
    (case z63 => k_is)
    (case z64 => k_is)
    (case z65 => k_is)
    (case z66 => k_is)
    (case z67 => k_is)
    (case z68 => k_is)
    (case z69 => k_is)
