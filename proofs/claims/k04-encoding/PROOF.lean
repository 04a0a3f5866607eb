import PyProof.Rows.All
import Wide.All
import OpenK.AllK
import Wide.FinOn
import HandS.ForMost
import HandS.ForExc
import HandS.TupAny
import HandS.IsInst
import HandS.Conv
import HandS.Codes
import HandS.TupMul
import HandS.Style
import HandS.Defaults
import HandS.CallSlots
import KE.GoesComp
import KE.GoesRaise
import HandS.Comp
import HandS.More
import KE.KBytesHexOf
import HandS.ExcInit
import HandS.ExcOwn
import HandS.ExcField
import HandS.TryOnly
import HandS.Text
import HandS.StrMore
import HandS.ToBytes
import KE.KFromBytes
import HandS.Words
import HandS.WordsExc
import HandS.Head0
import HandS.Head1
import HandS.Head2
import HandS.HeadEnd
import HandS.HeadHook1
import HandS.HeadHook2
import HandS.Iter
import HandS.Zip
import HandS.Bytes
import KE.GoesMore
import PyProof.EnumMake
import HandS.Head3
import PySem.Challenge.RW_virtmonitor_k04_whole_encoding
set_option Elab.async false
set_option linter.all false
section
set_option maxRecDepth 100000
set_option maxHeartbeats 2000000
/-! M1: values, store, relation; the bridge from a deterministic mirror to the hand layer's judgements -/
namespace M1
open PySem PySem.Spec PyProof.Rows L2

abbrev St := L2.St
/-- a deep value: tuples by value, mutable things by their place in the store -/
inductive D where
  | non | bl (b : Bool) | int (i : Int) | str (x : Str) | byt (b : Array UInt8) | ty (n : String) | gl (a : Addr)
  | tup (xs : List D) | loc (n : Nat)

/-- what stands at a place of the store -/
inductive SO where
  /-- a list; one that is only read -/
  | lst (xs : List D) | frz (xs : List D)
  | dic (kvs : List (Key × D))
  | ins (C : Addr) (fs : List (Str × D))
  /-- an exception's own dict -/
  | xd (fs : List (Str × D))
  /-- nothing is said -/
  | dead
abbrev Store := List SO
abbrev Env := List (Option D)

section
variable (K : PySem.W.Frag)
mutual
/-- v is d -/
def Rv (m : Nat → Addr) (N : Nat) (H : Hp) : D → V → Prop
  | .non, v => v = .non
  | .bl b, v => v = .bl b
  | .int i, v => v = .int i
  | .str x, v => v = .str x
  | .byt b, v => v = .byt b
  | .ty n, v => v = .ty n
  | .gl a, v => v = .ref a
  | .loc n, v => n < N ∧ v = .ref (m n)
  | .tup ds, v => ∃ a vs, v = .ref a ∧ SqT K H a vs ∧ Rvs m N H ds vs
def Rvs (m : Nat → Addr) (N : Nat) (H : Hp) : List D → List V → Prop
  | [], vs => vs = []
  | d :: ds, vs => ∃ v r, vs = v :: r ∧ Rv m N H d v ∧ Rvs m N H ds r
end

def Rk (m : Nat → Addr) (N : Nat) (H : Hp) {κ : Type} : List (κ × D) → List (κ × V) → Prop
  | [], vs => vs = []
  | (k, d) :: ds, vs => ∃ v r, vs = (k, v) :: r ∧ Rv K m N H d v ∧ Rk m N H ds r

/-- a list that the module's heap holds -/
def KLs (a : Addr) (xs : List V) : Prop := ∃ (o : Obj) (its : Array Value) (n : Nat), K.lookup a = some o ∧ o.cls = .type "list" ∧ o.dict = none ∧ o.data = .seq its n ∧ its.size ≤ sizeLine ∧ Vals xs its.toList
/-- the place a holds o -/
def Ro (m : Nat → Addr) (N : Nat) (H : Hp) (a : Addr) : SO → Prop
  | .lst xs => ∃ vs, H a = some (.lst vs) ∧ Rvs K m N H xs vs
  | .frz xs => ∃ vs, ((∃ o, H a = some (.frz o (.lst vs))) ∨ KLs K a vs) ∧ Rvs K m N H xs vs
  | .dic kvs => ∃ vs, H a = some (.dK vs) ∧ Rk K m N H kvs vs
  | .ins C fs => ∃ dx vs, H a = some (.ins C dx vs) ∧ Rk K m N H fs vs
  | .xd fs => ∃ vs, H a = some (.xd vs) ∧ Rk K m N H fs vs
  | .dead => True

def live : SO → Bool
  | .dead => false
  | .frz _ => false
  | _ => true
structure RS (m : Nat → Addr) (S : Store) (H : Hp) : Prop where
  at_ : ∀ n o, S[n]? = some o → Ro K m S.length H (m n) o
  inj : ∀ i j oi oj, S[i]? = some oi → S[j]? = some oj → live oi = true → live oj = true → m i = m j → i = j

/-- every tuple stays -/
def Mono (H H' : Hp) : Prop := ∀ a xs, SqT K H a xs → SqT K H' a xs
structure Fin (m : Nat → Addr) (S : Store) (H : Hp) (m' : Nat → Addr) (S' : Store) (H' : Hp) : Prop where
  len : S.length ≤ S'.length
  ext : ∀ n, n < S.length → m' n = m n
  mono : Mono K H H'
  rs : RS K m' S' H'
end

section
variable {K : PySem.W.Frag} {m m' m2 : Nat → Addr} {N N' : Nat} {H H' H2 : Hp} {S S' S2 : Store}
theorem Mono.refl : Mono K H H := fun _ _ h => h
theorem Mono.trans (a : Mono K H H') (b : Mono K H' H2) : Mono K H H2 := fun x xs h => b x xs (a x xs h)
theorem Fin.refl (r : RS K m S H) : Fin K m S H m S H := ⟨Nat.le_refl _, fun _ _ => rfl, Mono.refl, r⟩
theorem Fin.trans (a : Fin K m S H m' S' H') (b : Fin K m' S' H' m2 S2 H2) : Fin K m S H m2 S2 H2 :=
  ⟨Nat.le_trans a.len b.len, fun n h => (b.ext n (Nat.lt_of_lt_of_le h a.len)).trans (a.ext n h), a.mono.trans b.mono, b.rs⟩

mutual
theorem Rv.up (hN : N ≤ N') (he : ∀ n, n < N → m' n = m n) (mo : Mono K H H') : ∀ {d : D} {v : V}, Rv K m N H d v → Rv K m' N' H' d v
  | .non, _, h => h
  | .bl _, _, h => h
  | .int _, _, h => h
  | .str _, _, h => h
  | .byt _, _, h => h
  | .ty _, _, h => h
  | .gl _, _, h => h
  | .loc n, _, h => by
    simp only [Rv] at h ⊢
    exact ⟨Nat.lt_of_lt_of_le h.1 hN, by rw [he n h.1]; exact h.2⟩
  | .tup ds, _, h => by
    simp only [Rv] at h ⊢
    obtain ⟨a, vs, e, q, r⟩ := h
    exact ⟨a, vs, e, mo a vs q, Rvs.up hN he mo r⟩
theorem Rvs.up (hN : N ≤ N') (he : ∀ n, n < N → m' n = m n) (mo : Mono K H H') : ∀ {ds : List D} {vs : List V}, Rvs K m N H ds vs → Rvs K m' N' H' ds vs
  | [], _, h => h
  | d :: ds, _, h => by
    simp only [Rvs] at h ⊢
    obtain ⟨v, r, e, h1, h2⟩ := h
    exact ⟨v, r, e, Rv.up hN he mo h1, Rvs.up hN he mo h2⟩
end
theorem Rk.up {κ : Type} (hN : N ≤ N') (he : ∀ n, n < N → m' n = m n) (mo : Mono K H H') : ∀ {ds : List (κ × D)} {vs : List (κ × V)}, Rk K m N H ds vs → Rk K m' N' H' ds vs
  | [], _, h => h
  | (k, d) :: ds, _, h => by
    simp only [Rk] at h ⊢
    obtain ⟨v, r, e, h1, h2⟩ := h
    exact ⟨v, r, e, h1.up hN he mo, Rk.up hN he mo h2⟩
theorem Fin.rv (f : Fin K m S H m' S' H') {d : D} {v : V} (h : Rv K m S.length H d v) : Rv K m' S'.length H' d v := h.up f.len f.ext f.mono
theorem Fin.rvs (f : Fin K m S H m' S' H') {d : List D} {v : List V} (h : Rvs K m S.length H d v) : Rvs K m' S'.length H' d v := h.up f.len f.ext f.mono
theorem Fin.rk (f : Fin K m S H m' S' H') {κ : Type} {d : List (κ × D)} {v : List (κ × V)} (h : Rk K m S.length H d v) : Rk K m' S'.length H' d v := h.up f.len f.ext f.mono

theorem Rvs.length : ∀ {ds : List D} {vs : List V}, Rvs K m N H ds vs → vs.length = ds.length
  | [], _, h => by simp only [Rvs] at h; subst h; rfl
  | d :: ds, _, h => by
    simp only [Rvs] at h
    obtain ⟨v, r, e, _, h2⟩ := h
    subst e
    simp [Rvs.length h2]
theorem Rvs.get : ∀ {ds : List D} {vs : List V} {i : Nat} {d : D}, Rvs K m N H ds vs → ds[i]? = some d → ∃ v, vs[i]? = some v ∧ Rv K m N H d v
  | [], _, _, _, _, e => by simp at e
  | d :: ds, _, i, x, h, e => by
    simp only [Rvs] at h
    obtain ⟨v, r, rfl, h1, h2⟩ := h
    cases i with
    | zero => simp at e; subst e; exact ⟨v, by simp, h1⟩
    | succ i => obtain ⟨w, h3, h4⟩ := Rvs.get (i := i) h2 (by simpa using e); exact ⟨w, by simpa using h3, h4⟩
theorem Rvs.append : ∀ {ds es : List D} {vs us : List V}, Rvs K m N H ds vs → Rvs K m N H es us → Rvs K m N H (ds ++ es) (vs ++ us)
  | [], _, _, _, h, k => by simp only [Rvs] at h; subst h; exact k
  | d :: ds, _, _, _, h, k => by
    simp only [Rvs] at h
    obtain ⟨v, r, rfl, h1, h2⟩ := h
    simp only [List.cons_append, Rvs]
    exact ⟨v, _, rfl, h1, Rvs.append h2 k⟩
theorem Rvs.take : ∀ {ds : List D} {vs : List V} (n : Nat), Rvs K m N H ds vs → Rvs K m N H (ds.take n) (vs.take n)
  | [], _, _, h => by simp only [Rvs] at h; subst h; simp [Rvs]
  | d :: ds, _, n, h => by
    simp only [Rvs] at h
    obtain ⟨v, r, rfl, h1, h2⟩ := h
    cases n with
    | zero => simp [Rvs]
    | succ n => simp only [List.take_succ_cons, Rvs]; exact ⟨v, _, rfl, h1, Rvs.take n h2⟩
theorem Rvs.drop : ∀ {ds : List D} {vs : List V} (n : Nat), Rvs K m N H ds vs → Rvs K m N H (ds.drop n) (vs.drop n)
  | [], _, _, h => by simp only [Rvs] at h; subst h; simp [Rvs]
  | d :: ds, _, n, h => by
    simp only [Rvs] at h
    obtain ⟨v, r, rfl, h1, h2⟩ := h
    cases n with
    | zero => simp only [List.drop_zero, Rvs]; exact ⟨v, _, rfl, h1, h2⟩
    | succ n => simp only [List.drop_succ_cons]; exact Rvs.drop n h2
theorem Rvs.set : ∀ {ds : List D} {vs : List V} (i : Nat) {d : D} {v : V}, Rvs K m N H ds vs → Rv K m N H d v → Rvs K m N H (ds.set i d) (vs.set i v)
  | [], _, _, _, _, h, _ => by simp only [Rvs] at h; subst h; simp [Rvs]
  | e :: ds, _, n, _, _, h, k => by
    simp only [Rvs] at h
    obtain ⟨v, r, rfl, h1, h2⟩ := h
    cases n with
    | zero => simp only [List.set_cons_zero, Rvs]; exact ⟨_, _, rfl, k, h2⟩
    | succ n => simp only [List.set_cons_succ, Rvs]; exact ⟨v, _, rfl, h1, Rvs.set n h2 k⟩
theorem Rvs.one {d : D} {v : V} (h : Rv K m N H d v) : Rvs K m N H [d] [v] := by
  simp only [Rvs]; exact ⟨v, [], rfl, h, rfl⟩
theorem Rvs.nil : Rvs K m N H [] [] := by simp only [Rvs]
theorem Rvs.cons {d : D} {v : V} {ds : List D} {vs : List V} (h : Rv K m N H d v) (k : Rvs K m N H ds vs) : Rvs K m N H (d :: ds) (v :: vs) := by
  simp only [Rvs]; exact ⟨v, vs, rfl, h, k⟩

/-! ### the heap changes -/
theorem SqT.stay {a : Addr} {xs : List V} (h : SqT K H a xs) (ne : ∀ u, (H a = some u) → H' a = some u) : SqT K H' a xs := by
  rcases h with (h | ⟨o, h⟩) | h
  · exact .inl (.inl (ne _ h))
  · exact .inl (.inr ⟨o, ne _ h⟩)
  · exact .inr h
theorem Mono.new {p : Addr} {o : HO} (hp : H p = none) : Mono K H (upd H p o) := fun a xs h => SqT.stay h fun u e => by
  rw [upd_ne (ne_of_none e hp)]; exact e
/-- what is written is no tuple -/
theorem Mono.write {p : Addr} {o o' : HO} (hp : H p = some o) (h1 : ∀ xs, o ≠ .tup xs) (h2 : ∀ ob xs, o ≠ .frz ob (.tup xs)) : Mono K H (upd H p o') := fun a xs h => by
  rcases h with (h | ⟨ob, h⟩) | h
  · refine .inl (.inl ?_)
    rw [upd_ne]; exact h
    rintro rfl; rw [hp] at h; exact h1 _ (Option.some.inj h)
  · refine .inl (.inr ⟨ob, ?_⟩)
    rw [upd_ne]; exact h
    rintro rfl; rw [hp] at h; exact h2 _ _ (Option.some.inj h)
  · exact .inr h
theorem Ro.up {a : Addr} {o : SO} (hN : N ≤ N') (he : ∀ n, n < N → m' n = m n) (mo : Mono K H H') (ha : ∀ u, H a = some u → H' a = some u) (h : Ro K m N H a o) : Ro K m' N' H' a o := by
  cases o with
  | lst xs => obtain ⟨vs, e, r⟩ := h; exact ⟨vs, ha _ e, r.up hN he mo⟩
  | frz xs => obtain ⟨vs, e, r⟩ := h; exact ⟨vs, e.imp (fun ⟨o, e⟩ => ⟨o, ha _ e⟩) id, r.up hN he mo⟩
  | dic xs => obtain ⟨vs, e, r⟩ := h; exact ⟨vs, ha _ e, r.up hN he mo⟩
  | ins C fs => obtain ⟨dx, vs, e, r⟩ := h; exact ⟨dx, vs, ha _ e, r.up hN he mo⟩
  | xd fs => obtain ⟨vs, e, r⟩ := h; exact ⟨vs, ha _ e, r.up hN he mo⟩
  | dead => trivial

/-- something is laid that the store does not speak of -/
theorem Fin.junk {p : Addr} {o : HO} (r : RS K m S H) (hp : H p = none) : Fin K m S H m S (upd H p o) :=
  ⟨Nat.le_refl _, fun _ _ => rfl, Mono.new hp, ⟨fun n ob e => (r.at_ n ob e).up (Nat.le_refl _) (fun _ _ => rfl) (Mono.new hp) fun u q => by rw [upd_ne (ne_of_none q hp)]; exact q, r.inj⟩⟩
/-- a new place -/
def ext1 (m : Nat → Addr) (n : Nat) (p : Addr) : Nat → Addr := fun k => if k = n then p else m k
theorem ext1_old {n k : Nat} {p : Addr} (h : k < n) : ext1 m n p k = m k := if_neg (Nat.ne_of_lt h)
theorem ext1_new {n : Nat} {p : Addr} : ext1 m n p n = p := if_pos rfl
/-- what lives is there -/
theorem Ro.there {a : Addr} {o : SO} (h : Ro K m N H a o) (l : live o = true) : ∃ u, H a = some u ∧ (∀ xs, u ≠ .tup xs) ∧ (∀ ob xs, u ≠ .frz ob xs) := by
  cases o with
  | lst xs => obtain ⟨vs, e, r⟩ := h; exact ⟨_, e, fun _ z => by (cases z), fun _ _ z => by (cases z)⟩
  | frz xs => exact absurd l (by simp [live])
  | dic xs => obtain ⟨vs, e, r⟩ := h; exact ⟨_, e, fun _ z => by (cases z), fun _ _ z => by (cases z)⟩
  | ins C fs => obtain ⟨dx, vs, e, r⟩ := h; exact ⟨_, e, fun _ z => by (cases z), fun _ _ z => by (cases z)⟩
  | xd fs => obtain ⟨vs, e, r⟩ := h; exact ⟨_, e, fun _ z => by (cases z), fun _ _ z => by (cases z)⟩
  | dead => exact absurd l (by simp [live])
theorem get_snoc {o : SO} {n : Nat} {x : SO} (h : (S ++ [o])[n]? = some x) : S[n]? = some x ∨ (n = S.length ∧ x = o) := by
  by_cases hn : n < S.length
  · rw [List.getElem?_append_left hn] at h; exact .inl h
  · rw [List.getElem?_append_right (by omega)] at h
    have : n - S.length = 0 := by
      by_cases e : n - S.length = 0
      · exact e
      · rw [List.getElem?_eq_none (by simp; omega)] at h; cases h
    rw [this] at h
    simp at h
    exact .inr ⟨by omega, h.symm⟩
theorem lt_of_get {n : Nat} {o : SO} (h : S[n]? = some o) : n < S.length := by
  by_cases hn : n < S.length
  · exact hn
  · rw [List.getElem?_eq_none (by omega)] at h; cases h
/-- a new place at p -/
theorem Fin.new {p : Addr} {o : SO} {u : HO} (r : RS K m S H) (hp : H p = none) (ho : Ro K (ext1 m S.length p) (S.length + 1) (upd H p u) p o) : Fin K m S H (ext1 m S.length p) (S ++ [o]) (upd H p u) := by
  have len : (S ++ [o]).length = S.length + 1 := by simp
  have up : ∀ n x, S[n]? = some x → Ro K (ext1 m S.length p) (S.length + 1) (upd H p u) (m n) x := fun n x e =>
    (r.at_ n x e).up (Nat.le_succ _) (fun k hk => ext1_old hk) (Mono.new hp) fun v q => by rw [upd_ne (ne_of_none q hp)]; exact q
  refine ⟨by simp, fun n h => ext1_old h, Mono.new hp, ⟨fun n x e => ?_, fun i j oi oj ei ej li lj em => ?_⟩⟩
  · rw [len]
    rcases get_snoc e with e | ⟨e1, e2⟩
    · rw [ext1_old (lt_of_get e)]; exact up n x e
    · subst e1; subst e2; rw [ext1_new]; exact ho
  · have hne : ∀ k ok, S[k]? = some ok → live ok = true → m k ≠ p := fun k ok e l z => by
      obtain ⟨v, q, _⟩ := (r.at_ k ok e).there l
      rw [z, hp] at q; cases q
    rcases get_snoc ei with ei | ⟨e1, e2⟩ <;> rcases get_snoc ej with ej | ⟨e3, e4⟩
    · rw [ext1_old (lt_of_get ei), ext1_old (lt_of_get ej)] at em
      exact r.inj i j oi oj ei ej li lj em
    · subst e3
      rw [ext1_old (lt_of_get ei), ext1_new] at em
      exact absurd em (hne i oi ei li)
    · subst e1
      rw [ext1_old (lt_of_get ej), ext1_new] at em
      exact absurd em.symm (hne j oj ej lj)
    · omega
theorem get_set {n k : Nat} {o x : SO} (h : (S.set n o)[k]? = some x) : (k ≠ n ∧ S[k]? = some x) ∨ (k = n ∧ x = o ∧ n < S.length) := by
  by_cases e : k = n
  · subst e
    by_cases hl : k < S.length
    · rw [List.getElem?_set_self hl] at h; cases h; exact .inr ⟨rfl, rfl, hl⟩
    · rw [List.getElem?_eq_none (by simp; omega)] at h; cases h
  · rw [List.getElem?_set_ne (Ne.symm e)] at h; exact .inl ⟨e, h⟩
/-- a living place is written -/
theorem Fin.write {n : Nat} {o o' : SO} {u : HO} (r : RS K m S H) (hn : S[n]? = some o) (l : live o = true) (ho : Ro K m S.length (upd H (m n) u) (m n) o') : Fin K m S H m (S.set n o') (upd H (m n) u) := by
  obtain ⟨v, q, t1, t2⟩ := (r.at_ n o hn).there l
  have mo : Mono K H (upd H (m n) u) := Mono.write q t1 fun ob xs => t2 ob _
  refine ⟨by simp, fun _ _ => rfl, mo, ⟨fun k x e => ?_, fun i j oi oj ei ej li lj em => ?_⟩⟩
  · rw [List.length_set]
    rcases get_set e with ⟨ne, e⟩ | ⟨e1, e2, _⟩
    · by_cases lx : live x = true
      · refine (r.at_ k x e).up (Nat.le_refl _) (fun _ _ => rfl) mo fun w qw => ?_
        rw [upd_ne fun z => ne (r.inj k n x o e hn lx l z)]; exact qw
      · cases x with
        | dead => trivial
        | frz xs =>
          obtain ⟨vs, q2, r2⟩ := r.at_ k _ e
          refine ⟨vs, q2.imp (fun ⟨ob, q2⟩ => ⟨ob, ?_⟩) id, r2.up (Nat.le_refl _) (fun _ _ => rfl) mo⟩
          rw [upd_ne fun z => ?_]
          · exact q2
          · rw [z, q] at q2; cases q2; exact t2 _ _ rfl
        | _ => exact absurd rfl lx
    · subst e1; subst e2; exact ho
  · have ex : ∀ k ok, (S.set n o')[k]? = some ok → live ok = true → ∃ ok', S[k]? = some ok' ∧ live ok' = true := fun k ok e lk => by
      rcases get_set e with ⟨_, e⟩ | ⟨e1, _, _⟩
      · exact ⟨ok, e, lk⟩
      · subst e1; exact ⟨o, hn, l⟩
    obtain ⟨_, a1, a2⟩ := ex i oi ei li
    obtain ⟨_, b1, b2⟩ := ex j oj ej lj
    exact r.inj i j _ _ a1 b1 a2 b2 em

/-! ### results -/
end

inductive R (α : Type) where
  | ok (a : α) (S : Store)
  /-- an exception: its class, its own dict's place -/
  | ex (C : Value) (d : Option Nat) (S : Store)
  | er
def R.bind {α β : Type} (r : R α) (k : α → Store → R β) : R β :=
  match r with
  | .ok a S => k a S
  | .ex C d S => .ex C d S
  | .er => .er
def R.of {α : Type} : Option (α × Store) → R α
  | some (a, S) => .ok a S
  | none => .er

abbrev Ex := Env → Store → R D
abbrev Tx := Env → Store → R Bool
abbrev Ax := Env → Store → R (List D)

section
variable {K : PySem.W.Frag} {m m1 m2 : Nat → Addr} {N : Nat} {H H1 H2 : Hp} {S S1 S2 : Store} {σ : St} {W : WX}
/-- what a result asks: P of its value and what the value is related to -/
def Aft {α β : Type} (K : PySem.W.Frag) (P : (Nat → Addr) → Nat → Hp → α → β → Prop) (W : WX) (r : R α) (m : Nat → Addr) (S : Store) (H : Hp) (σ : St) (Q : β → Hp → Prop) : Prop :=
  match r with
  | .ok d S' => ∀ m' H' v, Fin K m S H m' S' H' → P m' S'.length H' d v → Q v H'
  | .ex C d S' => ∀ m' H', Fin K m S H m' S' H' → W C (d.map m') σ H'
  | .er => False
abbrev AftE (K : PySem.W.Frag) := Aft (α := D) (β := V) K (Rv K)
abbrev AftA (K : PySem.W.Frag) := Aft (α := List D) (β := List V) K (Rvs K)
abbrev AftT (K : PySem.W.Frag) := Aft (α := Bool) (β := Bool) K (fun _ _ _ a b => b = a)

section
variable {α β γ δ : Type} {P : (Nat → Addr) → Nat → Hp → α → β → Prop} {P' : (Nat → Addr) → Nat → Hp → γ → δ → Prop}
theorem Aft.shift {r : R α} {Q : β → Hp → Prop} (f : Fin K m S H m1 S1 H1) (h : Aft K P W r m S H σ Q) : Aft K P W r m1 S1 H1 σ Q := by
  cases r with
  | ok d S' => exact fun m' H' v g p => h m' H' v (f.trans g) p
  | ex C d S' => exact fun m' H' g => h m' H' (f.trans g)
  | er => exact h
theorem Aft.mono {r : R α} {Q Q' : β → Hp → Prop} (h : Aft K P W r m S H σ Q) (hq : ∀ v H', Q v H' → Q' v H') : Aft K P W r m S H σ Q' := by
  cases r with
  | ok d S' => exact fun m' H' v g p => hq _ _ (h m' H' v g p)
  | ex C d S' => exact h
  | er => exact h
theorem Aft.bind {r : R α} {k : α → Store → R γ} {Q : δ → Hp → Prop} (h : Aft K P' W (r.bind k) m S H σ Q) :
    Aft K P W r m S H σ (fun v H1 => ∃ m1 S1 d, Fin K m S H m1 S1 H1 ∧ P m1 S1.length H1 d v ∧ Aft K P' W (k d S1) m1 S1 H1 σ Q) := by
  cases r with
  | ok d S' => exact fun m' H' v g p => ⟨m', S', d, g, p, Aft.shift g h⟩
  | ex C d S' => exact h
  | er => exact h
end

/-- the slots -/
def Renv (K : PySem.W.Frag) (m : Nat → Addr) (N : Nat) (H : Hp) (ρ : Env) (σ : St) : Prop := ∀ (i : Nat) (d : D), ρ[i]? = some (some d) → ∃ v, σ[i]? = some (some v) ∧ Rv K m N H d v
theorem Fin.renv {ρ : Env} {m' : Nat → Addr} {S' : Store} {H' : Hp} (f : Fin K m S H m' S' H') (h : Renv K m S.length H ρ σ) : Renv K m' S'.length H' ρ σ := fun i d e => by
  obtain ⟨v, a, b⟩ := h i d e
  exact ⟨v, a, f.rv b⟩

def tX {α β : Type} (K : PySem.W.Frag) (P : (Nat → Addr) → Nat → Hp → α → β → Prop) (W : WX) (f : Env → Store → R α) : St → Hp → (β → Hp → Prop) → Prop := fun σ H Q =>
  ∃ m S ρ, RS K m S H ∧ Renv K m S.length H ρ σ ∧ Aft K P W (f ρ S) m S H σ Q
def tE (K : PySem.W.Frag) (W : WX) (f : Ex) : TE := tX K (Rv K) W f
def tA (K : PySem.W.Frag) (W : WX) (f : Ax) : TA := tX K (Rvs K) W f
def tT (K : PySem.W.Frag) (W : WX) (f : Tx) : TT := tX K (fun _ _ _ a b => b = a) W f

/-- a part, then what follows it -/
def bnd {α γ : Type} (f : Env → Store → R α) (k : α → Env → Store → R γ) : Env → Store → R γ := fun ρ S => (f ρ S).bind fun d S1 => k d ρ S1
/-- the step from one part to what follows it -/
theorem tX_bind {α β γ δ : Type} {P : (Nat → Addr) → Nat → Hp → α → β → Prop} {P' : (Nat → Addr) → Nat → Hp → γ → δ → Prop} {f : Env → Store → R α} {k : α → Env → Store → R γ} {Q : δ → Hp → Prop}
    (h : tX K P' W (bnd f k) σ H Q) :
    tX K P W f σ H (fun v H1 => ∃ m1 S1 d ρ, RS K m1 S1 H1 ∧ Renv K m1 S1.length H1 ρ σ ∧ P m1 S1.length H1 d v ∧ Aft K P' W (k d ρ S1) m1 S1 H1 σ Q) := by
  obtain ⟨m, S, ρ, rs, re, h⟩ := h
  refine ⟨m, S, ρ, rs, re, (Aft.bind (P := P) h).mono fun v H1 ⟨m1, S1, d, g, p, q⟩ => ⟨m1, S1, d, ρ, g.rs, g.renv re, p, q⟩⟩
end

/-! ### judgements -/
section
variable {X : Cx} {W : WX}
theorem pe_imp {e : Expr} {t t' : TE} (h : PE X e t) (i : ∀ σ H Q, t' σ H Q → t σ H Q) : PE X e t' := ⟨fun pins s σ H Q I q => h.run pins s σ H Q I (i σ H Q q)⟩
theorem pt_imp {e : Expr} {t t' : TT} (h : PT X e t) (i : ∀ σ H Q, t' σ H Q → t σ H Q) : PT X e t' := ⟨fun pins s σ H Q I q => h.run pins s σ H Q I (i σ H Q q)⟩
theorem pa_imp {e : List Expr} {t t' : TA} (h : PA X e t) (i : ∀ σ H Q, t' σ H Q → t σ H Q) : PA X e t' := ⟨fun pos pins s σ H Q I q => h.run pos pins s σ H Q I (i σ H Q q)⟩
theorem ps_imp {e : Stmt} {t t' : TS} (h : PS X e t) (i : ∀ D σ H, t' D σ H → t D σ H) : PS X e t' := ⟨fun pins s σ H D I q => h.run pins s σ H D I (i D σ H q)⟩
theorem pss_imp {e : List Stmt} {t t' : TS} (h : PSs X e t) (i : ∀ D σ H, t' D σ H → t D σ H) : PSs X e t' := ⟨fun pins s σ H D I q => h.run pins s σ H D I (i D σ H q)⟩
abbrev ME (X : Cx) (W : WX) (e : Expr) (f : Ex) : Prop := PE X e (tE X.K W f)
abbrev MT (X : Cx) (W : WX) (e : Expr) (f : Tx) : Prop := PT X e (tT X.K W f)
abbrev MA (X : Cx) (W : WX) (e : List Expr) (f : Ax) : Prop := PA X e (tA X.K W f)

/-! ### names, constants -/
def eVar (i : Nat) : Ex := fun ρ S => match ρ[i]? with
  | some (some d) => .ok d S
  | _ => .er
theorem me_var {i : Nat} {e : Expr} (h : PE X e (tVar i)) : ME X W e (eVar i) := pe_imp h fun σ H Q ⟨m, S, ρ, rs, re, h⟩ => by
  unfold eVar at h
  split at h
  · rename_i d e
    obtain ⟨v, a, b⟩ := re i d e
    exact ⟨v, a, h m H v (Fin.refl rs) b⟩
  · exact h.elim
def eC (d : D) : Ex := fun _ S => .ok d S
theorem me_c {e : Expr} {v : V} {d : D} (h : PE X e (tC v)) (r : ∀ m N H, Rv X.K m N H d v) : ME X W e (eC d) := pe_imp h fun σ H Q ⟨m, S, ρ, rs, re, h⟩ => h m H v (Fin.refl rs) (r m _ H)
theorem me_int {i : Int} {j pos} : ME X W (.Constant (.int i) j pos) (eC (.int i)) := me_c pe_int fun _ _ _ => rfl
theorem me_bl {b : Bool} {j pos} : ME X W (.Constant (.bool b) j pos) (eC (.bl b)) := me_c pe_bl fun _ _ _ => rfl
theorem me_non {j pos} : ME X W (.Constant .none j pos) (eC .non) := me_c pe_non fun _ _ _ => rfl
theorem me_str {x : Str} {j pos} : ME X W (.Constant (.str x) j pos) (eC (.str x)) := me_c pe_str fun _ _ _ => rfl

/-! ### argument lists, displays -/
def aNil : Ax := fun _ S => .ok [] S
def aCons (f : Ex) (g : Ax) : Ax := bnd f fun d ρ S1 => (g ρ S1).bind fun ds S2 => .ok (d :: ds) S2
theorem ma_nil : MA X W [] aNil := pa_imp pa_nil fun σ H Q ⟨m, S, ρ, rs, re, h⟩ => h m H [] (Fin.refl rs) Rvs.nil
theorem ma_cons {e : Expr} {es : List Expr} {f : Ex} {g : Ax} (h1 : ME X W e f) (h2 : MA X W es g) (hs : starEach (e :: es) X.env = (false, eval e X.env) :: starEach es X.env := by rfl) : MA X W (e :: es) (aCons f g) :=
  pa_imp (pa_cons h1 h2 hs) fun σ H Q h => by
    obtain ⟨m, S, ρ, rs, re, h⟩ := tX_bind (P := Rv X.K) (f := f) h
    refine ⟨m, S, ρ, rs, re, h.mono fun v H1 ⟨m1, S1, d, ρ1, rs1, re1, p, q⟩ => ?_⟩
    refine ⟨m1, S1, ρ1, rs1, re1, (Aft.bind (P := Rvs X.K) q).mono fun vs H2 ⟨m2, S2, ds, g2, ps, q2⟩ => ?_⟩
    exact q2 m2 H2 _ (Fin.refl g2.rs) (Rvs.cons (g2.rv p) ps)
end
end M1

end

section
set_option maxRecDepth 100000
set_option maxHeartbeats 2000000
/-! M2: operators, comparisons, tests, subscripts by values -/
namespace M1
open PySem PySem.Spec PyProof.Rows L2

abbrev O (α : Type) := Option (α × Store)
/-- what an operation that raises nothing asks -/
def Ok1 {α β : Type} (K : PySem.W.Frag) (P : (Nat → Addr) → Nat → Hp → α → β → Prop) (o : O α) (m : Nat → Addr) (S : Store) (H : Hp) (Q : β → Hp → Prop) : Prop :=
  ∃ d S', o = some (d, S') ∧ ∀ m' H' v, Fin K m S H m' S' H' → P m' S'.length H' d v → Q v H'
section
variable {K : PySem.W.Frag} {m m1 m2 : Nat → Addr} {N : Nat} {H H1 H2 : Hp} {S S1 S2 : Store} {σ : St} {W : WX}
theorem Ok1.of {α β : Type} {P : (Nat → Addr) → Nat → Hp → α → β → Prop} {o : O α} {Q : β → Hp → Prop} (h : Aft K P W (R.of o) m S H σ Q) : Ok1 K P o m S H Q := by
  cases o with
  | none => exact h.elim
  | some p => exact ⟨p.1, p.2, rfl, h⟩
/-- relations of a two-place operation -/
def rO2 (K : PySem.W.Frag) (g : D → D → Store → O D) : R2 := fun v u H Q => ∃ m S x y, RS K m S H ∧ Rv K m S.length H x v ∧ Rv K m S.length H y u ∧ Ok1 K (Rv K) (g x y S) m S H Q
def rO1 (K : PySem.W.Frag) (g : D → Store → O D) : V → Hp → VK → Prop := fun v H Q => ∃ m S x, RS K m S H ∧ Rv K m S.length H x v ∧ Ok1 K (Rv K) (g x S) m S H Q
def rOL (K : PySem.W.Frag) (g : List D → Store → O D) : List V → Hp → VK → Prop := fun vs H Q => ∃ m S xs, RS K m S H ∧ Rvs K m S.length H xs vs ∧ Ok1 K (Rv K) (g xs S) m S H Q
def rOM (K : PySem.W.Frag) (g : D → List D → Store → O D) : V → List V → Hp → VK → Prop := fun v vs H Q => ∃ m S x xs, RS K m S H ∧ Rv K m S.length H x v ∧ Rvs K m S.length H xs vs ∧ Ok1 K (Rv K) (g x xs S) m S H Q

/-! ### what a value's form says -/
theorem Rv.int {i : Int} {v : V} (h : Rv K m N H (.int i) v) : v = .int i := h
theorem Rv.str {i : Str} {v : V} (h : Rv K m N H (.str i) v) : v = .str i := h
theorem Rv.loc {n : Nat} {v : V} (h : Rv K m N H (.loc n) v) : n < N ∧ v = .ref (m n) := by simpa only [Rv] using h
theorem Rv.tup {ds : List D} {v : V} (h : Rv K m N H (.tup ds) v) : ∃ a vs, v = .ref a ∧ SqT K H a vs ∧ Rvs K m N H ds vs := by simpa only [Rv] using h
theorem Rv.mk_int {i : Int} : Rv K m N H (.int i) (.int i) := rfl
theorem Rv.mk_loc {n : Nat} (h : n < N) : Rv K m N H (.loc n) (.ref (m n)) := by simp only [Rv]; exact ⟨h, trivial⟩
theorem Rv.mk_tup {ds : List D} {vs : List V} {a : Addr} (h : SqT K H a vs) (r : Rvs K m N H ds vs) : Rv K m N H (.tup ds) (.ref a) := by simp only [Rv]; exact ⟨a, vs, rfl, h, r⟩
/-- the ends of an operation: a value over the same store; a new tuple; a new list -/
theorem Ok1.same {d : D} {v : V} {Q : VK} {o : O D} (h : Ok1 K (Rv K) o m S H Q) (rs : RS K m S H) (e : o = some (d, S)) (r : Rv K m S.length H d v) : Q v H := by
  obtain ⟨d', S', e', q⟩ := h
  rw [e] at e'; cases e'
  exact q m H v (Fin.refl rs) r
theorem Ok1.tup {ds : List D} {vs : List V} {Q : VK} {o : O D} (h : Ok1 K (Rv K) o m S H Q) (rs : RS K m S H) (e : o = some (.tup ds, S)) (r : Rvs K m S.length H ds vs) {p : Addr} (hp : H p = none) : Q (.ref p) (upd H p (.tup vs)) := by
  obtain ⟨d', S', e', q⟩ := h
  rw [e] at e'; cases e'
  have f : Fin K m S H m S (upd H p (.tup vs)) := Fin.junk rs hp
  exact q m _ _ f (Rv.mk_tup (SqT.of upd_same) (f.rvs r))
theorem Ok1.lst {ds : List D} {vs : List V} {Q : VK} {o : O D} (h : Ok1 K (Rv K) o m S H Q) (rs : RS K m S H) (e : o = some (.loc S.length, S ++ [.lst ds])) (r : Rvs K m S.length H ds vs) {p : Addr} (hp : H p = none) : Q (.ref p) (upd H p (.lst vs)) := by
  obtain ⟨d', S', e', q⟩ := h
  rw [e] at e'; cases e'
  have f : Fin K m S H (ext1 m S.length p) (S ++ [.lst ds]) (upd H p (.lst vs)) := Fin.new rs hp ⟨vs, upd_same, r.up (Nat.le_succ _) (fun n hn => ext1_old hn) (Mono.new hp)⟩
  have : Rv K (ext1 m S.length p) (S ++ [SO.lst ds]).length (upd H p (.lst vs)) (.loc S.length) (.ref (ext1 m S.length p S.length)) := Rv.mk_loc (by simp)
  rw [ext1_new] at this
  exact q _ _ _ f this

/-- a list that is read -/
def lstOf (S : Store) (n : Nat) : Option (List D) := match S[n]? with
  | some (.lst xs) => some xs
  | some (.frz xs) => some xs
  | _ => none
theorem RS.list {n : Nat} {xs : List D} (rs : RS K m S H) (e : lstOf S n = some xs) : ∃ vs, SqL K H (m n) vs ∧ Rvs K m S.length H xs vs := by
  unfold lstOf at e
  split at e
  · rename_i ys h
    cases e
    obtain ⟨vs, q, r⟩ := rs.at_ n _ h
    exact ⟨vs, .inl (.inl q), r⟩
  · rename_i ys h
    cases e
    obtain ⟨vs, q, r⟩ := rs.at_ n _ h
    exact ⟨vs, q.elim (fun ⟨o, q⟩ => .inl (.inr ⟨o, q⟩)) .inr, r⟩
  · cases e
/-- a list that may be changed -/
def lstW (S : Store) (n : Nat) : Option (List D) := match S[n]? with
  | some (.lst xs) => some xs
  | _ => none
theorem RS.listW {n : Nat} {xs : List D} (rs : RS K m S H) (e : lstW S n = some xs) : S[n]? = some (.lst xs) ∧ ∃ vs, H (m n) = some (.lst vs) ∧ Rvs K m S.length H xs vs := by
  unfold lstW at e
  split at e
  · rename_i ys h
    cases e
    exact ⟨h, rs.at_ n _ h⟩
  · cases e

/-! ### deep data, for == -/
def toPy (S : Store) : Nat → D → Option PyData
  | _, .non => some .none
  | _, .bl b => some (.bool b)
  | _, .int i => some (.int i)
  | _, .str x => some (.str x)
  | f + 1, .tup ds => (ds.mapM (toPy S f)).map .tuple
  | f + 1, .loc n => (lstOf S n).bind fun xs => (xs.mapM (toPy S f)).map .list
  | _, _ => none
theorem mapM_dp (rs : RS K m S H) {f : D → Option PyData} (hf : ∀ d v p, f d = some p → Rv K m S.length H d v → Dp K H v p) : ∀ (ds : List D) (vs : List V) (ps : List PyData), ds.mapM f = some ps → Rvs K m S.length H ds vs → DpAll K H vs ps
  | [], vs, ps, e, r => by
    simp only [Rvs] at r
    subst r
    simp at e
    subst e
    exact .nil
  | d :: ds, vs, ps, e, r => by
    simp only [Rvs] at r
    obtain ⟨v, r', rfl, r1, r2⟩ := r
    simp only [List.mapM_cons] at e
    cases h1 : f d with
    | none => rw [h1] at e; simp at e
    | some p =>
      cases h2 : ds.mapM f with
      | none => rw [h1, h2] at e; simp at e
      | some qs =>
        rw [h1, h2] at e
        simp at e
        subst e
        exact .cons (hf d v p h1 r1) (mapM_dp rs hf ds r' qs h2 r2)
theorem toPy_dp (rs : RS K m S H) : ∀ (f : Nat) (d : D) (v : V) (p : PyData), toPy S f d = some p → Rv K m S.length H d v → Dp K H v p
  | f, .non, v, p, e, r => by cases f <;> (simp [toPy] at e; subst e; cases r; exact .non)
  | f, .bl b, v, p, e, r => by cases f <;> (simp [toPy] at e; subst e; cases r; exact .bl b)
  | f, .int i, v, p, e, r => by cases f <;> (simp [toPy] at e; subst e; cases r; exact .int i)
  | f, .str x, v, p, e, r => by cases f <;> (simp [toPy] at e; subst e; cases r; exact .str x)
  | f, .byt x, v, p, e, r => by cases f <;> simp [toPy] at e
  | f, .ty x, v, p, e, r => by cases f <;> simp [toPy] at e
  | f, .gl x, v, p, e, r => by cases f <;> simp [toPy] at e
  | 0, .tup ds, v, p, e, r => by simp [toPy] at e
  | 0, .loc ds, v, p, e, r => by simp [toPy] at e
  | f + 1, .tup ds, v, p, e, r => by
    simp only [toPy, Option.map_eq_some_iff] at e
    obtain ⟨ps, e1, rfl⟩ := e
    obtain ⟨a, vs, rfl, q, r2⟩ := r.tup
    exact .tup q (mapM_dp rs (toPy_dp rs f) ds vs ps e1 r2)
  | f + 1, .loc n, v, p, e, r => by
    simp only [toPy, Option.bind_eq_some_iff, Option.map_eq_some_iff] at e
    obtain ⟨xs, e0, ps, e1, rfl⟩ := e
    obtain ⟨hn, rfl⟩ := r.loc
    obtain ⟨vs, q, r2⟩ := rs.list e0
    exact .lst q (mapM_dp rs (toPy_dp rs f) xs vs ps e1 r2)
end

/-! ### the operations -/
def opAdd (x y : D) (S : Store) : O D := match x, y with
  | .int i, .int j => some (.int (i + j), S)
  | .str a, .str b => if a.length + b.length ≤ sizeLine then some (.str (a ++ b), S) else none
  | .tup a, .tup b => if a.length + b.length ≤ sizeLine then some (.tup (a ++ b), S) else none
  | .loc i, .loc j => (lstW S i).bind fun a => (lstW S j).bind fun b => if a.length + b.length ≤ sizeLine then some (.loc S.length, S ++ [.lst (a ++ b)]) else none
  | _, _ => none
def opSub (x y : D) (S : Store) : O D := match x, y with
  | .int i, .int j => some (.int (i - j), S)
  | _, _ => none
def small64 (i : Int) : Bool := decide (-(2 ^ 64) < i) && decide (i < 2 ^ 64)
def opMul (x y : D) (S : Store) : O D := match x, y with
  | .int i, .int j => if small64 i || small64 j then some (.int (i * j), S) else none
  | .loc l, .int k => (lstW S l).bind fun a => if -(2 ^ 63) ≤ k ∧ k < 2 ^ 63 ∧ a.length * k.toNat ≤ sizeLine then some (.loc S.length, S ++ [.lst (List.replicate k.toNat a).flatten]) else none
  | _, _ => none
def opFdiv (x y : D) (S : Store) : O D := match x, y with
  | .int i, .int j => if 0 < j ∧ j < 1073741824 then some (.int (i / j), S) else none
  | _, _ => none
def opMod (x y : D) (S : Store) : O D := match x, y with
  | .int i, .int j => if 0 < j then some (.int (i % j), S) else none
  | _, _ => none
def opPow (x y : D) (S : Store) : O D := match x, y with
  | .int i, .int j => if 0 ≤ j ∧ j ≤ 1000000 ∧ i.natAbs < 2 ^ 64 then some (.int (i ^ j.toNat), S) else none
  | _, _ => none
def opAnd (x y : D) (S : Store) : O D := match x, y with
  | .int i, .int j => some (.int (Builtin.bitAnd i j), S)
  | _, _ => none
def cmpI (p : Int → Int → Bool) (x y : D) (S : Store) : O D := match x, y with
  | .int i, .int j => some (.bl (p i j), S)
  | _, _ => none
abbrev opLt := cmpI fun i j => decide (i < j)
abbrev opLe := cmpI fun i j => decide (i ≤ j)
abbrev opGt := cmpI fun i j => decide (j < i)
abbrev opGe := cmpI fun i j => decide (j ≤ i)
def pyEq (S : Store) (x y : D) : Option Bool := (toPy S 60 x).bind fun d => (toPy S 60 y).bind fun e => if SeqAt.shaped d = true ∧ SeqAt.shaped e = true then some (PyData.eqv d e) else none
def opEq (x y : D) (S : Store) : O D := (pyEq S x y).map fun b => (.bl b, S)
def opNe (x y : D) (S : Store) : O D := (pyEq S x y).map fun b => (.bl (!b), S)
def isN : D → Bool
  | .non => true
  | _ => false
def opIsN (x y : D) (S : Store) : O D := match y with
  | .non => some (.bl (isN x), S)
  | _ => none
def opNotN (x y : D) (S : Store) : O D := match y with
  | .non => some (.bl (!isN x), S)
  | _ => none

section
variable {X : Cx} {W : WX}
theorem opp_add : OpR X (binaryOp .Add) (rO2 X.K opAdd) := by
  intro pins s σ H v u vv uu Q I rv ru h
  obtain ⟨m, S, x, y, rs, rx, ry, ok⟩ := h
  unfold opAdd at ok
  split at ok
  · cases rx; cases ry
    exact op_add pins s σ H _ _ vv uu Q I rv ru ⟨_, _, rfl, rfl, ok.same rs rfl rfl⟩
  · cases rx; cases ry
    split at ok
    · rename_i hz
      exact op_add_str pins s σ H _ _ vv uu Q I rv ru ⟨_, _, rfl, rfl, hz, ok.same rs rfl rfl⟩
    · obtain ⟨_, _, e, _⟩ := ok; cases e
  · split at ok
    · rename_i a b hz
      obtain ⟨p, vs, rfl, q1, r1⟩ := rx.tup
      obtain ⟨p2, us, rfl, q2, r2⟩ := ry.tup
      have l1 := r1.length
      have l2 := r2.length
      refine op_catA pins s σ H _ _ vv uu Q I rv ru ⟨p, p2, vs, us, rfl, rfl, q1, q2, by omega, fun e => ?_, fun _ e => ?_, fun _ _ q hq => ?_⟩
      · subst e
        refine ok.same rs rfl ?_
        have : a = [] := by cases a; rfl; simp at l1
        subst this
        exact Rv.mk_tup q2 (by simpa using r2)
      · subst e
        refine ok.same rs rfl ?_
        have : b = [] := by cases b; rfl; simp at l2
        subst this
        exact Rv.mk_tup q1 (by simpa using r1)
      · exact ok.tup rs rfl (r1.append r2) hq
    · obtain ⟨_, _, e, _⟩ := ok; cases e
  · rename_i i j
    cases ha : lstW S i with
    | none => rw [ha] at ok; obtain ⟨_, _, e, _⟩ := ok; cases e
    | some a =>
      cases hb : lstW S j with
      | none => rw [ha, hb] at ok; obtain ⟨_, _, e, _⟩ := ok; cases e
      | some b =>
        rw [ha, hb] at ok
        simp only [Option.bind_some] at ok
        split at ok
        · rename_i hz
          obtain ⟨_, rfl⟩ := rx.loc
          obtain ⟨_, rfl⟩ := ry.loc
          obtain ⟨_, vs, q1, r1⟩ := rs.listW ha
          obtain ⟨_, us, q2, r2⟩ := rs.listW hb
          have l1 := r1.length
          have l2 := r2.length
          exact op_cat pins s σ H _ _ vv uu Q I rv ru ⟨_, _, vs, us, rfl, rfl, q1, q2, by omega, fun p hp => ok.lst rs rfl (r1.append r2) hp⟩
        · obtain ⟨_, _, e, _⟩ := ok; cases e
  · obtain ⟨_, _, e, _⟩ := ok; cases e
theorem opp_sub : OpR X (binaryOp .Sub) (rO2 X.K opSub) := by
  intro pins s σ H v u vv uu Q I rv ru h
  obtain ⟨m, S, x, y, rs, rx, ry, ok⟩ := h
  unfold opSub at ok
  split at ok
  · cases rx; cases ry
    exact op_sub pins s σ H _ _ vv uu Q I rv ru ⟨_, _, rfl, rfl, ok.same rs rfl rfl⟩
  · obtain ⟨_, _, e, _⟩ := ok; cases e
theorem Rvs.rep {K : PySem.W.Frag} {m : Nat → Addr} {N : Nat} {H : Hp} {a : List D} {vs : List V} (r : Rvs K m N H a vs) : ∀ k : Nat, Rvs K m N H (List.replicate k a).flatten (List.replicate k vs).flatten
  | 0 => by simp [Rvs]
  | k + 1 => by simp only [List.replicate_succ, List.flatten_cons]; exact r.append (Rvs.rep r k)
theorem opp_mul : OpR X (binaryOp .Mult) (rO2 X.K opMul) := by
  intro pins s σ H v u vv uu Q I rv ru h
  obtain ⟨m, S, x, y, rs, rx, ry, ok⟩ := h
  unfold opMul at ok
  split at ok
  · cases rx; cases ry
    split at ok
    · rename_i hz
      refine op_mul pins s σ H _ _ vv uu Q I rv ru ⟨_, _, rfl, rfl, ?_, ok.same rs rfl rfl⟩
      simp only [small64, Bool.or_eq_true, Bool.and_eq_true, decide_eq_true_eq] at hz
      exact hz
    · obtain ⟨_, _, e, _⟩ := ok; cases e
  · rename_i l k
    cases ha : lstW S l with
    | none => rw [ha] at ok; obtain ⟨_, _, e, _⟩ := ok; cases e
    | some a =>
      rw [ha] at ok
      simp only [Option.bind_some] at ok
      split at ok
      · rename_i hz
        obtain ⟨_, rfl⟩ := rx.loc
        cases ry
        obtain ⟨_, vs, q1, r1⟩ := rs.listW ha
        have l1 := r1.length
        exact op_rep pins s σ H _ _ vv uu Q I rv ru ⟨_, _, vs, rfl, rfl, q1, hz.1, hz.2.1, by rw [l1]; exact hz.2.2, fun p hp => ok.lst rs rfl (r1.rep _) hp⟩
      · obtain ⟨_, _, e, _⟩ := ok; cases e
  · obtain ⟨_, _, e, _⟩ := ok; cases e
theorem opp_fdiv : OpR X (binaryOp .FloorDiv) (rO2 X.K opFdiv) := by
  intro pins s σ H v u vv uu Q I rv ru h
  obtain ⟨m, S, x, y, rs, rx, ry, ok⟩ := h
  unfold opFdiv at ok
  split at ok
  · cases rx; cases ry
    split at ok
    · rename_i hz
      exact op_fdiv pins s σ H _ _ vv uu Q I rv ru ⟨_, _, rfl, rfl, hz, ok.same rs rfl rfl⟩
    · obtain ⟨_, _, e, _⟩ := ok; cases e
  · obtain ⟨_, _, e, _⟩ := ok; cases e
theorem opp_mod : OpR X (binaryOp .Mod) (rO2 X.K opMod) := by
  intro pins s σ H v u vv uu Q I rv ru h
  obtain ⟨m, S, x, y, rs, rx, ry, ok⟩ := h
  unfold opMod at ok
  split at ok
  · cases rx; cases ry
    split at ok
    · rename_i hz
      exact op_mod pins s σ H _ _ vv uu Q I rv ru ⟨_, _, rfl, rfl, hz, ok.same rs rfl rfl⟩
    · obtain ⟨_, _, e, _⟩ := ok; cases e
  · obtain ⟨_, _, e, _⟩ := ok; cases e
theorem opp_pow : OpR X (binaryOp .Pow) (rO2 X.K opPow) := by
  intro pins s σ H v u vv uu Q I rv ru h
  obtain ⟨m, S, x, y, rs, rx, ry, ok⟩ := h
  unfold opPow at ok
  split at ok
  · cases rx; cases ry
    split at ok
    · rename_i hz
      exact op_pow pins s σ H _ _ vv uu Q I rv ru ⟨_, _, rfl, rfl, hz, ok.same rs rfl rfl⟩
    · obtain ⟨_, _, e, _⟩ := ok; cases e
  · obtain ⟨_, _, e, _⟩ := ok; cases e
theorem opp_and : OpR X (binaryOp .BitAnd) (rO2 X.K opAnd) := by
  intro pins s σ H v u vv uu Q I rv ru h
  obtain ⟨m, S, x, y, rs, rx, ry, ok⟩ := h
  unfold opAnd at ok
  split at ok
  · cases rx; cases ry
    exact op_and pins s σ H _ _ vv uu Q I rv ru ⟨_, _, rfl, rfl, ok.same rs rfl rfl⟩
  · obtain ⟨_, _, e, _⟩ := ok; cases e
theorem opp_cmpI {f : Value → Value → Sem Value} {p : Int → Int → Bool} (ho : OpR X f (rI0 fun i j => .bl (p i j))) : OpR X f (rO2 X.K (cmpI p)) := by
  intro pins s σ H v u vv uu Q I rv ru h
  obtain ⟨m, S, x, y, rs, rx, ry, ok⟩ := h
  unfold cmpI at ok
  split at ok
  · cases rx; cases ry
    exact ho pins s σ H _ _ vv uu Q I rv ru ⟨_, _, rfl, rfl, ok.same rs rfl rfl⟩
  · obtain ⟨_, _, e, _⟩ := ok; cases e
theorem opp_lt : OpR X (compareOp .Lt) (rO2 X.K opLt) := opp_cmpI op_lt
theorem opp_le : OpR X (compareOp .LtE) (rO2 X.K opLe) := opp_cmpI op_le
theorem opp_gt : OpR X (compareOp .Gt) (rO2 X.K opGt) := opp_cmpI op_gt
theorem opp_ge : OpR X (compareOp .GtE) (rO2 X.K opGe) := opp_cmpI op_ge
theorem pyEq_some {S : Store} {x y : D} {b : Bool} (h : pyEq S x y = some b) : ∃ d e, toPy S 60 x = some d ∧ toPy S 60 y = some e ∧ SeqAt.shaped d = true ∧ SeqAt.shaped e = true ∧ PyData.eqv d e = b := by
  unfold pyEq at h
  simp only [Option.bind_eq_some_iff] at h
  obtain ⟨d, h1, e, h2, h3⟩ := h
  split at h3
  · rename_i hs
    cases h3
    exact ⟨d, e, h1, h2, hs.1, hs.2, rfl⟩
  · cases h3
theorem opp_eq (hu : X.A.units + 64 < cLine) : OpR X (compareOp .Eq) (rO2 X.K opEq) := by
  intro pins s σ H v u vv uu Q I rv ru h
  obtain ⟨m, S, x, y, rs, rx, ry, ok⟩ := h
  unfold opEq at ok
  cases hb : pyEq S x y with
  | none => rw [hb] at ok; obtain ⟨_, _, e, _⟩ := ok; cases e
  | some b =>
    rw [hb] at ok
    obtain ⟨d, e, h1, h2, h3, h4, rfl⟩ := pyEq_some hb
    exact op_eqD hu pins s σ H _ _ vv uu Q I rv ru ⟨d, e, toPy_dp rs 60 x v d h1 rx, toPy_dp rs 60 y u e h2 ry, h3, h4, ok.same rs rfl rfl⟩
theorem opp_ne (hu : X.A.units + 64 < cLine) : OpR X (compareOp .NotEq) (rO2 X.K opNe) := by
  intro pins s σ H v u vv uu Q I rv ru h
  obtain ⟨m, S, x, y, rs, rx, ry, ok⟩ := h
  unfold opNe at ok
  cases hb : pyEq S x y with
  | none => rw [hb] at ok; obtain ⟨_, _, e, _⟩ := ok; cases e
  | some b =>
    rw [hb] at ok
    obtain ⟨d, e, h1, h2, h3, h4, rfl⟩ := pyEq_some hb
    exact op_neD hu pins s σ H _ _ vv uu Q I rv ru ⟨d, e, toPy_dp rs 60 x v d h1 rx, toPy_dp rs 60 y u e h2 ry, h3, h4, ok.same rs rfl rfl⟩
theorem isN_of {K : PySem.W.Frag} {m : Nat → Addr} {N : Nat} {H : Hp} {x : D} {v : V} (r : Rv K m N H x v) : isN x = decide (v = .non) := by
  cases x <;> first
    | (obtain ⟨_, rfl⟩ := r.loc; simp [isN])
    | (obtain ⟨_, _, rfl, _⟩ := r.tup; simp [isN])
    | (cases r; simp [isN])
theorem opp_isN : OpR X (compareOp .Is) (rO2 X.K opIsN) := by
  intro pins s σ H v u vv uu Q I rv ru h
  obtain ⟨m, S, x, y, rs, rx, ry, ok⟩ := h
  unfold opIsN at ok
  split at ok
  · cases ry
    exact op_isN pins s σ H _ _ vv uu Q I rv ru ⟨rfl, by rw [← isN_of rx]; exact ok.same rs rfl rfl⟩
  · obtain ⟨_, _, e, _⟩ := ok; cases e
theorem opp_notN : OpR X (compareOp .IsNot) (rO2 X.K opNotN) := by
  intro pins s σ H v u vv uu Q I rv ru h
  obtain ⟨m, S, x, y, rs, rx, ry, ok⟩ := h
  unfold opNotN at ok
  split at ok
  · cases ry
    exact op_notN pins s σ H _ _ vv uu Q I rv ru ⟨rfl, by rw [← isN_of rx]; exact ok.same rs rfl rfl⟩
  · obtain ⟨_, _, e, _⟩ := ok; cases e

/-! ### expressions of them -/
def eOp (g : D → D → Store → O D) (f h : Ex) : Ex := bnd f fun x ρ S1 => (h ρ S1).bind fun y S2 => R.of (g x y S2)
theorem tOp_of {K : PySem.W.Frag} {g : D → D → Store → O D} {f h : Ex} {σ : St} {H : Hp} {Q : VK} (q : tE K W (eOp g f h) σ H Q) : tOp (rO2 K g) (tE K W f) (tE K W h) σ H Q := by
  obtain ⟨m, S, ρ, rs, re, q⟩ := tX_bind (P := Rv K) (f := f) q
  refine ⟨m, S, ρ, rs, re, q.mono fun v H1 ⟨m1, S1, d, ρ1, rs1, re1, p, q1⟩ => ?_⟩
  refine ⟨m1, S1, ρ1, rs1, re1, (Aft.bind (P := Rv K) q1).mono fun u H2 ⟨m2, S2, d2, g2, p2, q2⟩ => ?_⟩
  exact ⟨m2, S2, d, d2, g2.rs, g2.rv p, p2, Ok1.of q2⟩
theorem me_op {op : Operator} {a b : Expr} {pos : Pos} {g : D → D → Store → O D} {f h : Ex} (ho : OpR X (binaryOp op) (rO2 X.K g)) (ha : ME X W a f) (hb : ME X W b h) : ME X W (.BinOp a op b pos) (eOp g f h) :=
  pe_imp (pe_op ho ha hb) fun _ _ _ => tOp_of
theorem me_cmp {op : CmpOp} {a b : Expr} {pos : Pos} {g : D → D → Store → O D} {f h : Ex} (ho : OpR X (compareOp op) (rO2 X.K g)) (ha : ME X W a f) (hb : ME X W b h) (hm : behindInMarks op b = false) : ME X W (.Compare a [op] [b] pos) (eOp g f h) :=
  pe_imp (pe_cmpR ho ha hb hm) fun _ _ _ => tOp_of
/-- a value as a test -/
def toB : D → Store → R Bool := fun d S => match d with
  | .bl b => .ok b S
  | _ => .er
def tBl (f : Ex) : Tx := bnd f fun d _ S1 => toB d S1
theorem tTest_of {K : PySem.W.Frag} {f : Ex} {σ : St} {H : Hp} {Q : Bool → Hp → Prop} (q : tT K W (tBl f) σ H Q) : tE K W f σ H fun x H' => ∃ k, x = .bl k ∧ Q k H' := by
  obtain ⟨m, S, ρ, rs, re, q⟩ := tX_bind (P := Rv K) (f := f) q
  refine ⟨m, S, ρ, rs, re, q.mono fun v H1 ⟨m1, S1, d, ρ1, rs1, re1, p, q1⟩ => ?_⟩
  unfold toB at q1
  split at q1
  · cases p
    exact ⟨_, rfl, q1 m1 H1 _ (Fin.refl rs1) rfl⟩
  · exact q1.elim
theorem tOp_mono {K : PySem.W.Frag} {r : R2} {f h : Ex} {σ : St} {H : Hp} {Q Q' : VK} (hr : ∀ x y H Q Q', (∀ v H, Q v H → Q' v H) → r x y H Q → r x y H Q') (hq : ∀ v H, Q v H → Q' v H) (q : tOp r (tE K W f) (tE K W h) σ H Q) : tOp r (tE K W f) (tE K W h) σ H Q' := by
  obtain ⟨m, S, ρ, rs, re, q⟩ := q
  refine ⟨m, S, ρ, rs, re, q.mono fun v H1 ⟨m1, S1, ρ1, rs1, re1, q1⟩ => ⟨m1, S1, ρ1, rs1, re1, q1.mono fun u H2 q2 => hr _ _ _ _ _ hq q2⟩⟩
theorem mt_cmp {op : CmpOp} {a b : Expr} {pos : Pos} {g : D → D → Store → O D} {f h : Ex} (ho : OpR X (compareOp op) (rO2 X.K g)) (ha : ME X W a f) (hb : ME X W b h) (hm : behindInMarks op b = false) : MT X W (.Compare a [op] [b] pos) (tBl (eOp g f h)) :=
  pt_imp (pt_cmpR ho ha hb hm) fun _ _ _ q => tOp_of (tTest_of q)
/-- a op b op' c -/
def eCh (g g' : D → D → Store → O D) (f h k : Ex) : Ex := bnd f fun x ρ S1 => (h ρ S1).bind fun y S2 => (R.of (g x y S2)).bind fun z S3 => (toB z S3).bind fun c S4 => if c = true then (k ρ S4).bind fun w S5 => R.of (g' y w S5) else .ok (.bl false) S4
theorem tChain_of {K : PySem.W.Frag} {g g' : D → D → Store → O D} {f h k : Ex} {σ : St} {H : Hp} {Q : VK} (q : tE K W (eCh g g' f h k) σ H Q) : tChain (rO2 K g) (rO2 K g') (tE K W f) (tE K W h) (tE K W k) σ H Q := by
  obtain ⟨m, S, ρ, rs, re, q⟩ := tX_bind (P := Rv K) (f := f) q
  refine ⟨m, S, ρ, rs, re, q.mono fun v H1 ⟨m1, S1, d, ρ1, rs1, re1, p, q1⟩ => ?_⟩
  refine ⟨m1, S1, ρ1, rs1, re1, (Aft.bind (P := Rv K) q1).mono fun u H2 ⟨m2, S2, d2, g2, p2, q2⟩ => ?_⟩
  have q3 := Aft.bind (P := Rv K) q2
  refine ⟨m2, S2, d, d2, g2.rs, g2.rv p, p2, ?_⟩
  obtain ⟨z, S3, e, q4⟩ := Ok1.of q3
  refine ⟨z, S3, e, fun m3 H3 w g3 p3 => ?_⟩
  obtain ⟨m4, S4, d4, g4, p4, q5⟩ := q4 m3 H3 w g3 p3
  unfold toB at q5
  split at q5
  · rename_i b
    cases p4
    refine ⟨b, rfl, ?_⟩
    cases b with
    | true =>
      simp only [R.bind, if_true] at q5 ⊢
      refine ⟨m4, S4, ρ1, g4.rs, g4.renv (g2.renv re1), (Aft.bind (P := Rv K) q5).mono fun u5 H5 ⟨m5, S5, d5, g5, p5, q6⟩ => ?_⟩
      exact ⟨m5, S5, d2, d5, g5.rs, g5.rv (g4.rv p2), p5, Ok1.of q6⟩
    | false =>
      simp only [R.bind, Bool.false_eq_true, if_false] at q5 ⊢
      exact q5 m4 H3 _ (Fin.refl g4.rs) rfl
  · exact q5.elim
theorem me_chain {op op' : CmpOp} {a b c : Expr} {pos : Pos} {g g' : D → D → Store → O D} {f h k : Ex} (ho : OpR X (compareOp op) (rO2 X.K g)) (ho' : OpR X (compareOp op') (rO2 X.K g')) (ha : ME X W a f) (hb : ME X W b h) (hc : ME X W c k)
    (hm : lastMarks [op, op'] [b, c] = false := by with_unfolding_all rfl) : ME X W (.Compare a [op, op'] [b, c] pos) (eCh g g' f h k) :=
  pe_imp (pe_chain ho ho' ha hb hc hm) fun _ _ _ => tChain_of
theorem mt_chain {op op' : CmpOp} {a b c : Expr} {pos : Pos} {g g' : D → D → Store → O D} {f h k : Ex} (ho : OpR X (compareOp op) (rO2 X.K g)) (ho' : OpR X (compareOp op') (rO2 X.K g')) (ha : ME X W a f) (hb : ME X W b h) (hc : ME X W c k)
    (hm : lastMarks [op, op'] [b, c] = false := by with_unfolding_all rfl) : MT X W (.Compare a [op, op'] [b, c] pos) (tBl (eCh g g' f h k)) :=
  pt_imp (pt_chain ho ho' ha hb hc hm) fun _ _ _ q => tChain_of (tTest_of q)
end
end M1

end

section
set_option maxRecDepth 100000
set_option maxHeartbeats 2000000
/-! M3: tests, and/or/not, displays, subscripts, slices, fields, built-in calls -/
namespace M1
open PySem PySem.Spec PyProof.Rows L2

/-! ### truth, and, or, not, if -/
def truD (S : Store) : D → Option Bool
  | .non => some false
  | .bl b => some b
  | .int i => some (i != 0)
  | .str y => if y.length ≤ sizeLine then some ((y.length : Int) != 0) else none
  | .tup ds => some (!ds.isEmpty)
  | .loc n => (lstOf S n).map fun xs => !xs.isEmpty
  | _ => none
theorem isEmpty_rvs {K : PySem.W.Frag} {m : Nat → Addr} {N : Nat} {H : Hp} {ds : List D} {vs : List V} (r : Rvs K m N H ds vs) : (!ds.isEmpty) = !vs.isEmpty := by
  have := r.length
  cases ds <;> cases vs <;> simp_all
theorem truD_ok {K : PySem.W.Frag} {m : Nat → Addr} {S : Store} {H : Hp} {d : D} {v : V} {b : Bool} (rs : RS K m S H) (r : Rv K m S.length H d v) (e : truD S d = some b) : TruV K v H b := by
  cases d with
  | non => cases r; simp only [truD, Option.some.injEq] at e; exact e.symm
  | bl c => cases r; simp only [truD, Option.some.injEq] at e; exact e.symm
  | int i => cases r; simp only [truD, Option.some.injEq] at e; exact e.symm
  | str y =>
    cases r
    simp only [truD] at e
    split at e
    · rename_i hz; simp only [Option.some.injEq] at e; exact ⟨hz, e.symm⟩
    · cases e
  | tup ds =>
    obtain ⟨a, vs, rfl, q, r2⟩ := r.tup
    simp only [truD, Option.some.injEq] at e
    exact .inr (.inl ⟨vs, q, by rw [← isEmpty_rvs r2]; exact e.symm⟩)
  | loc n =>
    obtain ⟨hn, rfl⟩ := r.loc
    simp only [truD, Option.map_eq_some_iff] at e
    obtain ⟨xs, e1, e2⟩ := e
    obtain ⟨vs, q, r2⟩ := rs.list e1
    exact .inl ⟨vs, q, by rw [← isEmpty_rvs r2]; exact e2.symm⟩
  | _ => simp [truD] at e
def tTru (f : Ex) : Tx := bnd f fun d ρ S1 => match truD S1 d with
  | some b => .ok b S1
  | none => .er
def tAndM (f g : Tx) : Tx := bnd f fun c ρ S1 => if c = true then g ρ S1 else .ok false S1
def tOrM (f g : Tx) : Tx := bnd f fun c ρ S1 => if c = true then .ok true S1 else g ρ S1
def tNotM (f : Tx) : Tx := bnd f fun c ρ S1 => .ok (!c) S1
def eAnd (f g : Ex) : Ex := bnd f fun d ρ S1 => (toB d S1).bind fun c S1 => if c = true then g ρ S1 else .ok (.bl false) S1
def eOr (f g : Ex) : Ex := bnd f fun d ρ S1 => (toB d S1).bind fun c S1 => if c = true then .ok (.bl true) S1 else g ρ S1
def eNot (f : Ex) : Ex := bnd f fun d ρ S1 => (toB d S1).bind fun c S1 => .ok (.bl (!c)) S1
def eIf (t : Tx) (f g : Ex) : Ex := bnd t fun c ρ S1 => if c = true then f ρ S1 else g ρ S1
def eNeg (f : Ex) : Ex := bnd f fun d ρ S1 => match d with
  | .int i => .ok (.int (-i)) S1
  | _ => .er

section
variable {X : Cx} {W : WX} {a b c : Expr} {rest : List Expr} {pos : Pos} {f g : Ex} {t u : Tx}
theorem mt_tru (ha : ME X W a f) (he : ∀ whole, isTrue a X.env whole = (do let v ← whole; standAt a.pos; holding [v] (truthy v)) := by intro _; rfl) : MT X W a (tTru f) :=
  pt_imp (pt_truth ha he) fun σ H Q q => by
    obtain ⟨m, S, ρ, rs, re, q⟩ := tX_bind (P := Rv X.K) (f := f) q
    refine ⟨m, S, ρ, rs, re, q.mono fun v H1 ⟨m1, S1, d, ρ1, rs1, re1, p, q1⟩ => ?_⟩
    cases e : truD S1 d with
    | none => simp only [e] at q1; exact q1.elim
    | some k => simp only [e] at q1; exact ⟨k, truD_ok rs1 p e, q1 m1 H1 k (Fin.refl rs1) rfl⟩
/-- a test whatever its whole is -/
abbrev MW (X : Cx) (W : WX) (e : Expr) (f : Tx) : Prop := PW X e (tT X.K W f)
theorem pw_imp {e : Expr} {t t' : TT} (h : PW X e t) (i : ∀ σ H Q, t' σ H Q → t σ H Q) : PW X e t' := ⟨fun wh pins s σ H Q I q => h.run wh pins s σ H Q I (i σ H Q q)⟩
theorem mw_pt (h : MW X W a t) : MT X W a t := PW.pt h
theorem mw_and1 (ha : MT X W a t) : MW X W (.BoolOp .And [a] pos) t := pw_and1 ha
theorem mw_or1 (ha : MT X W a t) : MW X W (.BoolOp .Or [a] pos) t := pw_or1 ha
theorem mw_and (ha : MT X W a t) (hb : MW X W (.BoolOp .And (b :: rest) pos) u) : MW X W (.BoolOp .And (a :: b :: rest) pos) (tAndM t u) :=
  pw_imp (pw_and ha hb) fun σ H Q q => by
    obtain ⟨m, S, ρ, rs, re, q⟩ := tX_bind (P := fun _ _ _ a b => b = a) (f := t) q
    refine ⟨m, S, ρ, rs, re, q.mono fun v H1 ⟨m1, S1, d, ρ1, rs1, re1, p, q1⟩ => ?_⟩
    subst p
    cases v with
    | true => simp only [if_true] at q1 ⊢; exact ⟨m1, S1, ρ1, rs1, re1, q1⟩
    | false => simp only [Bool.false_eq_true, if_false] at q1 ⊢; exact q1 m1 H1 _ (Fin.refl rs1) rfl
theorem mw_or (ha : MT X W a t) (hb : MW X W (.BoolOp .Or (b :: rest) pos) u) : MW X W (.BoolOp .Or (a :: b :: rest) pos) (tOrM t u) :=
  pw_imp (pw_or ha hb) fun σ H Q q => by
    obtain ⟨m, S, ρ, rs, re, q⟩ := tX_bind (P := fun _ _ _ a b => b = a) (f := t) q
    refine ⟨m, S, ρ, rs, re, q.mono fun v H1 ⟨m1, S1, d, ρ1, rs1, re1, p, q1⟩ => ?_⟩
    subst p
    cases v with
    | true => simp only [if_true] at q1 ⊢; exact q1 m1 H1 _ (Fin.refl rs1) rfl
    | false => simp only [Bool.false_eq_true, if_false] at q1 ⊢; exact ⟨m1, S1, ρ1, rs1, re1, q1⟩
theorem mt_not (ha : MT X W a t) : MT X W (.UnaryOp .Not a pos) (tNotM t) :=
  pt_imp (pt_not ha) fun σ H Q q => by
    obtain ⟨m, S, ρ, rs, re, q⟩ := tX_bind (P := fun _ _ _ a b => b = a) (f := t) q
    refine ⟨m, S, ρ, rs, re, q.mono fun v H1 ⟨m1, S1, d, ρ1, rs1, re1, p, q1⟩ => ?_⟩
    subst p
    exact q1 m1 H1 _ (Fin.refl rs1) rfl
theorem toB_at {K : PySem.W.Frag} {m : Nat → Addr} {S : Store} {H : Hp} {σ : St} {Q : VK} {d : D} {v : V} {k : Bool → Store → R D} (p : Rv K m S.length H d v) (q : AftE K W ((toB d S).bind k) m S H σ Q) : ∃ c, v = .bl c ∧ AftE K W (k c S) m S H σ Q := by
  unfold toB at q
  split at q
  · cases p; exact ⟨_, rfl, q⟩
  · exact q.elim
theorem me_one {op : BoolOp} (h : ME X W a f) : ME X W (.BoolOp op [a] pos) f := pe_one h
theorem me_and (ha : ME X W a f) (hb : ME X W (.BoolOp .And (b :: rest) pos) g) : ME X W (.BoolOp .And (a :: b :: rest) pos) (eAnd f g) :=
  pe_imp (pe_and ha hb) fun σ H Q q => by
    obtain ⟨m, S, ρ, rs, re, q⟩ := tX_bind (P := Rv X.K) (f := f) q
    refine ⟨m, S, ρ, rs, re, q.mono fun v H1 ⟨m1, S1, d, ρ1, rs1, re1, p, q1⟩ => ?_⟩
    obtain ⟨c, rfl, q2⟩ := toB_at p q1
    refine ⟨c, rfl, ?_⟩
    cases c with
    | true => simp only [if_true] at q2 ⊢; exact ⟨m1, S1, ρ1, rs1, re1, q2⟩
    | false => simp only [Bool.false_eq_true, if_false] at q2 ⊢; exact q2 m1 H1 _ (Fin.refl rs1) rfl
theorem me_or (ha : ME X W a f) (hb : ME X W (.BoolOp .Or (b :: rest) pos) g) : ME X W (.BoolOp .Or (a :: b :: rest) pos) (eOr f g) :=
  pe_imp (pe_or ha hb) fun σ H Q q => by
    obtain ⟨m, S, ρ, rs, re, q⟩ := tX_bind (P := Rv X.K) (f := f) q
    refine ⟨m, S, ρ, rs, re, q.mono fun v H1 ⟨m1, S1, d, ρ1, rs1, re1, p, q1⟩ => ?_⟩
    obtain ⟨c, rfl, q2⟩ := toB_at p q1
    refine ⟨c, rfl, ?_⟩
    cases c with
    | true => simp only [if_true] at q2 ⊢; exact q2 m1 H1 _ (Fin.refl rs1) rfl
    | false => simp only [Bool.false_eq_true, if_false] at q2 ⊢; exact ⟨m1, S1, ρ1, rs1, re1, q2⟩
theorem me_not (ha : ME X W a f) : ME X W (.UnaryOp .Not a pos) (eNot f) :=
  pe_imp (pe_not ha) fun σ H Q q => by
    obtain ⟨m, S, ρ, rs, re, q⟩ := tX_bind (P := Rv X.K) (f := f) q
    refine ⟨m, S, ρ, rs, re, q.mono fun v H1 ⟨m1, S1, d, ρ1, rs1, re1, p, q1⟩ => ?_⟩
    obtain ⟨c, rfl, q2⟩ := toB_at p q1
    exact ⟨c, rfl, q2 m1 H1 _ (Fin.refl rs1) rfl⟩
theorem me_neg (ha : ME X W a f) : ME X W (.UnaryOp .USub a pos) (eNeg f) :=
  pe_imp (pe_un un_neg ha) fun σ H Q q => by
    obtain ⟨m, S, ρ, rs, re, q⟩ := tX_bind (P := Rv X.K) (f := f) q
    refine ⟨m, S, ρ, rs, re, q.mono fun v H1 ⟨m1, S1, d, ρ1, rs1, re1, p, q1⟩ => ?_⟩
    cases d <;> first | exact q1.elim | skip
    cases p
    exact ⟨_, rfl, q1 m1 H1 _ (Fin.refl rs1) rfl⟩
theorem me_if (hc : MT X W c t) (ha : ME X W a f) (hb : ME X W b g) : ME X W (.IfExp c a b pos) (eIf t f g) :=
  pe_imp (pe_ifExp hc ha hb) fun σ H Q q => by
    obtain ⟨m, S, ρ, rs, re, q⟩ := tX_bind (P := fun _ _ _ a b => b = a) (f := t) q
    refine ⟨m, S, ρ, rs, re, q.mono fun v H1 ⟨m1, S1, d, ρ1, rs1, re1, p, q1⟩ => ?_⟩
    subst p
    cases v with
    | true => simp only [if_true] at q1 ⊢; exact ⟨m1, S1, ρ1, rs1, re1, q1⟩
    | false => simp only [Bool.false_eq_true, if_false] at q1 ⊢; exact ⟨m1, S1, ρ1, rs1, re1, q1⟩
end

/-! ### displays -/
def eTup (f : Ax) : Ex := bnd f fun ds ρ S1 => if ds.length ≤ sizeLine then .ok (.tup ds) S1 else .er
def eLst (f : Ax) : Ex := bnd f fun ds ρ S1 => if ds.length ≤ sizeLine then .ok (.loc S1.length) (S1 ++ [.lst ds]) else .er
section
variable {X : Cx} {W : WX} {es : List Expr} {pos : Pos} {f : Ax}
theorem me_tup {x1} (h : MA X W es f) : ME X W (.Tuple es x1 pos) (eTup f) :=
  pe_imp (pe_tup h) fun σ H Q q => by
    obtain ⟨m, S, ρ, rs, re, q⟩ := tX_bind (P := Rvs X.K) (f := f) q
    refine ⟨m, S, ρ, rs, re, q.mono fun vs H1 ⟨m1, S1, ds, ρ1, rs1, re1, p, q1⟩ => ?_⟩
    have l := p.length
    split at q1
    · rename_i hz
      refine ⟨by omega, fun a ha => ?_⟩
      have fn : Fin X.K m1 S1 H1 m1 S1 (upd H1 a (.tup vs)) := Fin.junk rs1 ha
      exact q1 m1 _ _ fn (Rv.mk_tup (SqT.of upd_same) (fn.rvs p))
    · exact q1.elim
theorem me_lst (h : MA X W es f) : ME X W (.List es pos) (eLst f) :=
  pe_imp (pe_lst h) fun σ H Q q => by
    obtain ⟨m, S, ρ, rs, re, q⟩ := tX_bind (P := Rvs X.K) (f := f) q
    refine ⟨m, S, ρ, rs, re, q.mono fun vs H1 ⟨m1, S1, ds, ρ1, rs1, re1, p, q1⟩ => ?_⟩
    have l := p.length
    split at q1
    · rename_i hz
      refine ⟨by omega, fun a ha => ?_⟩
      have ok : Ok1 X.K (Rv X.K) (some (.loc S1.length, S1 ++ [.lst ds])) m1 S1 H1 Q := ⟨_, _, rfl, q1⟩
      exact ok.lst rs1 rfl p ha
    · exact q1.elim
end

/-! ### subscripts -/
theorem Rvs.atI {K : PySem.W.Frag} {m : Nat → Addr} {N : Nat} {H : Hp} {ds : List D} {vs : List V} {i : Int} {d : D} (r : Rvs K m N H ds vs) (e : L2.atI ds i = some d) : ∃ v, L2.atI vs i = some v ∧ Rv K m N H d v := by
  unfold L2.atI at e ⊢
  rw [r.length]
  simp only [Option.bind_eq_some_iff] at e ⊢
  obtain ⟨j, h1, h2⟩ := e
  obtain ⟨v, h3, h4⟩ := r.get h2
  exact ⟨v, ⟨j, h1, h3⟩, h4⟩
def opIx (x y : D) (S : Store) : O D := match x, y with
  | .tup ds, .int i => (L2.atI ds i).map fun d => (d, S)
  | .loc n, .int i => (lstOf S n).bind fun ds => (L2.atI ds i).map fun d => (d, S)
  | .str z, .int i => if z.length ≤ sizeLine then (L2.atI z.cps.toList i).map fun c => (.str ⟨#[c]⟩, S) else none
  | _, _ => none
theorem ix_opIx {X : Cx} : IxR X (rO2 X.K opIx) := by
  intro value slice pins s σ H v u vv uu Q I rv ru h hs
  obtain ⟨m, S, x, y, rs, rx, ry, ok⟩ := h
  unfold opIx at ok
  split at ok
  · rename_i ds i
    cases e : L2.atI ds i with
    | none => rw [e] at ok; obtain ⟨_, _, e, _⟩ := ok; cases e
    | some d =>
      rw [e] at ok
      obtain ⟨a, vs, rfl, q, r⟩ := rx.tup
      cases ry
      obtain ⟨w, e2, rw2⟩ := r.atI e
      exact ix_tup value slice pins s σ H _ _ vv uu Q I rv ru ⟨a, vs, i, w, rfl, rfl, q, e2, ok.same rs rfl rw2⟩ hs
  · rename_i n i
    cases h1 : lstOf S n with
    | none => rw [h1] at ok; obtain ⟨_, _, e, _⟩ := ok; cases e
    | some ds =>
      rw [h1] at ok
      simp only [Option.bind_some] at ok
      cases e : L2.atI ds i with
      | none => rw [e] at ok; obtain ⟨_, _, e, _⟩ := ok; cases e
      | some d =>
        rw [e] at ok
        obtain ⟨_, rfl⟩ := rx.loc
        cases ry
        obtain ⟨vs, q, r⟩ := rs.list h1
        obtain ⟨w, e2, rw2⟩ := r.atI e
        exact ix_list value slice pins s σ H _ _ vv uu Q I rv ru ⟨m n, vs, i, w, rfl, rfl, q, e2, ok.same rs rfl rw2⟩ hs
  · rename_i z i
    split at ok
    · rename_i hz
      cases e : L2.atI z.cps.toList i with
      | none => rw [e] at ok; obtain ⟨_, _, e, _⟩ := ok; cases e
      | some c =>
        rw [e] at ok
        cases rx
        cases ry
        exact ix_str value slice pins s σ H _ _ vv uu Q I rv ru ⟨z, i, c, rfl, rfl, hz, e, ok.same rs rfl rfl⟩ hs
    · obtain ⟨_, _, e, _⟩ := ok; cases e
  · obtain ⟨_, _, e, _⟩ := ok; cases e
theorem me_ix {X : Cx} {W : WX} {a b : Expr} {pos : Pos} {f h : Ex} (ha : ME X W a f) (hb : ME X W b h) (hs : PlainIx b) : ME X W (.Subscript a b pos) (eOp opIx f h) :=
  pe_imp (pe_ix ix_opIx ha hb hs) fun _ _ _ => tOp_of

/-! ### slices -/
def cutD (xs : List D) (lo hi : Option Int) : List D := (xs.drop (HT.sIx xs.length 0 lo)).take (HT.sIx xs.length xs.length hi - HT.sIx xs.length 0 lo)
theorem Rvs.cut {K : PySem.W.Frag} {m : Nat → Addr} {N : Nat} {H : Hp} {ds : List D} {vs : List V} (r : Rvs K m N H ds vs) (lo hi : Option Int) : Rvs K m N H (cutD ds lo hi) (cutV vs lo hi) := by
  unfold cutD cutV
  rw [r.length]
  exact (r.drop _).take _
abbrev Px := Env → Store → R (Option Int)
def pNo : Px := fun _ S => .ok none S
def pAt (f : Ex) : Px := bnd f fun d ρ S1 => match d with
  | .int i => .ok (some i) S1
  | _ => .er
abbrev MP (X : Cx) (W : WX) (e : Option Expr) (f : Px) : Prop := PO X e (tX X.K (fun _ _ _ a b => b = a) W f)
theorem po_imp {X : Cx} {e : Option Expr} {t t' : TO} (h : PO X e t) (i : ∀ σ H Q, t' σ H Q → t σ H Q) : PO X e t' := ⟨fun pins s σ H Q I q => h.run pins s σ H Q I (i σ H Q q)⟩
theorem mp_no {X : Cx} {W : WX} : MP X W none pNo := po_imp po_none fun σ H Q ⟨m, S, ρ, rs, re, q⟩ => q m H none (Fin.refl rs) rfl
theorem mp_at {X : Cx} {W : WX} {e : Expr} {f : Ex} (h : ME X W e f) : MP X W (some e) (pAt f) := po_imp (po_some h) fun σ H Q q => by
  obtain ⟨m, S, ρ, rs, re, q⟩ := tX_bind (P := Rv X.K) (f := f) q
  refine ⟨m, S, ρ, rs, re, q.mono fun v H1 ⟨m1, S1, d, ρ1, rs1, re1, p, q1⟩ => ?_⟩
  cases d <;> first | exact q1.elim | skip
  cases p
  exact ⟨_, rfl, q1 m1 H1 _ (Fin.refl rs1) rfl⟩
def opSl (x : D) (lo hi : Option Int) (S : Store) : O D := match x with
  | .tup ds => some (.tup (cutD ds lo hi), S)
  | .loc n => (lstOf S n).map fun ds => (.loc S.length, S ++ [.lst (cutD ds lo hi)])
  | .str z => if z.length ≤ sizeLine then some (.str (Txt.slice z lo hi), S) else none
  | _ => none
def eSl (f : Ex) (l h : Px) : Ex := bnd f fun x ρ S1 => (l ρ S1).bind fun lo S2 => (h ρ S2).bind fun hi S3 => R.of (opSl x lo hi S3)
theorem sl_opSl {X : Cx} : SlR X (fun v lo hi H Q => ∃ m S x, RS X.K m S H ∧ Rv X.K m S.length H x v ∧ Ok1 X.K (Rv X.K) (opSl x lo hi S) m S H Q) := by
  intro pins s σ H v vv vl vu lo hi sl Q I rv hs pl pu h
  obtain ⟨m, S, x, rs, rx, ok⟩ := h
  unfold opSl at ok
  split at ok
  · rename_i ds
    obtain ⟨a, vs, rfl, q, r⟩ := rx.tup
    refine sl_tupA pins s σ H _ vv vl vu lo hi sl Q I rv hs pl pu ⟨a, vs, rfl, q, fun e => ?_, fun _ p hp => ok.tup rs rfl (r.cut lo hi) hp⟩
    refine ok.same rs rfl ?_
    have : cutV vs lo hi = vs := by
      unfold cutV
      rw [e.1, e.2]
      simp
    rw [← this] at q
    exact Rv.mk_tup q (r.cut lo hi)
  · rename_i n
    cases h1 : lstOf S n with
    | none => rw [h1] at ok; obtain ⟨_, _, e, _⟩ := ok; cases e
    | some ds =>
      rw [h1] at ok
      obtain ⟨_, rfl⟩ := rx.loc
      obtain ⟨vs, q, r⟩ := rs.list h1
      exact sl_list pins s σ H _ vv vl vu lo hi sl Q I rv hs pl pu ⟨_, vs, rfl, q, fun p hp => ok.lst rs rfl (r.cut lo hi) hp⟩
  · rename_i z
    split at ok
    · rename_i hz
      cases rx
      exact C8.sl_txt pins s σ H _ vv vl vu lo hi sl Q I rv hs pl pu ⟨z, rfl, hz, ok.same rs rfl rfl⟩
    · obtain ⟨_, _, e, _⟩ := ok; cases e
  · obtain ⟨_, _, e, _⟩ := ok; cases e
theorem me_sl {X : Cx} {W : WX} {e : Expr} {lo hi : Option Expr} {p2 pos : Pos} {f : Ex} {l h : Px} (he : ME X W e f) (hl : MP X W lo l) (hh : MP X W hi h) : ME X W (.Subscript e (.Slice lo hi none p2) pos) (eSl f l h) :=
  pe_imp (pe_slice sl_opSl he hl hh) fun σ H Q q => by
    obtain ⟨m, S, ρ, rs, re, q⟩ := tX_bind (P := Rv X.K) (f := f) q
    refine ⟨m, S, ρ, rs, re, q.mono fun v H1 ⟨m1, S1, d, ρ1, rs1, re1, p, q1⟩ => ?_⟩
    refine ⟨m1, S1, ρ1, rs1, re1, (Aft.bind (P := fun _ _ _ a b => b = a) q1).mono fun u H2 ⟨m2, S2, d2, g2, p2, q2⟩ => ?_⟩
    refine ⟨m2, S2, ρ1, g2.rs, g2.renv re1, (Aft.bind (P := fun _ _ _ a b => b = a) q2).mono fun w H3 ⟨m3, S3, d3, g3, p3, q3⟩ => ?_⟩
    subst p2; subst p3
    exact ⟨m3, S3, d, g3.rs, g3.rv (g2.rv p), Ok1.of q3⟩

/-! ### fields -/
theorem Rk.lookup {K : PySem.W.Frag} {m : Nat → Addr} {N : Nat} {H : Hp} : ∀ {fs : List (Str × D)} {vs : List (Str × V)} {f : Str} {d : D}, Rk K m N H fs vs → fs.lookup f = some d → ∃ v, vs.lookup f = some v ∧ Rv K m N H d v
  | [], _, _, _, _, e => by simp at e
  | (k, x) :: fs, _, f, d, r, e => by
    simp only [Rk] at r
    obtain ⟨v, r', rfl, r1, r2⟩ := r
    rw [List.lookup_cons] at e ⊢
    cases h : f == k with
    | true => rw [h] at e; cases e; exact ⟨v, rfl, r1⟩
    | false => rw [h] at e; exact Rk.lookup r2 e
theorem Rk.length {K : PySem.W.Frag} {m : Nat → Addr} {N : Nat} {H : Hp} {κ : Type} : ∀ {fs : List (κ × D)} {vs : List (κ × V)}, Rk K m N H fs vs → vs.length = fs.length
  | [], _, h => by simp only [Rk] at h; subst h; rfl
  | (k, d) :: ds, _, h => by
    simp only [Rk] at h
    obtain ⟨v, r, rfl, _, h2⟩ := h
    simp [Rk.length h2]
def putD (f : Str) (v : D) : List (Str × D) → List (Str × D)
  | [] => [(f, v)]
  | (g, x) :: r => if g = f then (g, v) :: r else (g, x) :: putD f v r
theorem Rk.put {K : PySem.W.Frag} {m : Nat → Addr} {N : Nat} {H : Hp} : ∀ {fs : List (Str × D)} {vs : List (Str × V)} {f : Str} {d : D} {v : V}, Rk K m N H fs vs → Rv K m N H d v → Rk K m N H (putD f d fs) (putF f v vs)
  | [], _, _, _, _, r, h => by
    simp only [Rk] at r
    subst r
    simp only [putD, putF, Rk]
    exact ⟨_, _, rfl, h, rfl⟩
  | (k, x) :: fs, _, f, d, v, r, h => by
    simp only [Rk] at r
    obtain ⟨w, r', rfl, r1, r2⟩ := r
    unfold putD putF
    split
    · simp only [Rk]; exact ⟨_, _, rfl, h, r2⟩
    · simp only [Rk]; exact ⟨_, _, rfl, r1, Rk.put r2 h⟩
/-- the instance at a place, its class among cs -/
def insOf (cs : List Addr) (S : Store) : D → Option (Addr × List (Str × D))
  | .loc n => match S[n]? with
    | some (.ins C fs) => if C ∈ cs then some (C, fs) else none
    | _ => none
  | _ => none
theorem RS.ins {K : PySem.W.Frag} {m : Nat → Addr} {S : Store} {H : Hp} {cs : List Addr} {d : D} {v : V} {C : Addr} {fs : List (Str × D)} (rs : RS K m S H) (r : Rv K m S.length H d v) (e : insOf cs S d = some (C, fs)) :
    ∃ n dx vs, d = .loc n ∧ v = .ref (m n) ∧ S[n]? = some (.ins C fs) ∧ C ∈ cs ∧ H (m n) = some (.ins C dx vs) ∧ Rk K m S.length H fs vs := by
  unfold insOf at e
  split at e
  · rename_i n
    obtain ⟨_, rfl⟩ := r.loc
    split at e
    · rename_i C' fs' h
      split at e
      · rename_i hc
        cases e
        obtain ⟨dx, vs, q, r2⟩ := rs.at_ n _ h
        exact ⟨n, dx, vs, rfl, rfl, h, hc, q, r2⟩
      · cases e
    · cases e
  · cases e
def eFld (cs : List Addr) (f : Ex) (nm : Str) : Ex := bnd f fun d ρ S1 => match insOf cs S1 d with
  | some (_, fs) => match fs.lookup nm with
    | some v => .ok v S1
    | none => .er
  | none => .er
theorem me_fld {X : Cx} {W : WX} {e : Expr} {nm : Str} {pos : Pos} {f : Ex} {cs : List Addr} (he : ME X W e f) (hcs : ∀ C ∈ cs, Cls X.K C ∧ NoAttr X.K C nm) (hb : attributeBase e nm X.env (eval e X.env) = eval e X.env) : ME X W (.Attribute e nm pos) (eFld cs f nm) :=
  pe_imp (pe_fld he hb) fun σ H Q q => by
    obtain ⟨m, S, ρ, rs, re, q⟩ := tX_bind (P := Rv X.K) (f := f) q
    refine ⟨m, S, ρ, rs, re, q.mono fun v H1 ⟨m1, S1, d, ρ1, rs1, re1, p, q1⟩ => ?_⟩
    cases e1 : insOf cs S1 d with
    | none => simp only [e1] at q1; exact q1.elim
    | some pr =>
      obtain ⟨C, fs⟩ := pr
      simp only [e1] at q1
      cases e2 : fs.lookup nm with
      | none => simp only [e2] at q1; exact q1.elim
      | some w =>
        simp only [e2] at q1
        obtain ⟨n, dx, vs, rfl, rfl, _, hc, q2, r2⟩ := rs1.ins p e1
        obtain ⟨u, e3, r3⟩ := r2.lookup e2
        exact ⟨m1 n, C, dx, vs, u, rfl, q2, (hcs C hc).1, (hcs C hc).2, e3, q1 m1 H1 _ (Fin.refl rs1) r3⟩

/-! ### built-in functions and types, called -/
def eCall (g : List D → Store → O D) (f : Ax) : Ex := bnd f fun ds ρ S1 => R.of (g ds S1)
theorem tCB_of {K : PySem.W.Frag} {W : WX} {g : List D → Store → O D} {f : Ax} {σ : St} {H : Hp} {Q : VK} (q : tE K W (eCall g f) σ H Q) : tCB (rOL K g) (tA K W f) σ H Q := by
  obtain ⟨m, S, ρ, rs, re, q⟩ := tX_bind (P := Rvs K) (f := f) q
  exact ⟨m, S, ρ, rs, re, q.mono fun v H1 ⟨m1, S1, d, ρ1, rs1, re1, p, q1⟩ => ⟨m1, S1, d, rs1, p, Ok1.of q1⟩⟩
section
variable {X : Cx} {W : WX} {x : Str} {p pos : Pos} {e : Expr} {es : List Expr} {f : Ax} {g : List D → Store → O D} {id T : String}
theorem me_callB (hc : CallR X (.builtin id) (rOL X.K g)) (hg : Gl X x) (hm : X.mg x = none) (hv : bootBuiltins x = some (.builtin id)) (ha : MA X W (e :: es) f) (hn : x ≠ "__name__" := by decide) (hdb : (x == ("__debug__" : Str)) = false := by decide)
    (he : starEach (e :: es) X.env = (false, eval e X.env) :: starEach es X.env := by rfl) (hpl : (backTo pos (starEach es X.env)).any (·.1) = false := by rfl) : ME X W (.Call (.Name x p) (e :: es) [] pos) (eCall g f) :=
  pe_imp (pe_callB hc hg hm hv ha hn hdb he hpl) fun _ _ _ => tCB_of
end
end M1

end

section
set_option maxRecDepth 100000
set_option maxHeartbeats 2000000
/-! M4: statements, targets, loops -/
namespace M1
open PySem PySem.Spec PyProof.Rows L2

inductive Out where
  | nx (ρ : Env) (S : Store) | rt (d : D) (S : Store) | bk (ρ : Env) (S : Store) | ct (ρ : Env) (S : Store)
  | ex (C : Value) (d : Option Nat) (ρ : Env) (S : Store)
  | er
abbrev Sm := Env → Store → Out
def R.out {α : Type} (r : R α) (ρ : Env) (k : α → Store → Out) : Out :=
  match r with
  | .ok a S => k a S
  | .ex C d S => .ex C d ρ S
  | .er => .er
def Out.seq (o : Out) (k : Sm) : Out :=
  match o with
  | .nx ρ S => k ρ S
  | .rt d S => .rt d S | .bk ρ S => .bk ρ S | .ct ρ S => .ct ρ S | .ex C d ρ S => .ex C d ρ S | .er => .er

section
variable {K : PySem.W.Frag} {m m1 m2 : Nat → Addr} {N : Nat} {H H1 H2 : Hp} {S S1 S2 : Store} {σ : St} {W : WX}
/-- the slots, their number -/
structure RE (K : PySem.W.Frag) (m : Nat → Addr) (N : Nat) (H : Hp) (ρ : Env) (σ : St) : Prop where
  len : ρ.length ≤ σ.length
  at_ : Renv K m N H ρ σ
theorem Fin.re {ρ : Env} (f : Fin K m S H m1 S1 H1) (h : RE K m S.length H ρ σ) : RE K m1 S1.length H1 ρ σ := ⟨h.len, f.renv h.at_⟩
theorem RE.set {ρ : Env} {i : Nat} {d : D} {v : V} (h : RE K m N H ρ σ) (r : Rv K m N H d v) : RE K m N H (ρ.set i (some d)) (σ.set i (some v)) := by
  refine ⟨by simpa using h.len, fun j e q => ?_⟩
  by_cases hj : j = i
  · subst hj
    by_cases hl : j < ρ.length
    · rw [List.getElem?_set_self hl] at q
      cases q
      exact ⟨v, by rw [List.getElem?_set_self (Nat.lt_of_lt_of_le hl h.len)], r⟩
    · rw [List.getElem?_eq_none (by simpa using hl)] at q; cases q
  · rw [List.getElem?_set_ne (Ne.symm hj)] at q
    obtain ⟨w, a, b⟩ := h.at_ j e q
    exact ⟨w, by rw [List.getElem?_set_ne (Ne.symm hj)]; exact a, b⟩

def AftS (K : PySem.W.Frag) (W : WX) (o : Out) (m : Nat → Addr) (S : Store) (H : Hp) (E : Ends) : Prop :=
  match o with
  | .nx ρ S' => ∀ m' H' σ', Fin K m S H m' S' H' → RE K m' S'.length H' ρ σ' → E.nx σ' H'
  | .rt d S' => ∀ m' H' v, Fin K m S H m' S' H' → Rv K m' S'.length H' d v → E.rt v H'
  | .bk ρ S' => ∀ m' H' σ', Fin K m S H m' S' H' → RE K m' S'.length H' ρ σ' → E.bk σ' H'
  | .ct ρ S' => ∀ m' H' σ', Fin K m S H m' S' H' → RE K m' S'.length H' ρ σ' → E.ct σ' H'
  | .ex C d ρ S' => ∀ m' H' σ', Fin K m S H m' S' H' → RE K m' S'.length H' ρ σ' → W C (d.map m') σ' H'
  | .er => False
theorem AftS.shift {o : Out} {E : Ends} (f : Fin K m S H m1 S1 H1) (h : AftS K W o m S H E) : AftS K W o m1 S1 H1 E := by
  cases o with
  | nx ρ S' => exact fun m' H' v g p => h m' H' v (f.trans g) p
  | rt ρ S' => exact fun m' H' v g p => h m' H' v (f.trans g) p
  | bk ρ S' => exact fun m' H' v g p => h m' H' v (f.trans g) p
  | ct ρ S' => exact fun m' H' v g p => h m' H' v (f.trans g) p
  | ex C d ρ S' => exact fun m' H' v g p => h m' H' v (f.trans g) p
  | er => exact h
def tS (K : PySem.W.Frag) (W : WX) (f : Sm) : TS := fun E σ H => ∃ m S ρ, RS K m S H ∧ RE K m S.length H ρ σ ∧ AftS K W (f ρ S) m S H E
/-- an expression, then what the statement does with it -/
def sE {α : Type} (f : Env → Store → R α) (k : α → Sm) : Sm := fun ρ S => (f ρ S).out ρ fun d S1 => k d ρ S1
theorem tS_bind {α β : Type} {P : (Nat → Addr) → Nat → Hp → α → β → Prop} {f : Env → Store → R α} {k : α → Sm} {E : Ends} (h : tS K W (sE f k) E σ H) :
    tX K P W f σ H (fun v H1 => ∃ m1 S1 d ρ, RS K m1 S1 H1 ∧ RE K m1 S1.length H1 ρ σ ∧ P m1 S1.length H1 d v ∧ AftS K W (k d ρ S1) m1 S1 H1 E) := by
  obtain ⟨m, S, ρ, rs, re, h⟩ := h
  refine ⟨m, S, ρ, rs, re.at_, ?_⟩
  unfold sE at h
  cases e : f ρ S with
  | ok d S' => rw [e] at h; exact fun m' H' v g p => ⟨m', S', d, ρ, g.rs, g.re re, p, AftS.shift g h⟩
  | ex C d S' => rw [e] at h; exact fun m' H' g => h m' H' σ g (g.re re)
  | er => rw [e] at h; exact h
end

section
variable {X : Cx} {W : WX} {st : Stmt} {rest : List Stmt} {e : Expr} {pos : Pos} {f : Ex} {t : Tx} {s u : Sm}
abbrev MS (X : Cx) (W : WX) (st : Stmt) (f : Sm) : Prop := PS X st (tS X.K W f)
abbrev MSs (X : Cx) (W : WX) (st : List Stmt) (f : Sm) : Prop := PSs X st (tS X.K W f)
def sNil : Sm := fun ρ S => .nx ρ S
def sSeq (f g : Sm) : Sm := fun ρ S => (f ρ S).seq g
theorem mss_nil : MSs X W [] sNil := pss_imp pss_nil fun E σ H ⟨m, S, ρ, rs, re, h⟩ => h m H σ (Fin.refl rs) re
theorem mss_cons (h1 : MS X W st s) (h2 : MSs X W rest u) : MSs X W (st :: rest) (sSeq s u) := pss_imp (pss_cons h1 h2) fun E σ H ⟨m, S, ρ, rs, re, h⟩ => by
  refine ⟨m, S, ρ, rs, re, ?_⟩
  unfold sSeq at h
  cases e : s ρ S with
  | nx ρ' S' => rw [e] at h; exact fun m' H' σ' g p => ⟨m', S', ρ', g.rs, p, AftS.shift g h⟩
  | rt d S' => rw [e] at h; exact h
  | bk d S' => rw [e] at h; exact h
  | ct d S' => rw [e] at h; exact h
  | ex C d ρ' S' => rw [e] at h; exact h
  | er => rw [e] at h; exact h
theorem mss_one (h1 : MS X W st s) : MSs X W [st] s := pss_one h1
theorem ms_pass : MS X W (.Pass pos) sNil := ps_imp ps_pass fun E σ H ⟨m, S, ρ, rs, re, h⟩ => h m H σ (Fin.refl rs) re
def sBrk : Sm := fun ρ S => .bk ρ S
def sCnt : Sm := fun ρ S => .ct ρ S
theorem ms_break : MS X W (.Break pos) sBrk := ps_imp ps_break fun E σ H ⟨m, S, ρ, rs, re, h⟩ => h m H σ (Fin.refl rs) re
theorem ms_continue : MS X W (.Continue pos) sCnt := ps_imp ps_continue fun E σ H ⟨m, S, ρ, rs, re, h⟩ => h m H σ (Fin.refl rs) re
def sRet (f : Ex) : Sm := sE f fun d _ S => .rt d S
theorem ms_ret (he : ME X W e f) : MS X W (.Return (some e) pos) (sRet f) := ps_imp (ps_ret he) fun E σ H q => by
  obtain ⟨m, S, ρ, rs, re, q⟩ := tS_bind (P := Rv X.K) (f := f) q
  exact ⟨m, S, ρ, rs, re, q.mono fun v H1 ⟨m1, S1, d, ρ1, rs1, re1, p, q1⟩ => q1 m1 H1 v (Fin.refl rs1) p⟩
def sRetN : Sm := fun _ S => .rt .non S
theorem ms_retN : MS X W (.Return none pos) sRetN := ps_imp ps_retN fun E σ H ⟨m, S, ρ, rs, re, h⟩ => h m H _ (Fin.refl rs) rfl
def sExpr (f : Ex) : Sm := sE f fun _ ρ S => .nx ρ S
theorem ms_expr (he : ME X W e f) (hs : swapsWith e none pos.line X.env = pure false := by rfl) : MS X W (.Expr e pos) (sExpr f) := ps_imp (ps_expr he hs) fun E σ H q => by
  obtain ⟨m, S, ρ, rs, re, q⟩ := tS_bind (P := Rv X.K) (f := f) q
  exact ⟨m, S, ρ, rs, re, q.mono fun v H1 ⟨m1, S1, d, ρ1, rs1, re1, p, q1⟩ => q1 m1 H1 σ (Fin.refl rs1) re1⟩
def sIf (t : Tx) (f g : Sm) : Sm := sE t fun c ρ S => if c = true then f ρ S else g ρ S
theorem ms_if {c : Expr} {a b : List Stmt} (hc : MT X W c t) (ha : MSs X W a s) (hb : MSs X W b u) : MS X W (.If c a b pos) (sIf t s u) := ps_imp (ps_if hc ha hb) fun E σ H q => by
  obtain ⟨m, S, ρ, rs, re, q⟩ := tS_bind (P := fun _ _ _ a b => b = a) (f := t) q
  refine ⟨m, S, ρ, rs, re, q.mono fun v H1 ⟨m1, S1, d, ρ1, rs1, re1, p, q1⟩ => ?_⟩
  subst p
  cases v with
  | true => simp only [if_true] at q1 ⊢; exact ⟨m1, S1, ρ1, rs1, re1, q1⟩
  | false => simp only [Bool.false_eq_true, if_false] at q1 ⊢; exact ⟨m1, S1, ρ1, rs1, re1, q1⟩
end

/-! ### targets -/
abbrev Gm := D → Store → Env → Option Env
abbrev Gs := List D → Store → Env → Option Env
def tG (K : PySem.W.Frag) (g : Gm) : TG := fun v σ H Q => ∃ m S d ρ ρ', RS K m S H ∧ RE K m S.length H ρ σ ∧ Rv K m S.length H d v ∧ g d S ρ = some ρ' ∧ ∀ σ', RE K m S.length H ρ' σ' → Q σ' H
def tGs (K : PySem.W.Frag) (g : Gs) : TGs := fun v σ H Q => ∃ m S d ρ ρ', RS K m S H ∧ RE K m S.length H ρ σ ∧ Rvs K m S.length H d v ∧ g d S ρ = some ρ' ∧ ∀ σ', RE K m S.length H ρ' σ' → Q σ' H
section
variable {X : Cx} {pos : Pos}
abbrev MG (X : Cx) (e : Expr) (g : Gm) : Prop := PG X e (tG X.K g)
abbrev MGs (X : Cx) (e : List Expr) (g : Gs) : Prop := PGs X e (tGs X.K g)
theorem pg_imp {e : Expr} {t t' : TG} (h : PG X e t) (i : ∀ v σ H Q, t' v σ H Q → t v σ H Q) : PG X e t' := ⟨fun pins s σ H v u Q I r q => h.run pins s σ H v u Q I r (i v σ H Q q)⟩
theorem pgs_imp {e : List Expr} {t t' : TGs} (h : PGs X e t) (i : ∀ v σ H Q, t' v σ H Q → t v σ H Q) : PGs X e t' := ⟨fun pins s σ H v u Q I r q => h.run pins s σ H v u Q I r (i v σ H Q q)⟩
def gN (i : Nat) : Gm := fun d _ ρ => some (ρ.set i (some d))
theorem mg_name {e : Expr} {i : Nat} (h : PG X e (gName i)) : MG X e (gN i) := pg_imp h fun v σ H Q ⟨m, S, d, ρ, ρ', rs, re, rv, e, q⟩ => by
  cases e
  exact q _ (re.set rv)
def gsNil : Gs := fun ds _ ρ => match ds with
  | [] => some ρ
  | _ => none
def gsCons (g : Gm) (h : Gs) : Gs := fun ds S ρ => match ds with
  | d :: r => (g d S ρ).bind fun ρ' => h r S ρ'
  | _ => none
theorem mgs_nil : MGs X [] gsNil := pgs_imp pgs_nil fun v σ H Q ⟨m, S, d, ρ, ρ', rs, re, rv, e, q⟩ => by
  cases d with
  | nil => cases e; simp only [Rvs] at rv; exact ⟨rv, q _ re⟩
  | cons _ _ => cases e
theorem mgs_cons {e : Expr} {es : List Expr} {g : Gm} {h : Gs} (h1 : MG X e g) (h2 : MGs X es h) (hs : (assignEach (e :: es) X.env).map (·.2) = assign e X.env :: (assignEach es X.env).map (·.2) := by rfl) : MGs X (e :: es) (gsCons g h) :=
  pgs_imp (pgs_cons h1 h2 hs) fun v σ H Q ⟨m, S, d, ρ, ρ', rs, re, rv, e, q⟩ => by
    cases d with
    | nil => cases e
    | cons d ds =>
      simp only [Rvs] at rv
      obtain ⟨v1, r, rfl, r1, r2⟩ := rv
      simp only [gsCons, Option.bind_eq_some_iff] at e
      obtain ⟨ρ1, e1, e2⟩ := e
      exact ⟨v1, r, rfl, m, S, d, ρ, ρ1, rs, re, r1, e1, fun σ1 re1 => ⟨m, S, ds, ρ1, ρ', rs, re1, r2, e2, q⟩⟩
/-- (a, b, ..) = a tuple of that length -/
def gT (n : Nat) (g : Gs) : Gm := fun d S ρ => match d with
  | .tup ds => if ds.length = n then g ds S ρ else none
  | _ => none
theorem mg_tup {es : List Expr} {k n : Nat} {g : Gs} (hc : X.calm = true) (h : MGs X es g) (hn : (assignEach es X.env).length = n := by rfl) (hst : (assignEach es X.env).findIdx? (·.1) = none := by rfl) : MG X (.Tuple es k pos) (gT n g) :=
  pg_imp (pg_tup hc h hn hst) fun v σ H Q ⟨m, S, d, ρ, ρ', rs, re, rv, e, q⟩ => by
    unfold gT at e
    split at e
    · rename_i ds
      split at e
      · rename_i hl
        obtain ⟨a, vs, rfl, q1, r1⟩ := rv.tup
        exact ⟨a, vs, rfl, q1, by rw [r1.length]; exact hl, m, S, ds, ρ, ρ', rs, re, r1, e, q⟩
      · cases e
    · cases e
/-- (a, b, ..) = a list of that length -/
def gL (n : Nat) (g : Gs) : Gm := fun d S ρ => match d with
  | .loc l => match lstOf S l with
    | some ds => if ds.length = n then g ds S ρ else none
    | none => none
  | _ => none
theorem mg_lst {es : List Expr} {k n : Nat} {g : Gs} (hc : X.calm = true) (h : MGs X es g) (hn : (assignEach es X.env).length = n := by rfl) (hst : (assignEach es X.env).findIdx? (·.1) = none := by rfl) : MG X (.Tuple es k pos) (gL n g) :=
  pg_imp (pg_lst hc h hn hst) fun v σ H Q ⟨m, S, d, ρ, ρ', rs, re, rv, e, q⟩ => by
    unfold gL at e
    split at e
    · rename_i l
      split at e
      · rename_i ds hds
        split at e
        · rename_i hl
          obtain ⟨_, rfl⟩ := rv.loc
          obtain ⟨vs, q1, r1⟩ := rs.list hds
          exact ⟨_, vs, rfl, q1, by rw [r1.length]; exact hl, m, S, ds, ρ, ρ', rs, re, r1, e, q⟩
        · cases e
      · cases e
    · cases e
/-- (a, b, ..) = a tuple or a list of that length -/
def gA (n : Nat) (g : Gs) : Gm := fun d S ρ => match d with
  | .tup _ => gT n g d S ρ
  | _ => gL n g d S ρ
theorem mg_any {es : List Expr} {k n : Nat} {g : Gs} (hc : X.calm = true) (h : MGs X es g) (hn : (assignEach es X.env).length = n := by rfl) (hst : (assignEach es X.env).findIdx? (·.1) = none := by rfl) : MG X (.Tuple es k pos) (gA n g) := by
  have h1 : MG X (.Tuple es k pos) (gT n g) := mg_tup hc h hn hst
  have h2 : MG X (.Tuple es k pos) (gL n g) := mg_lst hc h hn hst
  refine ⟨fun pins s σ H v u Q I r q => ?_⟩
  obtain ⟨m, S, d, ρ, ρ', rs, re, rv, e, q⟩ := q
  unfold gA at e
  split at e
  · exact h1.run pins s σ H v u Q I r ⟨m, S, _, ρ, ρ', rs, re, rv, e, q⟩
  · exact h2.run pins s σ H v u Q I r ⟨m, S, d, ρ, ρ', rs, re, rv, e, q⟩
end

/-! ### assignments -/
section
variable {X : Cx} {W : WX} {e tg : Expr} {pos : Pos} {f : Ex} {g : Gm}
def sAsg (f : Ex) (g : Gm) : Sm := sE f fun d ρ S => match g d S ρ with
  | some ρ' => .nx ρ' S
  | none => .er
theorem tAsg_of {K : PySem.W.Frag} {E : Ends} {σ : St} {H : Hp} (q : tS K W (sAsg f g) E σ H) : tAsg (tE K W f) (tG K g) E σ H := by
  obtain ⟨m, S, ρ, rs, re, q⟩ := tS_bind (P := Rv K) (f := f) q
  refine ⟨m, S, ρ, rs, re, q.mono fun v H1 ⟨m1, S1, d, ρ1, rs1, re1, p, q1⟩ => ?_⟩
  cases e1 : g d S1 ρ1 with
  | none => simp only [e1] at q1; exact q1.elim
  | some ρ' => simp only [e1] at q1; exact ⟨m1, S1, d, ρ1, ρ', rs1, re1, p, e1, fun σ' re' => q1 m1 H1 σ' (Fin.refl rs1) re'⟩
theorem ms_asg (he : ME X W e f) (hg : MG X tg g) (hs : swapsWithSole [tg] e pos.line X.env = pure false := by rfl) (hw : swappedStores [tg] e X.env = pure none := by rfl)
    (h1 : (assignEach [tg] X.env).map (·.2) = [assign tg X.env] := by rfl) : MS X W (.Assign [tg] e pos) (sAsg f g) :=
  ps_imp (ps_asg he hg hs hw h1) fun _ _ _ => tAsg_of
/-- a, b = x, y of plain local names -/
def sPar2 (i j : Nat) (f : Ax) : Sm := sE f fun ds ρ S => match ds with
  | [a, b] => .nx ((ρ.set i (some a)).set j (some b)) S
  | _ => .er
theorem ms_par2 {i j : Nat} {x y : Str} {a b : Expr} {fa : Ax} {px py pt : Pos} {kt k2 pt2} (hc : X.calm = true) (hN : X.N.Nodup) (hi : X.N[i]? = some x) (hj : X.N[j]? = some y) (hij : i ≠ j)
    (hx : X.env.scope.names.lookup x = some .local) (hy : X.env.scope.names.lookup y = some .local) (ha : MA X W [a, b] fa)
    (hw : swappedStores [.Tuple [.Name x px, .Name y py] kt pt] (.Tuple [a, b] k2 pt2) X.env = pure (some [x, y]))
    (hs : swapsWithSole [.Tuple [.Name x px, .Name y py] kt pt] (.Tuple [a, b] k2 pt2) pos.line X.env = pure false := by rfl) :
    MS X W (.Assign [.Tuple [.Name x px, .Name y py] kt pt] (.Tuple [a, b] k2 pt2) pos) (sPar2 i j fa) := by
  refine ps_imp (ps_par hc hN hi hj hij hx hy ha hw hs) fun E σ H q => ?_
  obtain ⟨m, S, ρ, rs, re, q⟩ := tS_bind (P := Rvs X.K) (f := fa) q
  refine ⟨m, S, ρ, rs, re, q.mono fun vs H1 h1 => ?_⟩
  obtain ⟨m1, S1, ds, ρ1, rs1, re1, p, q1⟩ := h1
  split at q1
  · simp only [Rvs] at p
    obtain ⟨v1, _, rfl, r1, v2, _, rfl, r2, rfl⟩ := p
    exact ⟨v1, v2, rfl, q1 m1 H1 _ (Fin.refl rs1) ((re1.set r1).set r2)⟩
  · exact q1.elim
end

/-! ### while -/
section
variable {X : Cx} {W : WX} {pos : Pos}
def whileN (t : Tx) (b : Sm) : Nat → Sm
  | 0, _, _ => .er
  | n + 1, ρ, S => (t ρ S).out ρ fun c S1 => if c = true then match b ρ S1 with
      | .nx ρ' S' => whileN t b n ρ' S'
      | .ct ρ' S' => whileN t b n ρ' S'
      | .bk ρ' S' => .nx ρ' S'
      | o => o
    else .nx ρ S1
theorem ms_while {c : Expr} {body : List Stmt} {t : Tx} {b : Sm} (n : Nat) (hp : PassesOwn (model X.prog X.w) X.A X.env X.xe) (hc : MT X W c t) (hb : MSs X W body b) : MS X W (.While c body [] pos) (whileN t b n) :=
  ps_imp (ps_while hp hc hb) fun E σ H ⟨m, S, ρ, rs, re, q⟩ => by
    refine ⟨fun k σ H => ∃ m S ρ, RS X.K m S H ∧ RE X.K m S.length H ρ σ ∧ AftS X.K W (whileN t b k ρ S) m S H E, ⟨n, m, S, ρ, rs, re, q⟩, ?_⟩
    rintro k σ1 H1 ⟨m1, S1, ρ1, rs1, re1, q1⟩
    cases k with
    | zero => exact q1.elim
    | succ k =>
      have q2 : tS X.K W (sE t fun c ρ S1 => if c = true then match b ρ S1 with
          | .nx ρ' S' => whileN t b k ρ' S'
          | .ct ρ' S' => whileN t b k ρ' S'
          | .bk ρ' S' => .nx ρ' S'
          | o => o
        else .nx ρ S1) E σ1 H1 := ⟨m1, S1, ρ1, rs1, re1, q1⟩
      obtain ⟨m, S, ρ, rs, re, q3⟩ := tS_bind (P := fun _ _ _ a b => b = a) (f := t) q2
      refine ⟨m, S, ρ, rs, re, q3.mono fun v H2 ⟨m2, S2, d, ρ2, rs2, re2, p, q4⟩ => ?_⟩
      subst p
      cases v with
      | false => simp only [Bool.false_eq_true, if_false] at q4 ⊢; exact q4 m2 H2 σ1 (Fin.refl rs2) re2
      | true =>
        simp only [if_true] at q4 ⊢
        refine ⟨fun σ' H' => ∃ m S ρ, RS X.K m S H' ∧ RE X.K m S.length H' ρ σ' ∧ AftS X.K W (whileN t b k ρ S) m S H' E, fun σ' H' h => ⟨k, Nat.lt_succ_self _, h⟩, m2, S2, ρ2, rs2, re2, ?_⟩
        cases e : b ρ2 S2 with
        | nx ρ' S' => rw [e] at q4; exact fun m' H' σ' g p => ⟨m', S', ρ', g.rs, p, AftS.shift g q4⟩
        | ct ρ' S' => rw [e] at q4; exact fun m' H' σ' g p => ⟨m', S', ρ', g.rs, p, AftS.shift g q4⟩
        | bk ρ' S' => rw [e] at q4; exact fun m' H' σ' g p => q4 m' H' σ' g p
        | rt d S' => rw [e] at q4; exact q4
        | ex C d ρ' S' => rw [e] at q4; exact q4
        | er => rw [e] at q4; exact q4
end

/-! ### what a for or a comprehension walks -/
/-- at turn i: an error, the end, an item; it may lay new places -/
structure Src where
  item : Nat → Store → Option (Option D)
  bound : Nat
structure ItRel (K : PySem.W.Frag) (src : Src) (J : It) (m : Nat → Addr) (S : Store) (H : Hp) : Prop where
  go : ∀ m2 S2 H2, Fin K m S H m2 S2 H2 → ∀ i d, src.item i S2 = some (some d) → J.go i H2
  yld : ∀ m2 S2 H2, Fin K m S H m2 S2 H2 → ∀ i d, src.item i S2 = some (some d) → ∀ x H3, J.yld i H2 x H3 → Fin K m2 S2 H2 m2 S2 H3 ∧ Rv K m2 S2.length H3 d x
  stop : ∀ m2 S2 H2, Fin K m S H m2 S2 H2 → ∀ i, src.item i S2 = some none → J.stop i H2
abbrev Ix := Env → Store → R Src
def tI (K : PySem.W.Frag) (W : WX) (f : Ix) : TI := fun σ H R => ∃ m S ρ, RS K m S H ∧ Renv K m S.length H ρ σ ∧
  match f ρ S with
  | .ok src S' => ∀ m' H' J, Fin K m S H m' S' H' → ItRel K src J m' S' H' → R J H'
  | .ex C d S' => ∀ m' H', Fin K m S H m' S' H' → W C (d.map m') σ H'
  | .er => False
abbrev MI (X : Cx) (W : WX) (tg iter : Expr) (f : Ix) : Prop := PI X tg iter (tI X.K W f)
section
variable {X : Cx} {W : WX} {tg iter : Expr} {pos : Pos}
theorem pi_imp {t t' : TI} (h : PI X tg iter t) (i : ∀ σ H R, t' σ H R → t σ H R) : PI X tg iter t' := ⟨fun pins s σ H R I q => h.run pins s σ H R I (i σ H R q)⟩
/-- the loop from turn i with n turns at most -/
def forN (src : Src) (g : Gm) (b : Sm) : Nat → Nat → Sm
  | 0, _, _, _ => .er
  | n + 1, i, ρ, S => match src.item i S with
    | none => .er
    | some none => .nx ρ S
    | some (some d) => match g d S ρ with
      | none => .er
      | some ρ1 => match b ρ1 S with
        | .nx ρ' S' => forN src g b n (i + 1) ρ' S'
        | .ct ρ' S' => forN src g b n (i + 1) ρ' S'
        | .bk ρ' S' => .nx ρ' S'
        | o => o
def sFor (f : Ix) (g : Gm) (b : Sm) : Sm := sE f fun src ρ S => forN src g b (src.bound + 1) 0 ρ S
theorem ms_for {f : Ix} {g : Gm} {b : Sm} {body : List Stmt} (hp : PassesOwn (model X.prog X.w) X.A X.env X.xe) (hc : X.calm = true) (hi : MI X W tg iter f) (hg : MG X tg g) (hb : MSs X W body b)
    (hs : ∀ x, foldedSetIterable iter X.env x = pure x := by intro _; rfl) : MS X W (.For tg iter body [] pos) (sFor f g b) :=
  ps_imp (ps_for hp hc hi hg hb hs) fun E σ H ⟨m, S, ρ, rs, re, q⟩ => by
    refine ⟨m, S, ρ, rs, re.at_, ?_⟩
    unfold sFor sE at q
    cases e : f ρ S with
    | er => rw [e] at q; exact q
    | ex C d S' => rw [e] at q; exact fun m' H' g => q m' H' σ g (g.re re)
    | ok src S' =>
      rw [e] at q
      intro m' H' J g0 ir
      refine ⟨fun i k σ H => ∃ m2 S2 ρ, Fin X.K m' S' H' m2 S2 H ∧ RE X.K m2 S2.length H ρ σ ∧ AftS X.K W (forN src g b k i ρ S2) m2 S2 H E, ⟨src.bound + 1, m', S', ρ, Fin.refl g0.rs, g0.re re, AftS.shift g0 q⟩, ?_⟩
      rintro i k σ1 H1 ⟨m1, S1, ρ1, f1, re1, q1⟩
      cases k with
      | zero => exact q1.elim
      | succ k =>
        unfold forN at q1
        cases e1 : src.item i S1 with
        | none => simp only [e1] at q1; exact q1.elim
        | some o =>
          cases o with
          | none => simp only [e1] at q1; exact .inl ⟨ir.stop m1 S1 H1 f1 i e1, q1 m1 H1 σ1 (Fin.refl f1.rs) re1⟩
          | some d =>
            simp only [e1] at q1
            cases e2 : g d S1 ρ1 with
            | none => simp only [e2] at q1; exact q1.elim
            | some ρ2 =>
              simp only [e2] at q1
              refine .inr ⟨ir.go m1 S1 H1 f1 i d e1, fun σ' H'' => ∃ m2 S2 ρ, Fin X.K m' S' H' m2 S2 H'' ∧ RE X.K m2 S2.length H'' ρ σ' ∧ AftS X.K W (forN src g b k (i + 1) ρ S2) m2 S2 H'' E, fun σ' H'' h => ⟨k, Nat.lt_succ_self _, h⟩, fun x H3 y => ?_⟩
              obtain ⟨g3, rv⟩ := ir.yld m1 S1 H1 f1 i d e1 x H3 y
              refine ⟨m1, S1, d, ρ1, ρ2, g3.rs, g3.re re1, rv, e2, fun σ' re' => ?_⟩
              refine ⟨m1, S1, ρ2, g3.rs, re', ?_⟩
              cases e3 : b ρ2 S1 with
              | nx ρ' S3 => simp only [e3] at q1; exact fun m4 H4 σ4 g4 p => ⟨m4, S3, ρ', (f1.trans g3).trans g4, p, AftS.shift (g3.trans g4) q1⟩
              | ct ρ' S3 => simp only [e3] at q1; exact fun m4 H4 σ4 g4 p => ⟨m4, S3, ρ', (f1.trans g3).trans g4, p, AftS.shift (g3.trans g4) q1⟩
              | bk ρ' S3 => simp only [e3] at q1; exact fun m4 H4 σ4 g4 p => q1 m4 H4 σ4 (g3.trans g4) p
              | rt d S3 => simp only [e3] at q1; exact AftS.shift g3 q1
              | ex C d ρ' S3 => simp only [e3] at q1; exact AftS.shift g3 q1
              | er => simp only [e3] at q1; exact q1
/-- fixed items -/
def seqSrc (ds : List D) : Src := ⟨fun i _ => some ds[i]?, ds.length⟩
/-- the items of a list as it stands -/
def lstSrc (n : Nat) (b : Nat) : Src := ⟨fun i S => (lstOf S n).map fun ds => ds[i]?, b⟩
def iSeq (f : Ex) : Ix := bnd f fun d _ S => match d with
  | .tup ds => .ok (seqSrc ds) S
  | _ => .er
def iLst (f : Ex) : Ix := bnd f fun d _ S => match d with
  | .loc n => match lstOf S n with
    | some ds => .ok (lstSrc n ds.length) S
    | none => .er
  | _ => .er
theorem tI_bind {α β : Type} {K : PySem.W.Frag} {P : (Nat → Addr) → Nat → Hp → α → β → Prop} {f : Env → Store → R α} {k : α → Env → Store → R Src} {σ : St} {H : Hp} {Rr : It → Hp → Prop} (h : tI K W (bnd f k) σ H Rr) :
    tX K P W f σ H (fun v H1 => ∃ m1 S1 d ρ, RS K m1 S1 H1 ∧ Renv K m1 S1.length H1 ρ σ ∧ P m1 S1.length H1 d v ∧ match k d ρ S1 with
      | .ok src S' => ∀ m' H' J, Fin K m1 S1 H1 m' S' H' → ItRel K src J m' S' H' → Rr J H'
      | .ex C d S' => ∀ m' H', Fin K m1 S1 H1 m' S' H' → W C (d.map m') σ H'
      | .er => False) := by
  obtain ⟨m, S, ρ, rs, re, h⟩ := h
  refine ⟨m, S, ρ, rs, re, ?_⟩
  unfold bnd at h
  cases e : f ρ S with
  | er => rw [e] at h; exact h
  | ex C d S' => rw [e] at h; exact h
  | ok d S' =>
    rw [e] at h
    intro m' H' v g p
    refine ⟨m', S', d, ρ, g.rs, g.renv re, p, ?_⟩
    simp only [R.bind] at h
    cases e2 : k d ρ S' with
    | er => rw [e2] at h; exact h
    | ex C d S' => rw [e2] at h; exact fun m2 H2 g2 => h m2 H2 (g.trans g2)
    | ok d S' => rw [e2] at h; exact fun m2 H2 J g2 => h m2 H2 J (g.trans g2)
theorem itrel_tup {K : PySem.W.Frag} {m : Nat → Addr} {S : Store} {H : Hp} {a : Addr} {vs : List V} {ds : List D} (q : SqT K H a vs) (r : Rvs K m S.length H ds vs) : ItRel K (seqSrc ds) (Itt K a) m S H where
  go := fun m2 S2 H2 f i d e => by
    obtain ⟨v, hv, _⟩ := r.get (i := i) (d := d) (by simpa [seqSrc] using e)
    exact ⟨vs, v, f.mono a vs q, hv⟩
  yld := fun m2 S2 H2 f i d e x H3 y => by
    obtain ⟨rfl, y⟩ := y
    obtain ⟨v, hv, rv⟩ := r.get (i := i) (d := d) (by simpa [seqSrc] using e)
    have := y vs (f.mono a vs q)
    rw [hv] at this; cases this
    exact ⟨Fin.refl f.rs, f.rv rv⟩
  stop := fun m2 S2 H2 f i e => by
    refine ⟨vs, f.mono a vs q, ?_⟩
    have : ds[i]? = none := by simpa [seqSrc] using e
    rw [r.length]
    exact List.getElem?_eq_none_iff.mp this
theorem itrel_lst {K : PySem.W.Frag} {m : Nat → Addr} {S : Store} {H : Hp} {n b : Nat} (hn : n < S.length) : ItRel K (lstSrc n b) (Itl K (m n)) m S H where
  go := fun m2 S2 H2 f i d e => by
    simp only [lstSrc, Option.map_eq_some_iff] at e
    obtain ⟨ds, e1, e2⟩ := e
    obtain ⟨vs, q, r⟩ := f.rs.list e1
    rw [f.ext n hn] at q
    obtain ⟨v, hv, _⟩ := r.get e2
    exact ⟨vs, v, q, hv⟩
  yld := fun m2 S2 H2 f i d e x H3 y => by
    simp only [lstSrc, Option.map_eq_some_iff] at e
    obtain ⟨ds, e1, e2⟩ := e
    obtain ⟨vs, q, r⟩ := f.rs.list e1
    rw [f.ext n hn] at q
    obtain ⟨v, hv, rv⟩ := r.get e2
    obtain ⟨rfl, y⟩ := y
    have := y vs q
    rw [hv] at this; cases this
    exact ⟨Fin.refl f.rs, rv⟩
  stop := fun m2 S2 H2 f i e => by
    simp only [lstSrc, Option.map_eq_some_iff] at e
    obtain ⟨ds, e1, e2⟩ := e
    obtain ⟨vs, q, r⟩ := f.rs.list e1
    rw [f.ext n hn] at q
    refine ⟨vs, q, ?_⟩
    rw [r.length]
    exact List.getElem?_eq_none_iff.mp e2
theorem mi_tup {f : Ex} (h : ME X W iter f) : MI X W tg iter (iSeq f) := pi_imp (pi_tup h) fun σ H R q => by
  obtain ⟨m, S, ρ, rs, re, q⟩ := tI_bind (P := Rv X.K) (f := f) q
  refine ⟨m, S, ρ, rs, re, q.mono fun v H1 ⟨m1, S1, d, ρ1, rs1, re1, p, q1⟩ => ?_⟩
  cases d <;> first | exact q1.elim | skip
  obtain ⟨a, vs, rfl, qs, r⟩ := p.tup
  exact ⟨a, rfl, ⟨vs, qs⟩, q1 m1 H1 _ (Fin.refl rs1) (itrel_tup qs r)⟩
theorem mi_lst {f : Ex} (h : ME X W iter f) : MI X W tg iter (iLst f) := pi_imp (pi_list h) fun σ H R q => by
  obtain ⟨m, S, ρ, rs, re, q⟩ := tI_bind (P := Rv X.K) (f := f) q
  refine ⟨m, S, ρ, rs, re, q.mono fun v H1 ⟨m1, S1, d, ρ1, rs1, re1, p, q1⟩ => ?_⟩
  cases d <;> first | exact q1.elim | skip
  rename_i n
  cases e : lstOf S1 n with
  | none => simp only [e] at q1
  | some ds =>
    simp only [e] at q1
    obtain ⟨hn, rfl⟩ := p.loc
    obtain ⟨vs, qs, r⟩ := rs1.list e
    exact ⟨m1 n, rfl, ⟨vs, qs⟩, q1 m1 H1 _ (Fin.refl rs1) (itrel_lst hn)⟩
def rngD (lo : Int) (n : Nat) : Src := ⟨fun i _ => some (if i < n then some (.int (lo + i)) else none), n⟩
theorem itrel_rng {K : PySem.W.Frag} {m : Nat → Addr} {S : Store} {H : Hp} {lo : Int} {n : Nat} : ItRel K (rngD lo n) (Itr lo n) m S H where
  go := fun m2 S2 H2 f i d e => by
    simp only [rngD, Option.some.injEq] at e
    split at e
    · assumption
    · cases e
  yld := fun m2 S2 H2 f i d e x H3 y => by
    obtain ⟨rfl, rfl⟩ := y
    simp only [rngD, Option.some.injEq] at e
    split at e
    · cases e; exact ⟨Fin.refl f.rs, rfl⟩
    · cases e
  stop := fun m2 S2 H2 f i e => by
    simp only [rngD, Option.some.injEq] at e
    split at e
    · cases e
    · show n ≤ i; omega
def iRng1 (f : Ax) : Ix := bnd f fun ds _ S => match ds with
  | [.int j] => if -(2 ^ 62) ≤ j ∧ j < 2 ^ 62 then .ok (rngD 0 j.toNat) S else .er
  | _ => .er
def iRng2 (f : Ax) : Ix := bnd f fun ds _ S => match ds with
  | [.int i, .int j] => if -(2 ^ 62) ≤ i ∧ i < 2 ^ 62 ∧ -(2 ^ 62) ≤ j ∧ j < 2 ^ 62 then .ok (rngD i (j - i).toNat) S else .er
  | _ => .er
theorem mi_rng1 {a : Expr} {fa : Ax} {p pos : Pos} (hg : Gl X "range") (hm : X.mg "range" = none) (ha : MA X W [a] fa) (hs : starEach [a] X.env = [(false, eval a X.env)] := by rfl) : MI X W tg (.Call (.Name "range" p) [a] [] pos) (iRng1 fa) :=
  pi_imp (pi_range1 hg hm ha hs) fun σ H R q => by
    obtain ⟨m, S, ρ, rs, re, q⟩ := tI_bind (P := Rvs X.K) (f := fa) q
    refine ⟨m, S, ρ, rs, re, q.mono fun v H1 ⟨m1, S1, ds, ρ1, rs1, re1, p1, q1⟩ => ?_⟩
    split at q1
    · rename_i src S2 hh
      split at hh
      · rename_i j
        split at hh
        · rename_i hj
          cases hh
          simp only [Rvs] at p1
          obtain ⟨v1, _, rfl, rfl, rfl⟩ := p1
          exact ⟨_, rfl, hj.1, hj.2, q1 m1 H1 _ (Fin.refl rs1) itrel_rng⟩
        · cases hh
      · cases hh
    · rename_i hh
      split at hh
      · split at hh <;> cases hh
      · cases hh
    · exact q1.elim
theorem mi_rng2 {a b : Expr} {fa : Ax} {p pos : Pos} (hg : Gl X "range") (hm : X.mg "range" = none) (ha : MA X W [a, b] fa) (hs : starEach [a, b] X.env = [(false, eval a X.env), (false, eval b X.env)] := by rfl) (hs2 : starEach [b] X.env = [(false, eval b X.env)] := by rfl) : MI X W tg (.Call (.Name "range" p) [a, b] [] pos) (iRng2 fa) :=
  pi_imp (pi_range2 hg hm ha hs hs2) fun σ H R q => by
    obtain ⟨m, S, ρ, rs, re, q⟩ := tI_bind (P := Rvs X.K) (f := fa) q
    refine ⟨m, S, ρ, rs, re, q.mono fun v H1 ⟨m1, S1, ds, ρ1, rs1, re1, p1, q1⟩ => ?_⟩
    split at q1
    · rename_i src S2 hh
      split at hh
      · rename_i i j
        split at hh
        · rename_i hj
          cases hh
          simp only [Rvs] at p1
          obtain ⟨v1, _, rfl, rfl, v2, _, rfl, rfl, rfl⟩ := p1
          exact ⟨_, _, rfl, hj, q1 m1 H1 _ (Fin.refl rs1) itrel_rng⟩
        · cases hh
      · cases hh
    · rename_i hh
      split at hh
      · split at hh <;> cases hh
      · cases hh
    · exact q1.elim
end
end M1

end

section
set_option maxRecDepth 100000
set_option maxHeartbeats 2000000
/-! M5: defs, calls, methods, new instances, fields stored -/
namespace M1
open PySem PySem.Spec PyProof.Rows L2

abbrev Fn := List D → Store → R D
def startE (N : Nat) (ds : List D) : Env := ds.map some ++ List.replicate (N - ds.length) none
def mkFn (n N : Nat) (b : Sm) : Fn := fun ds S => if ds.length = n then match b (startE N ds) S with
    | .nx _ S' => .ok .non S'
    | .rt d S' => .ok d S'
    | .ex C d _ S' => .ex C d S'
    | _ => .er
  else .er
/-- a def's promise by its mirror -/
def AftF (K : PySem.W.Frag) (r : R D) (m : Nat → Addr) (S : Store) (H : Hp) (Q : VK) (E : XK) : Prop :=
  match r with
  | .ok d S' => ∀ m' H' v, Fin K m S H m' S' H' → Rv K m' S'.length H' d v → Q v H'
  | .ex C d S' => ∀ m' H', Fin K m S H m' S' H' → E C (d.map m') H'
  | .er => False
def spM (K : PySem.W.Frag) (n : Nat) (F : Fn) : Sp := fun vs H Q E => vs.length = n ∧ ∃ m S ds, RS K m S H ∧ Rvs K m S.length H ds vs ∧ AftF K (F ds S) m S H Q E

section
variable {P : Program} {w : World} {K : PySem.W.Frag} {mg : Str → Option Value} {base : Heap} {x qual : Str} {params : Arguments} {body : List Stmt} {scope : Scope} {dvs : List V} {kws : List (Str × V)} {f : Addr} {fd : FuncData}
theorem re_start {m : Nat → Addr} {S : Store} {H : Hp} {N : List Str} {ds : List D} {vs : List V} (r : Rvs K m S.length H ds vs) : RE K m S.length H (startE N.length ds) (L2.start N vs) := by
  have l := r.length
  refine ⟨by simp [startE, L2.start, l], fun i d e => ?_⟩
  unfold startE at e
  by_cases hi : i < ds.length
  · rw [List.getElem?_append_left (by simpa using hi), List.getElem?_map] at e
    cases e1 : ds[i]? with
    | none => rw [e1] at e; cases e
    | some x =>
      rw [e1] at e
      cases e
      obtain ⟨v, h1, h2⟩ := r.get e1
      refine ⟨v, ?_, h2⟩
      unfold L2.start
      rw [List.getElem?_append_left (by rw [List.length_map, l]; exact hi), List.getElem?_map, h1]
      rfl
  · rw [List.getElem?_append_right (by simpa using hi), List.getElem?_replicate] at e
    split at e <;> cases e
theorem fn_mk {N ps : List Str} {k : Nat} {b : Sm} (F : FunD K x qual params body scope dvs kws f fd) (S : FnScope N ps scope)
    (hb : ∀ (cdv : Value) (A : Around) (outer : List PySem.Env) (s : Shared) (H : Hp) (E : XK), Room k (A.deeper (envOfC qual scope s.heap.objs.size f cdv)) →
      MSs (cxOf (L2.CX P w) P w K mg base N qual scope f cdv A outer s H E) (fun cls d _ H => E cls d H) body b) :
    FnOk P w K mg base (L2.CX P w) (k + 1) f fd ps (spM K ps.length (mkFn ps.length N.length b)) := by
  refine F.ok S (fun vs H Q E h => h.1) fun cdv A outer s H vs Q E hr h => ⟨_, hb cdv A outer s H E hr, ?_⟩
  obtain ⟨hl, m, S', ds, rs, r, q⟩ := h
  have l := r.length
  refine ⟨m, S', startE N.length ds, rs, re_start r, ?_⟩
  unfold mkFn at q
  rw [if_pos (by omega)] at q
  cases e : b (startE N.length ds) S' with
  | nx ρ S2 => rw [e] at q; exact fun m' H' σ' g _ => q m' H' _ g rfl
  | rt d S2 => rw [e] at q; exact q
  | bk ρ S2 => rw [e] at q; exact q.elim
  | ct ρ S2 => rw [e] at q; exact q.elim
  | ex C d ρ S2 => rw [e] at q; exact fun m' H' σ' g _ => q m' H' g
  | er => rw [e] at q; exact q.elim
end

/-! ### what a caller knows of a def, of a method, of a class -/
def LenOk (n : Nat) (F : Fn) : Prop := ∀ ds S, ds.length ≠ n → F ds S = .er
theorem lenOk_mk {n N : Nat} {b : Sm} : LenOk n (mkFn n N b) := fun ds S h => by unfold mkFn; rw [if_neg h]
structure Cal (P : Program) (w : World) (K : PySem.W.Frag) (mg : Str → Option Value) (base : Heap) (k : Nat) (x : Str) (F : Fn) (dd : List D) : Prop where
  ex : ∃ (n : Nat) (f : Addr) (fd : FuncData) (ps : List Str) (dvs : List V) (ds : List Value), LenOk n F ∧ FnOk P w K mg base (L2.CX P w) k f fd ps (spM K n F) ∧ mg x = some (.ref f) ∧ PySem.W.keepIn K (.ref f) = true ∧ Binds K fd ps ds ∧ Vals dvs ds ∧ ∀ m N H, Rvs K m N H dd dvs
structure Met (P : Program) (w : World) (K : PySem.W.Frag) (mg : Str → Option Value) (base : Heap) (k : Nat) (C : Addr) (x : Str) (F : Fn) (dd : List D) : Prop where
  ex : ∃ (n : Nat) (f : Addr) (fd : FuncData) (ps : List Str) (dvs : List V) (ds : List Value), LenOk n F ∧ FnOk P w K mg base (L2.CX P w) k f fd ps (spM K n F) ∧ Cls K C ∧ Meth K C x f ∧ Binds K fd ps ds ∧ Vals dvs ds ∧ ∀ m N H, Rvs K m N H dd dvs
structure Mak (P : Program) (w : World) (K : PySem.W.Frag) (mg : Str → Option Value) (base : Heap) (k : Nat) (x : Str) (C : Addr) (F : Fn) (dd : List D) : Prop where
  ex : ∃ (n : Nat) (f : Addr) (fd : FuncData) (ps : List Str) (dvs : List V) (ds : List Value), LenOk n F ∧ FnOk P w K mg base (L2.CX P w) k f fd ps (spM K n F) ∧ mg x = some (.ref C) ∧ Mk K C f ∧ Binds K fd ps ds ∧ Vals dvs ds ∧ ∀ m N H, Rvs K m N H dd dvs

section
variable {X : Cx} {W : WX} {k j : Nat} {x mm : Str} {p pos apos : Pos} {e o : Expr} {es : List Expr} {F : Fn} {dd : List D} {fa : Ax} {fo : Ex} {C : Addr}
theorem Aft.toF {K : PySem.W.Frag} {r : R D} {m : Nat → Addr} {S : Store} {H : Hp} {σ : St} {Q : VK} (h : AftE K W r m S H σ Q) : AftF K r m S H Q (WE W σ) := by
  cases r with
  | ok d S' => exact h
  | ex C d S' => exact h
  | er => exact h
theorem AftF.len {K : PySem.W.Frag} {n : Nat} {m : Nat → Addr} {S : Store} {H : Hp} {Q : VK} {E : XK} {ds : List D} (hl : LenOk n F) (h : AftF K (F ds S) m S H Q E) : ds.length = n := by
  by_cases e : ds.length = n
  · exact e
  · rw [hl ds S e] at h; exact h.elim
def eF (F : Fn) (dd : List D) (fa : Ax) : Ex := bnd fa fun ds _ S => F (ds ++ dd) S
/-- the promise at the arguments that are there -/
theorem spM_at {K : PySem.W.Frag} {n : Nat} {m : Nat → Addr} {S : Store} {H : Hp} {σ : St} {Q : VK} {ds : List D} {vs : List V} (hl : LenOk n F) (rs : RS K m S H) (r : Rvs K m S.length H ds vs) (q : AftE K W (F ds S) m S H σ Q) : spM K n F vs H Q (WE W σ) :=
  ⟨by rw [r.length]; exact AftF.len hl q.toF, m, S, ds, rs, r, q.toF⟩
theorem me_call (c : Cal X.prog X.w X.K X.mg X.base k x F dd) (hr : Room j X.A) (hk : k ≤ j) (tk : Takes X W) (hg : Gl X x) (ha : MA X W (e :: es) fa)
    (hdb : (x == ("__debug__" : Str)) = false := by decide) (he : starEach (e :: es) X.env = (false, eval e X.env) :: starEach es X.env := by rfl) (hpl : (backTo pos (starEach es X.env)).any (·.1) = false := by rfl) : ME X W (.Call (.Name x p) (e :: es) [] pos) (eF F dd fa) := by
  obtain ⟨n, f, fd, ps, dvs, ds, hl, G, hm, hkp, hb, hd, hdd⟩ := c.ex
  refine pe_imp (pe_callSD (E := WE W) G (hr.mono hk) hg hm hkp hb hd (fun σ => passAt tk σ) ha hdb he hpl) fun σ H Q q => ?_
  obtain ⟨m, S, ρ, rs, re, q⟩ := tX_bind (P := Rvs X.K) (f := fa) q
  exact ⟨m, S, ρ, rs, re, q.mono fun vs H1 ⟨m1, S1, ds1, ρ1, rs1, re1, p, q1⟩ => spM_at hl rs1 (p.append (hdd _ _ _)) q1⟩
/-- f() -/
def noX : R D → R D
  | .ok d S => .ok d S
  | _ => .er
def eF0 (F : Fn) (dd : List D) : Ex := fun _ S => noX (F dd S)
theorem me_call0 (c : Cal X.prog X.w X.K X.mg X.base k x F dd) (hr : Room j X.A) (hk : k ≤ j) (hg : Gl X x) (hdb : (x == ("__debug__" : Str)) = false := by decide) : ME X W (.Call (.Name x p) [] [] pos) (eF0 F dd) := by
  obtain ⟨n, f, fd, ps, dvs, ds, hl, G, hm, hkp, hb, hd, hdd⟩ := c.ex
  refine pe_imp (pe_call0 (E := E0) G (hr.mono hk) hg hm hkp hb hd passL hdb) fun σ H Q ⟨m, S, ρ, rs, re, q⟩ => ?_
  have q2 : AftF X.K (F dd S) m S H Q E0 := by
    unfold eF0 noX at q
    cases e : F dd S with
    | ok d S' => rw [e] at q; exact q
    | ex C d S' => rw [e] at q; exact q.elim
    | er => rw [e] at q; exact q
  exact ⟨by rw [List.nil_append, (hdd m S.length H).length]; exact AftF.len hl q2, m, S, dd, rs, hdd _ _ _, q2⟩

/-! ### methods -/
theorem Rk.none {K : PySem.W.Frag} {m : Nat → Addr} {N : Nat} {H : Hp} : ∀ {fs : List (Str × D)} {vs : List (Str × V)} {f : Str}, Rk K m N H fs vs → fs.lookup f = Option.none → vs.lookup f = Option.none
  | [], _, _, r, _ => by simp only [Rk] at r; subst r; rfl
  | (k, x) :: fs, _, f, r, e => by
    simp only [Rk] at r
    obtain ⟨v, r', rfl, r1, r2⟩ := r
    rw [List.lookup_cons] at e ⊢
    cases h : f == k with
    | true => rw [h] at e; cases e
    | false => rw [h] at e; exact Rk.none r2 e
/-- a method's name is no field of the instance -/
def metOf (C : Addr) (mm : Str) (S : Store) (d : D) : Bool := match insOf [C] S d with
  | some (_, fs) => (fs.lookup mm).isNone
  | none => false
def tMethS (C : Addr) (m : Str) (sp : Sp) (dvs : List V) (E : St → XK) (ta : TE) (t : TA) : TE := fun σ H Q => ta σ H fun x H1 => ∃ a dx fs, x = .ref a ∧ H1 a = some (.ins C dx fs) ∧ fs.lookup m = none ∧
  t σ H1 fun vs H2 => sp (x :: (vs ++ dvs)) H2 Q (E σ)
theorem pe_methSD {CX : CXT} {f : Addr} {fd : FuncData} {ps : List Str} {sp : Sp} {dvs : List V} {ds : List Value} {E : St → XK} {ta : TE} {t : TA} {pl : Sem Bool} (he : PE X o ta) (c : Cls X.K C) (hm : Meth X.K C mm f) (F : FnOk X.prog X.w X.K X.mg X.base CX k f fd ps sp) (hr : Room k X.A) (hb : Binds X.K fd ps ds) (hd : Vals dvs ds) (hx : ∀ σ, PassesAt CX X σ (E σ)) (ha : PA X (e :: es) t)
    (hst : starEach (e :: es) X.env = (false, eval e X.env) :: starEach es X.env := by rfl) (hpl : (backTo pos (starEach es X.env)).any (·.1) = false := by rfl)
    (ht : eval (.Call (.Attribute o mm apos) (e :: es) [] pos) X.env = (do
      let ov ← eval o X.env
      standAt apos.atName
      let (f, first) ← holding [ov] (getMethod ov mm pl)
      callWith pos f first (backTo pos (starEach (e :: es) X.env)) (backToKw pos (keywordEach [] X.env))) := by rfl) :
    PE X (.Call (.Attribute o mm apos) (e :: es) [] pos) (tMethS C mm sp dvs E ta t) := by
  refine ⟨fun pins s σ H Q I h => ?_⟩
  refine PySem.W.methodCall_KW (pl := pl) (thn (he.run pins s σ H _ I h) fun u s1 ⟨x, H1, I1, rx, a, dx, fs, ex, ea, l, q⟩ => ?_) ht
  subst ex
  obtain rfl : u = Value.ref a := rx
  refine getmeth_ok I1 ea c hm l ?_
  refine PySem.W.callWith_K (first := [.ref a]) (h₀ := X.base) I.ok.mod.kin hm.kp (thn (ha.run pos pins s1 σ H1 _ I1 q) fun us s2 ⟨vs, H2, I2, r, q2⟩ => ⟨I2.kIn, ?_⟩) hst hpl
  exact run_fnSD (us := .ref a :: us) (vs := .ref a :: vs) F hr hb hd (hx σ) I2 (.cons rfl r) q2
def eM (C : Addr) (mm : Str) (F : Fn) (dd : List D) (fo : Ex) (fa : Ax) : Ex := bnd fo fun o ρ S1 => if metOf C mm S1 o = true then (fa ρ S1).bind fun ds S2 => F (o :: (ds ++ dd)) S2 else .er
theorem met_at {K : PySem.W.Frag} {m : Nat → Addr} {S : Store} {H : Hp} {d : D} {v : V} (rs : RS K m S H) (r : Rv K m S.length H d v) (e : metOf C mm S d = true) : ∃ a dx vs, v = .ref a ∧ H a = some (.ins C dx vs) ∧ vs.lookup mm = none := by
  unfold metOf at e
  cases e1 : insOf [C] S d with
  | none => rw [e1] at e; cases e
  | some pr =>
    obtain ⟨C', fs⟩ := pr
    rw [e1] at e
    obtain ⟨n, dx, vs, rfl, rfl, _, hc, q, r2⟩ := rs.ins r e1
    have : C' = C := by simpa using hc
    subst this
    exact ⟨m n, dx, vs, rfl, q, r2.none (by simpa using e)⟩
theorem me_meth {pl : Sem Bool} (c : Met X.prog X.w X.K X.mg X.base k C mm F dd) (hr : Room j X.A) (hk : k ≤ j) (tk : Takes X W) (ho : ME X W o fo) (ha : MA X W (e :: es) fa)
    (hst : starEach (e :: es) X.env = (false, eval e X.env) :: starEach es X.env := by rfl) (hpl : (backTo pos (starEach es X.env)).any (·.1) = false := by rfl)
    (ht : eval (.Call (.Attribute o mm apos) (e :: es) [] pos) X.env = (do
      let ov ← eval o X.env
      standAt apos.atName
      let (f, first) ← holding [ov] (getMethod ov mm pl)
      callWith pos f first (backTo pos (starEach (e :: es) X.env)) (backToKw pos (keywordEach [] X.env))) := by rfl) : ME X W (.Call (.Attribute o mm apos) (e :: es) [] pos) (eM C mm F dd fo fa) := by
  obtain ⟨n, f, fd, ps, dvs, ds, hl, G, cl, hm, hb, hd, hdd⟩ := c.ex
  refine pe_imp (pe_methSD (E := WE W) ho cl hm G (hr.mono hk) hb hd (fun σ => passAt tk σ) ha hst hpl ht) fun σ H Q q => ?_
  obtain ⟨m, S, ρ, rs, re, q⟩ := tX_bind (P := Rv X.K) (f := fo) q
  refine ⟨m, S, ρ, rs, re, q.mono fun v H1 ⟨m1, S1, d, ρ1, rs1, re1, p, q1⟩ => ?_⟩
  split at q1
  · rename_i hmt
    obtain ⟨a, dx, vs, rfl, ha2, hno⟩ := met_at rs1 p hmt
    refine ⟨a, dx, vs, rfl, ha2, hno, m1, S1, ρ1, rs1, re1, (Aft.bind (P := Rvs X.K) q1).mono fun us H2 ⟨m2, S2, ds2, g2, p2, q2⟩ => ?_⟩
    exact spM_at hl g2.rs (.cons (g2.rv p) (p2.append (hdd _ _ _))) q2
  · exact q1.elim
theorem pe_methSD0 {CX : CXT} {f : Addr} {fd : FuncData} {ps : List Str} {sp : Sp} {dvs : List V} {ds : List Value} {E : St → XK} {ta : TE} {pl : Sem Bool} (he : PE X o ta) (c : Cls X.K C) (hm : Meth X.K C mm f) (F : FnOk X.prog X.w X.K X.mg X.base CX k f fd ps sp) (hr : Room k X.A) (hb : Binds X.K fd ps ds) (hd : Vals dvs ds) (hx : ∀ σ, PassesAt CX X σ (E σ))
    (ht : eval (.Call (.Attribute o mm apos) [] [] pos) X.env = (do
      let ov ← eval o X.env
      standAt apos.atName
      let (f, first) ← holding [ov] (getMethod ov mm pl)
      callWith pos f first (backTo pos (starEach [] X.env)) (backToKw pos (keywordEach [] X.env))) := by rfl) :
    PE X (.Call (.Attribute o mm apos) [] [] pos) (tMethS C mm sp dvs E ta tNil) := by
  refine ⟨fun pins s σ H Q I h => ?_⟩
  refine PySem.W.methodCall_KW (pl := pl) (thn (he.run pins s σ H _ I h) fun u s1 ⟨x, H1, I1, rx, a, dx, fs, ex, ea, l, q⟩ => ?_) ht
  subst ex
  obtain rfl : u = Value.ref a := rx
  refine getmeth_ok I1 ea c hm l ?_
  exact PySem.W.callWith_K0 (first := [.ref a]) I1.kIn hm.kp (run_fnSD (us := [.ref a]) (vs := [.ref a]) F hr hb hd (hx σ) I1 (.cons rfl .nil) q)
theorem me_meth0 {pl : Sem Bool} (c : Met X.prog X.w X.K X.mg X.base k C mm F dd) (hr : Room j X.A) (hk : k ≤ j) (tk : Takes X W) (ho : ME X W o fo)
    (ht : eval (.Call (.Attribute o mm apos) [] [] pos) X.env = (do
      let ov ← eval o X.env
      standAt apos.atName
      let (f, first) ← holding [ov] (getMethod ov mm pl)
      callWith pos f first (backTo pos (starEach [] X.env)) (backToKw pos (keywordEach [] X.env))) := by rfl) : ME X W (.Call (.Attribute o mm apos) [] [] pos) (eM C mm F dd fo aNil) := by
  obtain ⟨n, f, fd, ps, dvs, ds, hl, G, cl, hm, hb, hd, hdd⟩ := c.ex
  refine pe_imp (pe_methSD0 (E := WE W) ho cl hm G (hr.mono hk) hb hd (fun σ => passAt tk σ) ht) fun σ H Q q => ?_
  obtain ⟨m, S, ρ, rs, re, q⟩ := tX_bind (P := Rv X.K) (f := fo) q
  refine ⟨m, S, ρ, rs, re, q.mono fun v H1 ⟨m1, S1, d, ρ1, rs1, re1, p, q1⟩ => ?_⟩
  split at q1
  · rename_i hmt
    obtain ⟨a, dx, vs, rfl, ha2, hno⟩ := met_at rs1 p hmt
    exact ⟨a, dx, vs, rfl, ha2, hno, spM_at hl rs1 (.cons p (Rvs.append Rvs.nil (hdd _ _ _))) q1⟩
  · exact q1.elim

/-! ### a new instance -/
theorem run_makeS {CX : CXT} {f : Addr} {fd : FuncData} {ps : List Str} {sp : Sp} {dvs : List V} {ds : List Value} {E : XK} {pins : List (Addr × Obj)} {σ : St} {H : Hp} {s : Shared} {Q : VK} {us : List Value} {vs : List V} (M : Mk X.K C f) (F : FnOk X.prog X.w X.K X.mg X.base CX k f fd ps sp) (hr : Room (k + 1) X.A) (hb : Binds X.K fd ps ds) (hd : Vals dvs ds)
    (hx : PassesAt CX X σ E) (I : Inv X pins σ H s) (r : Vals vs us)
    (h : ∀ x dx, H x = none → H dx = none → dx ≠ x → sp (.ref x :: (vs ++ dvs)) (upd (upd H dx (.own x)) x (.ins C dx [])) (fun v H2 => v = .non ∧ Q (.ref x) H2) E) :
    wpAny (model X.prog X.w) X.A (call (.ref C) us) (EP X pins σ Q) X.xe s := by
  have hq := h (s.heap.objs.size + 1) s.heap.objs.size (I.hok.fresh (Nat.le_succ _)) (I.hok.fresh (Nat.le_refl _)) (Nat.ne_of_lt (Nat.lt_succ_self _))
  have I2 := Inv.made (C := C) I
  have r2 : Vals (V.ref (s.heap.objs.size + 1) :: (vs ++ dvs)) (Value.ref (s.heap.objs.size + 1) :: (us ++ ds)) := .cons rfl (r.append hd)
  have hl : (Value.ref (s.heap.objs.size + 1) :: us ++ ds).length = ps.length := by
    have e := r2.length
    rw [F.len _ _ _ _ hq] at e
    exact e.symm
  refine wpAny_call (make_map (f := f) I.kIn M.makes M.init (beq_iff_eq.mp M.fn) (codeAny_mono (F.run _ X.stack _ _ ⟨Value.ref (s.heap.objs.size + 1) :: us, []⟩ (Value.ref (s.heap.objs.size + 1) :: (us ++ ds)) _ _ E (hr.make C us [])
    (I2.env0.make C us []) (hb _ (Value.ref (s.heap.objs.size + 1) :: us) I2.kIn hl) r2 hq) fun r s' hq' => ?_))
  cases r with
  | error e => exact hx pins _ _ e s' I2 hq'
  | ok fl =>
    cases fl with
    | ret u =>
      obtain ⟨v, H', I3, rv, ev, q3⟩ := I2.after hq'
      subst ev
      exact ⟨rv, ⟨V.ref (s.heap.objs.size + 1), H', I3, rfl, q3⟩⟩
    | next => exact False.elim hq'
    | brk => exact False.elim hq'
    | cont => exact False.elim hq'
def tMakeS (C : Addr) (sp : Sp) (dvs : List V) (E : St → XK) (t : TA) : TE := fun σ H Q => t σ H fun vs H1 => ∀ x dx, H1 x = none → H1 dx = none → dx ≠ x →
  sp (.ref x :: (vs ++ dvs)) (upd (upd H1 dx (.own x)) x (.ins C dx [])) (fun v H2 => v = .non ∧ Q (.ref x) H2) (E σ)
theorem pe_makeSD {CX : CXT} {f : Addr} {fd : FuncData} {ps : List Str} {sp : Sp} {dvs : List V} {ds : List Value} {E : St → XK} {t : TA} (M : Mk X.K C f) (F : FnOk X.prog X.w X.K X.mg X.base CX k f fd ps sp) (hr : Room (k + 1) X.A) (hg : Gl X x) (hm : X.mg x = some (.ref C)) (hb : Binds X.K fd ps ds) (hd : Vals dvs ds) (hx : ∀ σ, PassesAt CX X σ (E σ))
    (ha : PA X (e :: es) t) (hdb : (x == ("__debug__" : Str)) = false := by decide) (he : starEach (e :: es) X.env = (false, eval e X.env) :: starEach es X.env := by rfl) (hpl : (backTo pos (starEach es X.env)).any (·.1) = false := by rfl) :
    PE X (.Call (.Name x p) (e :: es) [] pos) (tMakeS C sp dvs E t) := by
  refine ⟨fun pins s σ H Q I h => ?_⟩
  refine wpAny_Call_Name_kw (ld_glob I hg hm ?_ hdb)
  refine PySem.W.callWith_K (h₀ := X.base) I.ok.mod.kin M.kp (thn (ha.run pos pins s σ H _ I h) fun us s1 ⟨vs, H1, I1, r, q⟩ => ⟨I1.kIn, ?_⟩) he hpl
  exact run_makeS M F hr hb hd (hx σ) I1 r q
def eMk (C : Addr) (F : Fn) (dd : List D) (fa : Ax) : Ex := bnd fa fun ds _ S1 => (F (.loc S1.length :: (ds ++ dd)) (S1 ++ [.ins C []])).bind fun r S2 => match r with
  | .non => .ok (.loc S1.length) S2
  | _ => .er
theorem made_at {K : PySem.W.Frag} {n : Nat} {m : Nat → Addr} {S : Store} {H : Hp} {σ : St} {Q : VK} {ds : List D} {vs : List V} (hl : LenOk n F) (rs : RS K m S H) (r : Rvs K m S.length H ds vs)
    (q : AftE K W ((F (.loc S.length :: ds) (S ++ [.ins C []])).bind fun r S2 => match r with | .non => .ok (.loc S.length) S2 | _ => .er) m S H σ Q) {x dx : Addr} (hx : H x = none) (hdx : H dx = none) (ne : dx ≠ x) :
    spM K n F (.ref x :: vs) (upd (upd H dx (.own x)) x (.ins C dx [])) (fun v H2 => v = .non ∧ Q (.ref x) H2) (WE W σ) := by
  have f1 : Fin K m S H m S (upd H dx (.own x)) := Fin.junk rs hdx
  have hx1 : (upd H dx (.own x)) x = none := by rw [upd_ne (Ne.symm ne)]; exact hx
  have f2 : Fin K m S (upd H dx (.own x)) (ext1 m S.length x) (S ++ [.ins C []]) (upd (upd H dx (.own x)) x (.ins C dx [])) := Fin.new f1.rs hx1 ⟨dx, [], upd_same, by simp only [Rk]⟩
  have f := f1.trans f2
  have rl : Rv K (ext1 m S.length x) (S ++ [SO.ins C []]).length (upd (upd H dx (.own x)) x (.ins C dx [])) (.loc S.length) (.ref x) := by
    have := Rv.mk_loc (K := K) (m := ext1 m S.length x) (N := (S ++ [SO.ins C []]).length) (H := upd (upd H dx (.own x)) x (.ins C dx [])) (n := S.length) (by simp)
    rw [ext1_new] at this
    exact this
  have rr := Rvs.cons rl (f.rvs r)
  have key : AftF K (F (.loc S.length :: ds) (S ++ [.ins C []])) (ext1 m S.length x) (S ++ [.ins C []]) (upd (upd H dx (.own x)) x (.ins C dx [])) (fun v H2 => v = .non ∧ Q (.ref x) H2) (WE W σ) := by
    have q2 := Aft.shift f q
    cases e : F (.loc S.length :: ds) (S ++ [.ins C []]) with
    | ok d S' =>
      rw [e] at q2
      simp only [R.bind] at q2
      intro m' H' v g p
      cases d <;> first | exact q2.elim | skip
      cases p
      refine ⟨rfl, ?_⟩
      exact q2 m' H' _ g (g.rv rl)
    | ex C d S' => rw [e] at q2; exact q2
    | er => rw [e] at q2; exact q2
  exact ⟨by rw [rr.length]; exact AftF.len hl key, _, _, _, f.rs, rr, key⟩
theorem me_make (c : Mak X.prog X.w X.K X.mg X.base k x C F dd) (hr : Room j X.A) (hk : k + 1 ≤ j) (tk : Takes X W) (hg : Gl X x) (ha : MA X W (e :: es) fa)
    (hdb : (x == ("__debug__" : Str)) = false := by decide) (he : starEach (e :: es) X.env = (false, eval e X.env) :: starEach es X.env := by rfl) (hpl : (backTo pos (starEach es X.env)).any (·.1) = false := by rfl) : ME X W (.Call (.Name x p) (e :: es) [] pos) (eMk C F dd fa) := by
  obtain ⟨n, f, fd, ps, dvs, ds, hl, G, hm, M, hb, hd, hdd⟩ := c.ex
  refine pe_imp (pe_makeSD (E := WE W) M G (hr.mono hk) hg hm hb hd (fun σ => passAt tk σ) ha hdb he hpl) fun σ H Q q => ?_
  obtain ⟨m, S, ρ, rs, re, q⟩ := tX_bind (P := Rvs X.K) (f := fa) q
  exact ⟨m, S, ρ, rs, re, q.mono fun vs H1 ⟨m1, S1, ds1, ρ1, rs1, re1, p, q1⟩ a dx ha hdx ne => made_at hl rs1 (p.append (hdd _ _ _)) q1 ha hdx ne⟩

/-! ### fields stored -/
def sFld (cs : List Addr) (fo : Ex) (nm : Str) (fv : Ex) : Sm := sE fv fun v ρ S => (fo ρ S).out ρ fun o S2 => match o, insOf cs S2 o with
  | .loc n, some (C, fs) => if fs.length < 1000 then .nx ρ (S2.set n (.ins C (putD nm v fs))) else .er
  | _, _ => .er
theorem ms_fld {nm : Str} {value : Expr} {pos' : Pos} {cs : List Addr} {fv : Ex} (ho : ME X W o fo) (hv : ME X W value fv) (hcs : ∀ C ∈ cs, Cls X.K C ∧ NoAttr X.K C nm) (hs : swapsWith value (some (.Attribute o nm pos')) pos.line X.env = pure false := by rfl) : MS X W (.Assign [.Attribute o nm pos'] value pos) (sFld cs fo nm fv) := by
  refine ps_imp (ps_fld ho hv hs) fun E σ H q => ?_
  obtain ⟨m, S, ρ, rs, re, q⟩ := tS_bind (P := Rv X.K) (f := fv) q
  refine ⟨m, S, ρ, rs, re, q.mono fun v H1 ⟨m1, S1, d, ρ1, rs1, re1, p, q1⟩ => ?_⟩
  have q2 : tS X.K W (sE fo fun o ρ S2 => match o, insOf cs S2 o with
    | .loc n, some (C, fs) => if fs.length < 1000 then .nx ρ (S2.set n (.ins C (putD nm d fs))) else .er
    | _, _ => .er) E σ H1 := ⟨m1, S1, ρ1, rs1, re1, q1⟩
  clear q2
  refine ⟨m1, S1, ρ1, rs1, re1.at_, ?_⟩
  cases e1 : fo ρ1 S1 with
  | er => rw [e1] at q1; exact q1
  | ex C d S' => rw [e1] at q1; exact fun m' H' g => q1 m' H' σ g (g.re re1)
  | ok o2 S2 =>
    rw [e1] at q1
    intro m2 H2 u g2 p2
    have q3 := AftS.shift g2 q1
    simp only [R.out] at q3
    split at q3
    · rename_i n C fs hi
      split at q3
      · rename_i hz
        obtain ⟨n', dx, vs, en, rfl, hS, hc, hH, r2⟩ := g2.rs.ins p2 hi
        cases en
        refine ⟨m2 n, C, dx, vs, rfl, hH, (hcs C hc).1, (hcs C hc).2, by rw [r2.length]; exact hz, ?_⟩
        have mo : Mono X.K H2 (upd H2 (m2 n) (.ins C dx (putF nm v vs))) := Mono.write hH (fun _ z => by cases z) (fun _ _ z => by cases z)
        have fw : Fin X.K m2 S2 H2 m2 (S2.set n (.ins C (putD nm d fs))) (upd H2 (m2 n) (.ins C dx (putF nm v vs))) :=
          Fin.write g2.rs hS rfl ⟨dx, _, upd_same, (r2.up (Nat.le_refl _) (fun _ _ => rfl) mo).put ((g2.rv p).up (Nat.le_refl _) (fun _ _ => rfl) mo)⟩
        exact q3 m2 _ σ fw (fw.re (g2.re re1))
      · exact q3.elim
    · exact q3.elim
end
end M1

end

section
set_option maxRecDepth 100000
set_option maxHeartbeats 2000000
/-! M6a: an exception out of a comprehension's block -/
namespace M1
open PySem PySem.Spec PyProof.Rows L2

section
variable {M : Model} {A : Around} {E : Value → Shared → Prop} {s : Shared} {Z : Obj → Prop} {base : Heap} {env : Env} {outer l : List PySem.Env} {L e : Addr}
/-- noted from another frame's hand -/
theorem looks_atZ {Q : Unit → Shared → Prop} {env : PySem.Env} {fl : Value} (hZ : HandSPX.Steady Z) (hfr : A.frames = some (env :: outer)) (hf : env.frame = some L) (hkb : base.StaysIn s.heap) (hen : base.get? e = none) (hl : s.heap.FunFrames base (env :: outer)) (ht : HandSPX.TracedZ s.heap base e Z fl) (hne : (fl == rawInt L) = false)
    (hQ : ∀ h', HandSPX.HeldZ base (env :: outer) e Z L h' → s.heap.UpToSlots h' → Q () { s with heap := h' }) : wpAny M A (noteFrame (.ref e) env) Q E s := by
  obtain ⟨oe, vs, T, oT, ts, he, hz, hd, h1, hnT, hTe, hT, hdT, h3⟩ := ht
  unfold noteFrame
  simp only [hf]
  refine wpAny_bind (wpAny_field he hd h1 ?_)
  rw [if_pos (show (Value.ref T != Value.none) = true from by simp)]
  refine wpAny_bind (wpAny_field hT hdT h3 ?_)
  rw [if_neg (by rw [hne]; decide)]
  refine wpAny_bind (wpAny_setField hT hdT (Array.getElem?_eq_some_iff.mp h3).1 ?_)
  have other : ∀ b, b ≠ T → (s.heap.update T (Obj.mapFields (·.setIfInBounds 3 Value.none))).get? b = s.heap.get? b := fun b hb => Heap.get?_update_other _ _ (Ne.symm hb)
  have noRecord : ∀ b o, s.heap.get? b = some o → (∀ vs, o.data ≠ .fields vs) → b ≠ T := fun b o hb hnf q => by
    rw [q, hT] at hb; injection hb with hb; subst hb; exact hnf ts hdT
  refine HandSPX.wpAny_entryZ hZ hfr (hl.of_keeps fun b o hb hnf => ⟨o, (other b (noRecord b o hb hnf)).trans hb, rfl⟩) hf ((other e (Ne.symm hTe)).trans he)
    (fun b o hbo => (other b fun q => by rw [q, hnT] at hbo; cases hbo).trans (hkb b o hbo)) hen hd (Array.getElem?_eq_some_iff.mp h1).1 hz fun h' hN => ?_
  obtain ⟨x1, x2, x3, x4⟩ := hN
  exact hQ h' ⟨x1, hen, x2, x3⟩ fun b o hb hnf => x4 b o ((other b (noRecord b o hb hnf)).trans hb) hnf
theorem traced_hide {h h' : Heap} {C : Addr} {fl : Value} {m : Str → Option Value} (x : HandSPX.TracedZ h base e Z fl) (hn : h.Ns C m) (hs : Heap.SameBut C h h') : HandSPX.TracedZ h' (PySem.W.hideAll base [C]) e Z fl := by
  obtain ⟨oe, vs, T, oT, ts, he, hc, hd, h1, hnT, hTe, hT, hdT, h3⟩ := x
  obtain ⟨oL, es, ep, hoL, hdL, _⟩ := hn
  have neE : e ≠ C := fun q => by
    rw [q, hoL] at he
    have z := Option.some.inj he
    rw [← z, hdL] at hd
    cases hd
  have neT : T ≠ C := fun q => by
    rw [q, hoL] at hT
    have z := Option.some.inj hT
    rw [← z, hdL] at hdT
    cases hdT
  refine ⟨oe, vs, T, oT, ts, (hs.2 e neE).trans he, hc, hd, h1, ?_, hTe, (hs.2 T neT).trans hT, hdT, h3⟩
  cases q : (PySem.W.hideAll base [C]).get? T with
  | none => rfl
  | some o => have z := PySem.W.of_hideAll _ q; rw [hnT] at z; cases z
end

section
variable {X : Cx} {W : WX} {pins : List (Addr × Obj)} {σ : St} {H : Hp} {s : Shared}
/-- the context of a block, what leaves it owed to X -/
abbrev blkX (X : Cx) (s : Shared) (H : Hp) (scope : Scope) (ce : PySem.Env) (fp : List Addr) : Cx :=
  { X.blk s H scope ce fp with xe := notedBy (model X.prog X.w) X.A ce (CompFails (model X.prog X.w) X.A X.xe ce) }
theorem takes_blk {scope : Scope} {ce : PySem.Env} {fp : List Addr} (I3 : Inv X pins σ H s) (hs : X.stack = X.env :: X.outer) (hf : X.env.frame = some X.env.locals) (hcf : ce.frame = X.env.frame) (cL : ce.locals = s.heap.objs.size)
    (f3 : ∀ b ∈ fp, FpOk X pins H b ∧ b < s.heap.objs.size) (tk : Takes X W) : Takes (blkX X s H scope ce fp) (fun cls d _ H' => W cls d σ H') := by
  rintro u s' ⟨a, B, sI, pins', σ', H', cls, d, rfl, I, nb, up, sky, na, os, ag, w⟩
  have hfr : X.A.frames = some (X.env :: X.outer) := by rw [I3.ok.frames, hs]
  have hfree : H' s.heap.objs.size = none := by have z : H' ce.locals = none := I.free; rw [cL] at z; exact z
  have hlt : X.env.locals < s.heap.objs.size := I3.lt
  -- the state without the block
  have noC : ∀ {h : Heap} {b : Addr} {o : Obj}, (PySem.W.hideAll h [s.heap.objs.size]).get? b = some o → b ≠ s.heap.objs.size := fun {h b o} e z => by
    rw [PySem.W.hideAll_none [s.heap.objs.size] (by simp [z])] at e; cases e
  have getC : ∀ {h : Heap} {b : Addr} {o : Obj}, h.get? b = some o → b ≠ s.heap.objs.size → (PySem.W.hideAll h [s.heap.objs.size]).get? b = some o := fun {h b o} e n => PySem.W.hideAll_get _ e (by simpa using n)
  have old : ∀ {b : Addr} {o : Obj}, s.heap.get? b = some o → b ≠ s.heap.objs.size := fun {b o} e => Nat.ne_of_lt (Heap.lt_size e)
  have un : Un (frs X.stack) fp H H' s.heap (PySem.W.hideAll sI.heap [s.heap.objs.size]) := by
    have u := I.base
    refine ⟨fun b o e n hb hx => getC (u.keep b o e n hb hx) (old e), fun b o e n hb hx => ?_, u.free, fun b o e hx => ?_, u.tups, u.frzs, u.tbls⟩
    · obtain ⟨sl, q⟩ := u.slot b o e n hb hx
      exact ⟨sl, getC q (old e)⟩
    · obtain ⟨o', q⟩ := u.there b o e hx
      exact ⟨o', getC q (old e)⟩
  have hok : HOk X.prog X.w H' (PySem.W.hideAll sI.heap [s.heap.objs.size]) := fun b o q =>
    (I.hok b o q).stay (fun c u hc r => getC r fun z => by
      rcases hc with hc | hc
      · rw [← hc, z, hfree] at q; cases q
      · rw [z, hfree] at hc; cases hc) (fun _ r => r) fun _ _ r => r
  have J : Inv X pins σ H' { sI with heap := PySem.W.hideAll sI.heap [s.heap.objs.size] } :=
    I3.call' (ch := fp) (s' := { sI with heap := PySem.W.hideAll sI.heap [s.heap.objs.size] }) I.os un hok I.bare fun b hb => ⟨(f3 b hb).1.2.2.2.1, (f3 b hb).1.2.1, (f3 b hb).1.2.2.2.2.1, (f3 b hb).1.2.2.2.2.2⟩
  obtain ⟨m, hn, _⟩ := I.loc
  have hn : sI.heap.Ns s.heap.objs.size m := by have z : sI.heap.Ns ce.locals m := hn; rw [cL] at z; exact z
  have hn1 : s'.heap.Ns s.heap.objs.size m := up.ns hn
  have fin : ∀ h1, HandSPX.HeldZ B (X.env :: X.outer) a (Zc cls d) X.env.locals h1 → s'.heap.UpToSlots h1 → CompFails (model X.prog X.w) X.A X.xe ce (.ref a) { s' with heap := h1 } := fun h1 hh up1 => by
    refine ⟨m, by rw [cL]; exact up1.ns hn1, fun h2 m2 hn2 hs2 => ?_⟩
    rw [cL] at hn2 hs2
    obtain ⟨b1, b0, f1, t1⟩ := hh
    have t2 := traced_hide t1 (up1.ns hn1) hs2
    have ft2 : h2.FunFrames B (X.env :: X.outer) := Heap.FunFrames.sameBut hs2 hn2 f1
    have hB' : ∀ {b : Addr}, B.get? b = none → (PySem.W.hideAll B [s.heap.objs.size]).get? b = none := fun {b} e => by
      cases q : (PySem.W.hideAll B [s.heap.objs.size]).get? b with
      | none => rfl
      | some o => have z := PySem.W.of_hideAll _ q; rw [e] at z; cases z
    have f2 : h2.FunFrames (PySem.W.hideAll B [s.heap.objs.size]) (X.env :: X.outer) := funFrames_none ft2 fun L hL => hB' (ft2.mem hL).1
    have b2 : (PySem.W.hideAll B [s.heap.objs.size]).StaysIn h2 := fun b o e => (hs2.2 b (noC e)).trans (b1 b o (PySem.W.of_hideAll _ e))
    have hh2 : HandSPX.HeldZ (PySem.W.hideAll B [s.heap.objs.size]) (X.env :: X.outer) a (Zc cls d) X.env.locals h2 := ⟨b2, hB' b0, f2, t2⟩
    obtain ⟨oe, vs, T, oT, ts, he, hc, hd, h1', r⟩ := t2
    unfold PySem.passOn
    refine wpAny_bind (wpAny_field he hd h1' ?_)
    rw [if_neg (show ¬ ((Value.ref T == Value.none) = true) from by simp)]
    rw [hcf, hf]
    refine wpAny_bind (HandSPX.setFlight_onZ (s := { { s' with heap := h1 } with heap := h2 }) hh2 fun h3 hh3 up3 => ?_)
    refine wpAny_throw ?_
    refine tk _ _ ⟨a, PySem.W.hideAll B [s.heap.objs.size], { sI with heap := PySem.W.hideAll sI.heap [s.heap.objs.size] }, pins, σ, H', cls, d, rfl, J, fun b o e hb => getC (nb b o (PySem.W.of_hideAll _ e) hb) (noC e), fun b o e hd' => ?_, .inr (.inr (by rw [hs]; exact hh3)), na, os, ag, w⟩
    obtain ⟨sl, e1⟩ := up b o (PySem.W.of_hideAll _ e) hd'
    obtain ⟨sl2, e2⟩ := up1 b _ e1 hd'
    obtain ⟨sl3, e3⟩ := up3 b _ ((hs2.2 b (noC e)).trans e2) hd'
    exact ⟨sl3, e3⟩
  show wpAny _ _ (noteFrame (.ref a) ce) _ _ s'
  rw [noteFrame_env _ hcf]
  have sky : Sky B (X.env :: X.outer) a (Zc cls d) ce.locals s'.heap := by have z : Sky B X.stack a (Zc cls d) ce.locals s'.heap := sky; rw [hs] at z; exact z
  rcases sky with ⟨hB, hn', hl, oe, vs, he, hz, hd, h1⟩ | fl | hh
  · exact HandSPX.look_newZ Zc.steady hfr hl hf he hB hn' hd h1 hz fin
  · exact HandSPX.looks_onZ Zc.steady hfr hf fl fin
  · refine looks_atZ Zc.steady hfr hf hh.1 hh.2.1 hh.2.2.1 hh.2.2.2 ?_ fin
    rw [cL]
    simp only [rawInt, beq_eq_false_iff_ne, ne_eq, Value.int.injEq, Int.ofNat_inj]
    intro z
    exact absurd hlt (by simp_all)
end
end M1

end

section
set_option maxRecDepth 100000
set_option maxHeartbeats 2000000
/-! M6b: list comprehensions whose tests and elements may raise (after HandS's own rule, its proof turned to a block that raises) -/
namespace M1
open PySem PySem.Spec PyProof.Rows L2

abbrev blkE (X : Cx) (s : Shared) (H : Hp) (scope : Scope) (ce : PySem.Env) (fp : List Addr) (xe : Value → Shared → Prop) : Cx := { X.blk s H scope ce fp with xe := xe }
theorem thnE {α : Type} {t : Sem α} {Q Q' : α → Shared → Prop} {M : Model} {A : Around} {E E' : Value → Shared → Prop} {s : Shared} (h : wpAny M A t Q E s) (hE : ∀ e s, E e s → E' e s) (hQ : ∀ a s, Q a s → Q' a s) : wpAny M A t Q' E' s := wpAny_mono h hQ hE

def tLcX (wi : TI) (g : TG) (tt : St → TT) (te : St → TE) (vs : List Nat) : TE := fun σ H Q => wi σ H fun J H1 => ∀ D, H1 D = none → ∃ W : Nat → Nat → Hp → Prop, (∃ m, W 0 m (upd H1 D (.lst []))) ∧ ∀ i m H, W i m H →
  (J.stop i H ∧ Q (.ref D) H) ∨ (J.go i H ∧ ∃ Nx : Hp → Prop, (∀ H', Nx H' → ∃ m', m' < m ∧ W (i + 1) m' H') ∧ ∀ x H', J.yld i H x H' → g x (wipe σ vs) H' fun σ2 H2 => wipe σ2 vs = wipe σ vs ∧ tt σ σ2 H2 fun b H3 =>
    if b = true then te σ σ2 H3 fun y H4 => ∃ acc, H4 D = some (.lst acc) ∧ acc.length < sizeLine ∧ Nx (upd H4 D (.lst (acc ++ [y]))) else Nx H3)

theorem _root_.L2.Inv.reX {X : Cx} {pins : List (Addr × Obj)} {σ : St} {H : Hp} {s : Shared} (I : Inv X pins σ H s) (xe : Value → Shared → Prop) : Inv { X with xe := xe } pins σ H s :=
  ⟨I.ok.toTry X.pn xe, I.os, I.bare, I.base, I.loc, I.cell, I.free, I.freeC, I.pin, I.hok, I.len⟩
section
variable {X : Cx} {W0 : WX}
theorem lc_coreX {pins : List (Addr × Obj)} {s : Shared} {σ : St} {H : Hp} {Q : VK} {elt tg iter : Expr} {ifs : List Expr} {scope : Scope} {own : List (Str × Nat)} {pos pos' : Pos} {wi : TI} {g : TG} {tt : St → TT} {te : St → TE} {use : Option (Value → Sem Unit)} {Qf : Value → Shared → Prop}
    (hst : X.stack = X.env :: X.outer) (hf : X.env.frame = some X.env.locals) (tk : Takes X W0)
    (hc : X.calm = true) (hN : X.N.Nodup) (I : Inv X pins σ H s) (hi : PI X tg iter wi) (ok : BlkOk X.N X.env.scope scope own)
    (hg : ∀ (s : Shared) (H : Hp) (C : Addr) (cl : List (Str × Addr)) (fp : List Addr) (xe : Value → Shared → Prop), PG (blkE X s H scope (compEnvC scope cl C X.env) fp xe) tg g)
    (ht : ∀ (σ : St) (s : Shared) (H : Hp) (C : Addr) (cl : List (Str × Addr)) (fp : List Addr) (xe : Value → Shared → Prop), Takes (blkE X s H scope (compEnvC scope cl C X.env) fp xe) (fun c d _ H => W0 c d σ H) → PTs (blkE X s H scope (compEnvC scope cl C X.env) fp xe) ifs (tt σ))
    (he : ∀ (σ : St) (s : Shared) (H : Hp) (C : Addr) (cl : List (Str × Addr)) (fp : List Addr) (xe : Value → Shared → Prop), Takes (blkE X s H scope (compEnvC scope cl C X.env) fp xe) (fun c d _ H => W0 c d σ H) → PE (blkE X s H scope (compEnvC scope cl C X.env) fp xe) elt (te σ)) (hs : ∀ x, foldedSetIterable iter X.env x = pure x)
    (h : tLcX wi g tt te (own.map (·.2)) σ H Q)
    (hRR : ∀ D (ce : PySem.Env) s' m H', Inv X pins σ H' s' → Q (.ref D) H' → s'.heap.Ns ce.locals m → FpOk X pins H' ce.locals → compEnds (model X.prog X.w) X.A X.xe use Qf (.ref D) ce (.ok .next) s') :
    wpAny (model X.prog X.w) X.A (comprehension (.ListComp elt [⟨tg, iter, ifs, 0⟩] scope pos) scope X.env pos' (newList []) false (eval iter X.env) use) Qf X.xe s := by
  have hfree : ∀ y ∈ scope.names, y.2 = .free → ∃ c, X.env.cells.lookup y.1 = some c := fun y hy e => by
    rcases ok.free y hy e with k | k
    · exact I.ok.has _ (.inl k)
    · exact I.ok.has _ (.inr k)
  refine comprehension_at (use := use) rfl hs (closure_ok hfree) ok.kind (fun y hy e => by rw [ok.uniq y hy, e])
    (thn (hi.run pins s σ H _ I h) fun xv s1 hx => thn hx fun itv s2 h2 => ?_)
  obtain ⟨it, fp, tn, J, H2, e, I2, T, st2, f2, q⟩ := h2
  subst e
  refine wpAny_newObj_type (newEnv_comp ?_) (by show 0 ≤ sizeLine; decide)
  generalize hD : s2.heap.objs.size = D
  have hDn : H2 D = none := I2.hok.fresh (Nat.le_of_eq hD)
  obtain ⟨W, ⟨m0, w0⟩, turn⟩ := q D hDn
  generalize hs3 : ({ s2 with heap := s2.heap.push { cls := .type "list", data := .seq ([] : List Value).toArray } } : Shared) = s3
  have I3 : Inv X pins σ (upd H2 D (.lst [])) s3 := by
    rw [← hs3]
    refine I2.laid (t' := s2.toks) (fun b o e => Heap.get?_push_of_some _ e) (Nat.le_of_eq hD) ⟨Nat.zero_le _, [], 0, .nil, ?_⟩
    rw [← hD]
    exact Heap.get?_push_size _ rfl
  have h3 : s3.heap = s2.heap.push { cls := .type "list", data := .seq ([] : List Value).toArray } := by rw [← hs3]
  have sz : ∀ b ∈ fp, b < s2.heap.objs.size := fun b hb => by
    obtain ⟨o, e, _⟩ := T.obj _ _ st2 b hb
    exact Heap.lt_size e
  have f3 : ∀ b ∈ fp, FpOk X pins (upd H2 D (.lst [])) b ∧ b < s3.heap.objs.size := fun b hb => by
    have hlt := sz b hb
    refine ⟨⟨?_, (f2 b hb).2⟩, by rw [h3, Heap.size_push]; exact Nat.lt_succ_of_lt hlt⟩
    rw [upd_ne (by rw [← hD]; exact Nat.ne_of_lt hlt)]
    exact (f2 b hb).1
  have st3 : tn 0 s3.heap := T.keep _ _ _ st2 fun b _ o e => by rw [h3]; exact Heap.get?_push_of_some _ e
  have I4 := block_start I3 ok hN f3
  generalize hxe : notedBy (model X.prog X.w) X.A (compEnvC scope (cellsFrom (s3.heap.objs.size + 1) scope.names (cloFrom X.env.cells scope.names [])) s3.heap.objs.size X.env) (CompFails (model X.prog X.w) X.A X.xe (compEnvC scope (cellsFrom (s3.heap.objs.size + 1) scope.names (cloFrom X.env.cells scope.names [])) s3.heap.objs.size X.env)) = xe
  have tkb : Takes (blkE X s3 (upd H2 D (.lst [])) scope (compEnvC scope (cellsFrom (s3.heap.objs.size + 1) scope.names (cloFrom X.env.cells scope.names [])) s3.heap.objs.size X.env) fp xe) (fun c d _ H => W0 c d σ H) := by
    rw [← hxe]
    exact takes_blk I3 hst hf rfl rfl f3 tk
  have pg := hg s3 (upd H2 D (.lst [])) s3.heap.objs.size (cellsFrom (s3.heap.objs.size + 1) scope.names (cloFrom X.env.cells scope.names [])) fp xe
  have pt := ht σ s3 (upd H2 D (.lst [])) s3.heap.objs.size (cellsFrom (s3.heap.objs.size + 1) scope.names (cloFrom X.env.cells scope.names [])) fp xe tkb
  have pe := he σ s3 (upd H2 D (.lst [])) s3.heap.objs.size (cellsFrom (s3.heap.objs.size + 1) scope.names (cloFrom X.env.cells scope.names [])) fp xe tkb
  have hxe' : ∀ e s', xe e s' → notedBy (model X.prog X.w) X.A (compEnvC scope (cellsFrom (s3.heap.objs.size + 1) scope.names (cloFrom X.env.cells scope.names [])) s3.heap.objs.size X.env) (fun e s' => compEnds (model X.prog X.w) X.A X.xe use Qf (.ref D) (compEnvC scope (cellsFrom (s3.heap.objs.size + 1) scope.names (cloFrom X.env.cells scope.names [])) s3.heap.objs.size X.env) (.error e) s') e s' := fun e s' h => by
    rw [← hxe] at h
    exact wpAny_mono h (fun _ _ c => by cases use <;> exact c) (fun _ _ c => by cases use <;> exact c)
  show codeAny _ _ (.compStart (.ListComp elt [⟨tg, iter, ifs, 0⟩] scope pos) 0 (.ref it) (.ref D) (compEnvC scope (cellsFrom (s3.heap.objs.size + 1) scope.names (cloFrom X.env.cells scope.names [])) s3.heap.objs.size X.env)) (compEnds (model X.prog X.w) X.A X.xe use Qf (.ref D) (compEnvC scope (cellsFrom (s3.heap.objs.size + 1) scope.names (cloFrom X.env.cells scope.names [])) s3.heap.objs.size X.env)) { s3 with heap := pushCells (s3.heap.push { cls := .type "dict", data := .dict #[] }) scope.names }
  have nfp : ∀ b ∈ fp, (upd H2 D (.lst [])) b = none := fun b hb => (f3 b hb).1.1
  generalize hce : compEnvC scope (cellsFrom (s3.heap.objs.size + 1) scope.names (cloFrom X.env.cells scope.names [])) s3.heap.objs.size X.env = ce at I4 pg pt pe hxe' ⊢
  have cL : ce.locals = s3.heap.objs.size := by subst hce; rfl
  generalize hH3 : upd H2 D (.lst []) = H3 at I3 I4 pg pt pe w0 nfp f3
  have I4 : Inv (blkE X s3 H3 scope ce fp xe) [] (wipe σ (own.map (·.2))) H3 { s3 with heap := pushCells (s3.heap.push { cls := .type "dict", data := .dict #[] }) scope.names } := I4.reX xe
  generalize hs4 : ({ s3 with heap := pushCells (s3.heap.push { cls := .type "dict", data := .dict #[] }) scope.names } : Shared) = s4 at I4 ⊢
  have st4 : tn 0 s4.heap := T.keep _ _ _ st3 fun b _ o e => by rw [← hs4]; exact pushCells_keeps _ _ _ _ (Heap.get?_push_of_some _ e)
  have stat : ∀ {σ' : St} {H' : Hp} {s' : Shared}, Inv (blkE X s3 H3 scope ce fp xe) [] σ' H' s' → (∀ b ∈ fp, H' b = none) → ∀ b ∈ fp, FpOk (blkE X s3 H3 scope ce fp xe) [] H' b := fun {σ' H' s'} I' hn b hb =>
    ⟨hn b hb, (I'.ok.exf b hb).1, I'.ok.exfs b hb, .inl hb, fun x c e => (I'.ok.exf b hb).2 x c e, fun p hp => absurd (show p ∈ ([] : List (Addr × Obj)) ++ [] from hp) (by simp)⟩
  have loop : codeAny (model X.prog X.w) X.A (.compLoop (.ListComp elt [⟨tg, iter, ifs, 0⟩] scope pos) 0 (.ref it) (.ref D) ce) (compEnds (model X.prog X.w) X.A X.xe use Qf (.ref D) ce) s4 := by
    refine compLoop_any (fun n s' => ∃ i H', Inv (blkE X s3 H3 scope ce fp xe) [] (wipe σ (own.map (·.2))) H' s' ∧ tn i s'.heap ∧ (∀ b ∈ fp, H' b = none) ∧ W i n H') ?_ m0 ⟨0, H3, I4, st4, nfp, w0⟩
    rintro n s5 ⟨i, H5, I5, st5, n5, w5⟩
    rcases turn i n H5 w5 with ⟨stop, qq⟩ | ⟨go, Nx, hNx, step⟩
    · have td := T.done (blkE X s3 H3 scope ce fp xe) rfl rfl rfl hc i [] s5 _ H5 (fun _ _ => False) I5 (stat I5 n5) st5 stop
      refine thnF td fun r s6 ⟨hr, I6⟩ => ?_
      subst hr
      have I7 : Inv X pins σ H5 s6 := I3.call' (ch := fp) I6.os I6.base I6.hok I6.bare fun b hb => ⟨(f3 b hb).1.2.2.2.1, (f3 b hb).1.2.1, (f3 b hb).1.2.2.2.2.1, (f3 b hb).1.2.2.2.2.2⟩
      have nC : H5 s3.heap.objs.size = none := by
        have z : H5 ce.locals = none := I6.free
        rw [cL] at z
        exact z
      obtain ⟨m, hn, _⟩ := I6.loc
      have hn : s6.heap.Ns ce.locals m := hn
      exact hRR D ce s6 m H5 I7 qq hn (by rw [cL]; exact I3.fpOk (Nat.le_refl _) nC)
    · have ti := T.item (blkE X s3 H3 scope ce fp xe) rfl rfl rfl hc i [] s5 _ H5 (fun _ _ => False) I5 (stat I5 n5) st5 go
      refine thnF ti fun r s6 ⟨u, hr, h6⟩ => ?_
      subst hr
      refine thnF h6 fun _ s7 ⟨x, H7, I7, r7, y7, st7, n7⟩ => ?_
      have I7' := I7.pinned (stat I7 n7) (T.obj _ _ st7)
      refine thnE (pg.run _ s7 _ H7 x u _ I7' r7 (step x H7 y7)) hxe' fun _ s8 ⟨σ8, H8, I8, hw8, q8⟩ => ?_
      refine thnE (pt.run _ s8 σ8 H8 _ I8 q8) hxe' fun b s9 ⟨H9, I9, q9⟩ => ?_
      have fin : ∀ {s' : Shared} {H' : Hp}, Inv (blkE X s3 H3 scope ce fp xe) ([] ++ pinsAt fp s7.heap) σ8 H' s' → Nx H' → ∃ m, m < n ∧ ∃ i H', Inv (blkE X s3 H3 scope ce fp xe) [] (wipe σ (own.map (·.2))) H' s' ∧ tn i s'.heap ∧ (∀ b ∈ fp, H' b = none) ∧ W i m H' := fun {s' H'} I' nx => by
        obtain ⟨m', hm, w'⟩ := hNx H' nx
        have pin' : ∀ b ∈ fp, ∀ o, s7.heap.get? b = some o → s'.heap.get? b = some o ∧ H' b = none := fun b hb o e =>
          let z := I'.pin (b, o) (List.mem_append_right _ (List.mem_append_right _ (mem_pinsAt hb e)))
          ⟨z.1, z.2.1⟩
        have hl : (wipe σ (own.map (·.2))).length = σ8.length := by rw [← hw8, wipe_length]
        refine ⟨m', hm, i + 1, H', (I'.unpinned (pins := [])).weak hl (fun j v e => ?_), T.keep _ _ _ st7 fun b hb o e => (pin' b hb o e).1, fun b hb => ?_, w'⟩
        · rw [← hw8] at e
          exact (wipe_some e).1
        · obtain ⟨o, e, _⟩ := T.obj _ _ st7 b hb
          exact (pin' b hb o e).2
      cases b with
      | false =>
        simp only [Bool.false_eq_true, if_false] at q9 ⊢
        exact fin I9 q9
      | true =>
        simp only [if_true] at q9 ⊢
        refine thnE (pe.run _ s9 σ8 H9 _ I9 q9) hxe' fun z s10 ⟨yv, H10, I10, r10, acc, hD10, hz10, nx⟩ => ?_
        exact app_ok (X := blkE X s3 H3 scope ce fp xe) I10 hD10 hz10 r10 fun s11 I11 => fin I11 nx
  exact codeAny_compStart_list loop (T.self X.A 0 _ _ _ st4 loop)
end
end M1

end

section
set_option maxRecDepth 100000
set_option maxHeartbeats 2000000
/-! M6c: list comprehensions, their mirrors -/
namespace M1
open PySem PySem.Spec PyProof.Rows L2

def wipeE (ρ : Env) : List Nat → Env
  | [] => ρ
  | v :: vs => (wipeE ρ vs).set v none
theorem wipeE_length (ρ : Env) : ∀ vs : List Nat, (wipeE ρ vs).length = ρ.length
  | [] => rfl
  | v :: vs => by unfold wipeE; rw [List.length_set, wipeE_length ρ vs]
theorem set_none {α : Type} {l : List (Option α)} {v i : Nat} {x : α} (h : (l.set v none)[i]? = some (some x)) : i ≠ v ∧ l[i]? = some (some x) := by
  by_cases hi : v = i
  · subst hi
    by_cases hv : v < l.length
    · rw [List.getElem?_set_self hv] at h; cases h
    · rw [List.getElem?_eq_none (by simpa using hv)] at h; cases h
  · rw [List.getElem?_set_ne hi] at h
    exact ⟨fun e => hi e.symm, h⟩
theorem renv_wipe {K : PySem.W.Frag} {m : Nat → Addr} {N : Nat} {H : Hp} {ρ : Env} {σ : St} : ∀ vs : List Nat, Renv K m N H ρ σ → Renv K m N H (wipeE ρ vs) (wipe σ vs)
  | [], h => h
  | v :: vs, h => fun i d e => by
    unfold wipeE at e
    obtain ⟨ne, e⟩ := set_none e
    obtain ⟨u, a, b⟩ := renv_wipe vs h i d e
    unfold wipe
    exact ⟨u, by rw [List.getElem?_set_ne (Ne.symm ne)]; exact a, b⟩
theorem renv_unwipe {K : PySem.W.Frag} {m : Nat → Addr} {N : Nat} {H : Hp} {ρ : Env} {σ : St} {vs : List Nat} (h : Renv K m N H ρ (wipe σ vs)) : Renv K m N H ρ σ := fun i d e => by
  obtain ⟨u, a, b⟩ := h i d e
  exact ⟨u, (wipe_some a).1, b⟩
theorem re_wipe {K : PySem.W.Frag} {m : Nat → Addr} {N : Nat} {H : Hp} {ρ : Env} {σ : St} {vs : List Nat} (h : RE K m N H ρ σ) : RE K m N H (wipeE ρ vs) (wipe σ vs) := ⟨by rw [wipeE_length, wipe_length]; exact h.len, renv_wipe vs h.at_⟩
theorem wipe_comm {σ : St} {i : Nat} {x : Option V} : ∀ {vs : List Nat}, i ∉ vs → wipe (σ.set i x) vs = (wipe σ vs).set i x
  | [], _ => rfl
  | v :: vs, h => by
    simp only [List.mem_cons, not_or] at h
    unfold wipe
    rw [wipe_comm h.2, List.set_comm _ _ (h.1)]
theorem wipe_set {σ : St} {i : Nat} {x : Option V} : ∀ {vs : List Nat}, i ∈ vs → wipe (σ.set i x) vs = wipe σ vs
  | v :: vs, h => by
    unfold wipe
    by_cases hm : i ∈ vs
    · rw [wipe_set hm]
    · have e : i = v := by
        rcases List.mem_cons.mp h with e | e
        · exact e
        · exact absurd e hm
      subst e
      rw [wipe_comm hm, List.set_set]

theorem wipe_sub {σ : St} {vs : List Nat} : ∀ {us : List Nat}, (∀ u ∈ us, u ∈ vs) → wipe (wipe σ us) vs = wipe σ vs
  | [], _ => rfl
  | u :: us, h => by
    show wipe ((wipe σ us).set u none) vs = wipe σ vs
    rw [wipe_set (h u (List.mem_cons_self)), wipe_sub fun x hx => h x (List.mem_cons_of_mem _ hx)]
theorem wipe_idem {σ : St} {vs : List Nat} : wipe (wipe σ vs) vs = wipe σ vs := wipe_sub fun _ h => h

/-! ### targets of a comprehension: only the block's own slots -/
def tGv (K : PySem.W.Frag) (vs : List Nat) (g : Gm) : TG := fun v σ H Q => ∃ m S d ρ ρ', RS K m S H ∧ RE K m S.length H ρ σ ∧ Rv K m S.length H d v ∧ g d S ρ = some ρ' ∧ ∀ σ', RE K m S.length H ρ' σ' → wipe σ' vs = wipe σ vs → Q σ' H
def tGsv (K : PySem.W.Frag) (vs : List Nat) (g : Gs) : TGs := fun v σ H Q => ∃ m S d ρ ρ', RS K m S H ∧ RE K m S.length H ρ σ ∧ Rvs K m S.length H d v ∧ g d S ρ = some ρ' ∧ ∀ σ', RE K m S.length H ρ' σ' → wipe σ' vs = wipe σ vs → Q σ' H
section
variable {X : Cx} {pos : Pos} {vs : List Nat}
abbrev MC (X : Cx) (vs : List Nat) (e : Expr) (g : Gm) : Prop := PG X e (tGv X.K vs g)
abbrev MCs (X : Cx) (vs : List Nat) (e : List Expr) (g : Gs) : Prop := PGs X e (tGsv X.K vs g)
theorem mc_name {e : Expr} {i : Nat} (h : PG X e (gName i)) (hi : i ∈ vs) : MC X vs e (gN i) := pg_imp h fun v σ H Q ⟨m, S, d, ρ, ρ', rs, re, rv, e, q⟩ => by
  cases e
  exact q _ (re.set rv) (wipe_set hi)
theorem mcs_nil : MCs X vs [] gsNil := pgs_imp pgs_nil fun v σ H Q ⟨m, S, d, ρ, ρ', rs, re, rv, e, q⟩ => by
  cases d with
  | nil => cases e; simp only [Rvs] at rv; exact ⟨rv, q _ re rfl⟩
  | cons _ _ => cases e
theorem mcs_cons {e : Expr} {es : List Expr} {g : Gm} {h : Gs} (h1 : MC X vs e g) (h2 : MCs X vs es h) (hs : (assignEach (e :: es) X.env).map (·.2) = assign e X.env :: (assignEach es X.env).map (·.2) := by rfl) : MCs X vs (e :: es) (gsCons g h) :=
  pgs_imp (pgs_cons h1 h2 hs) fun v σ H Q ⟨m, S, d, ρ, ρ', rs, re, rv, e, q⟩ => by
    cases d with
    | nil => cases e
    | cons d ds =>
      simp only [Rvs] at rv
      obtain ⟨v1, r, rfl, r1, r2⟩ := rv
      simp only [gsCons, Option.bind_eq_some_iff] at e
      obtain ⟨ρ1, e1, e2⟩ := e
      exact ⟨v1, r, rfl, m, S, d, ρ, ρ1, rs, re, r1, e1, fun σ1 re1 w1 => ⟨m, S, ds, ρ1, ρ', rs, re1, r2, e2, fun σ2 re2 w2 => q σ2 re2 (w2.trans w1)⟩⟩
theorem mc_tup {es : List Expr} {k n : Nat} {g : Gs} (hc : X.calm = true) (h : MCs X vs es g) (hn : (assignEach es X.env).length = n := by rfl) (hst : (assignEach es X.env).findIdx? (·.1) = none := by rfl) : MC X vs (.Tuple es k pos) (gT n g) :=
  pg_imp (pg_tup hc h hn hst) fun v σ H Q ⟨m, S, d, ρ, ρ', rs, re, rv, e, q⟩ => by
    unfold gT at e
    split at e
    · rename_i ds
      split at e
      · rename_i hl
        obtain ⟨a, vs, rfl, q1, r1⟩ := rv.tup
        exact ⟨a, vs, rfl, q1, by rw [r1.length]; exact hl, m, S, ds, ρ, ρ', rs, re, r1, e, q⟩
      · cases e
    · cases e
end

/-! ### the turns -/
def compN (src : Src) (g : Gm) (t : Tx) (e : Ex) (ρ0 : Env) (L : Nat) : Nat → Nat → Store → R Unit
  | 0, _, _ => .er
  | n + 1, i, S => match src.item i S with
    | none => .er
    | some none => .ok () S
    | some (some d) => match g d S ρ0 with
      | none => .er
      | some ρ1 => (t ρ1 S).bind fun c S1 => if c = true then (e ρ1 S1).bind fun y S2 => match lstW S2 L with
          | some acc => if acc.length < sizeLine then compN src g t e ρ0 L n (i + 1) (S2.set L (.lst (acc ++ [y]))) else .er
          | none => .er
        else compN src g t e ρ0 L n (i + 1) S1
def eLc (n : Nat) (vs : List Nat) (f : Ix) (g : Gm) (t : Tx) (e : Ex) : Ex := fun ρ S => if ρ.length ≤ n then (f ρ S).bind fun src S1 =>
  (compN src g t e (wipeE ρ vs) S1.length (src.bound + 1) 0 (S1 ++ [.lst []])).bind fun _ S2 => .ok (.loc S1.length) S2 else .er
def tYesM : Tx := fun _ S => .ok true S

section
variable {X : Cx} {W : WX} {vs : List Nat} {f : Ix} {g : Gm} {t : Tx} {e : Ex}
/-- what a turn leaves -/
theorem lc_step {K : PySem.W.Frag} {m : Nat → Addr} {S : Store} {H : Hp} {L : Nat} {acc : List D} {y : D} {v : V} (rs : RS K m S H) (h : lstW S L = some acc) (r : Rv K m S.length H y v) : ∃ vs, H (m L) = some (.lst vs) ∧ vs.length = acc.length ∧ Fin K m S H m (S.set L (.lst (acc ++ [y]))) (upd H (m L) (.lst (vs ++ [v]))) := by
  obtain ⟨hS, us, q, r2⟩ := rs.listW h
  refine ⟨us, q, r2.length, Fin.write rs hS rfl ⟨us ++ [v], upd_same, ?_⟩⟩
  exact (r2.append (Rvs.one r)).up (Nat.le_refl _) (fun _ _ => rfl) (Mono.write q (fun _ z => by cases z) (fun _ _ z => by cases z))
theorem compN_ok {σ : St} {Q : VK} {D0 : Addr} {J : It} {src : Src} {m0 : Nat → Addr} {S0 : Store} {H0 : Hp} {ρ0 : Env} {L : Nat} (hL : L < S0.length) (hD : m0 L = D0) (ir : ItRel X.K src J m0 S0 H0) :
    ∀ (i k : Nat) (H : Hp), (∃ m S, Fin X.K m0 S0 H0 m S H ∧ RE X.K m S.length H ρ0 (wipe σ vs) ∧ Aft X.K (fun _ _ _ _ _ => True) W (compN src g t e ρ0 L k i S) m S H σ (fun (_ : Unit) H' => Q (.ref D0) H')) →
      (J.stop i H ∧ Q (.ref D0) H) ∨ (J.go i H ∧ ∃ Nx : Hp → Prop, (∀ H', Nx H' → ∃ k', k' < k ∧ (∃ m S, Fin X.K m0 S0 H0 m S H' ∧ RE X.K m S.length H' ρ0 (wipe σ vs) ∧ Aft X.K (fun _ _ _ _ _ => True) W (compN src g t e ρ0 L k' (i + 1) S) m S H' σ (fun (_ : Unit) H' => Q (.ref D0) H'))) ∧
        ∀ x H', J.yld i H x H' → tGv X.K vs g x (wipe σ vs) H' fun σ2 H2 => wipe σ2 vs = wipe σ vs ∧ tT X.K (fun c d _ H => W c d σ H) t σ2 H2 fun b H3 =>
          if b = true then tE X.K (fun c d _ H => W c d σ H) e σ2 H3 fun y H4 => ∃ acc, H4 D0 = some (.lst acc) ∧ acc.length < sizeLine ∧ Nx (upd H4 D0 (.lst (acc ++ [y]))) else Nx H3) := by
  rintro i k H ⟨m, S, f0, re, q⟩
  cases k with
  | zero => exact q.elim
  | succ k =>
    unfold compN at q
    cases e1 : src.item i S with
    | none => simp only [e1] at q; exact q.elim
    | some o =>
      cases o with
      | none => simp only [e1] at q; exact .inl ⟨ir.stop m S H f0 i e1, q m H () (Fin.refl f0.rs) trivial⟩
      | some d =>
        simp only [e1] at q
        cases e2 : g d S ρ0 with
        | none => simp only [e2] at q; exact q.elim
        | some ρ1 =>
          simp only [e2] at q
          refine .inr ⟨ir.go m S H f0 i d e1, fun H' => ∃ m S, Fin X.K m0 S0 H0 m S H' ∧ RE X.K m S.length H' ρ0 (wipe σ vs) ∧ Aft X.K (fun _ _ _ _ _ => True) W (compN src g t e ρ0 L k (i + 1) S) m S H' σ (fun (_ : Unit) H' => Q (.ref D0) H'), fun H' h => ⟨k, Nat.lt_succ_self _, h⟩, fun x H1 y => ?_⟩
          obtain ⟨g1, rv⟩ := ir.yld m S H f0 i d e1 x H1 y
          refine ⟨m, S, d, ρ0, ρ1, g1.rs, g1.re re, rv, e2, fun σ2 re2 w2 => ⟨w2.trans (by rw [wipe_idem]), m, S, ρ1, g1.rs, re2.at_, ?_⟩⟩
          have q1 := Aft.shift g1 q
          have q2 := Aft.bind (P := fun _ _ _ (a b : Bool) => b = a) q1
          refine (show Aft X.K (fun _ _ _ (a b : Bool) => b = a) (fun c d _ H => W c d σ H) (t ρ1 S) m S H1 σ2 _ from ?_)
          refine Aft.mono (Q := fun (b : Bool) H3 => ∃ m1 S1 d, Fin X.K m S H1 m1 S1 H3 ∧ b = d ∧ Aft X.K (fun _ _ _ _ _ => True) W (if d = true then (e ρ1 S1).bind fun y S2 => match lstW S2 L with
              | some acc => if acc.length < sizeLine then compN src g t e ρ0 L k (i + 1) (S2.set L (.lst (acc ++ [y]))) else .er
              | none => .er else compN src g t e ρ0 L k (i + 1) S1) m1 S1 H3 σ (fun (_ : Unit) H' => Q (.ref D0) H')) ?_ fun b H3 h3 => ?_
          · cases er : t ρ1 S with
            | ok c S1 => rw [er] at q2; exact q2
            | ex C d S1 => rw [er] at q2; exact q2
            | er => rw [er] at q2; exact q2
          obtain ⟨m3, S3, d3, g3, rfl, q3⟩ := h3
          cases b with
          | false => simp only [Bool.false_eq_true, if_false] at q3 ⊢; exact ⟨m3, S3, (f0.trans g1).trans g3, g3.re (g1.re re), q3⟩
          | true =>
            simp only [if_true] at q3 ⊢
            refine ⟨m3, S3, ρ1, g3.rs, g3.renv re2.at_, ?_⟩
            have q4 := Aft.bind (P := Rv X.K) q3
            refine (show Aft X.K (Rv X.K) (fun c d _ H => W c d σ H) (e ρ1 S3) m3 S3 H3 σ2 _ from ?_)
            refine Aft.mono (Q := fun (v : V) H4 => ∃ m1 S1 d, Fin X.K m3 S3 H3 m1 S1 H4 ∧ Rv X.K m1 S1.length H4 d v ∧ Aft X.K (fun _ _ _ _ _ => True) W (match lstW S1 L with
              | some acc => if acc.length < sizeLine then compN src g t e ρ0 L k (i + 1) (S1.set L (.lst (acc ++ [d]))) else .er
              | none => .er) m1 S1 H4 σ (fun (_ : Unit) H' => Q (.ref D0) H')) ?_ fun v H4 h4 => ?_
            · cases er : e ρ1 S3 with
              | ok c S1 => rw [er] at q4; exact q4
              | ex C d S1 => rw [er] at q4; exact q4
              | er => rw [er] at q4; exact q4
            obtain ⟨m4, S4, y4, g4, r4, q5⟩ := h4
            split at q5
            · rename_i acc hacc
              split at q5
              · rename_i hz
                obtain ⟨us, hu, hl, g5⟩ := lc_step g4.rs hacc r4
                have fin := ((f0.trans g1).trans g3).trans g4
                have hm : m4 L = D0 := by rw [fin.ext L hL, hD]
                rw [hm] at hu g5
                refine ⟨us, hu, by rw [hl]; exact hz, m4, _, fin.trans g5, g5.re (g4.re (g3.re (g1.re re))), Aft.shift g5 q5⟩
              · exact q5.elim
            · exact q5.elim

theorem ItRel.shift {K : PySem.W.Frag} {src : Src} {J : It} {m m1 : Nat → Addr} {S S1 : Store} {H H1 : Hp} (f : Fin K m S H m1 S1 H1) (h : ItRel K src J m S H) : ItRel K src J m1 S1 H1 :=
  ⟨fun m2 S2 H2 f2 => h.go m2 S2 H2 (f.trans f2), fun m2 S2 H2 f2 => h.yld m2 S2 H2 (f.trans f2), fun m2 S2 H2 f2 => h.stop m2 S2 H2 (f.trans f2)⟩
theorem tLcX_of {n : Nat} {σ : St} {H : Hp} {Q : VK} (hn : σ.length = n) (q : tE X.K W (eLc n vs f g t e) σ H Q) : tLcX (tI X.K W f) (tGv X.K vs g) (fun σ => tT X.K (fun c d _ H => W c d σ H) t) (fun σ => tE X.K (fun c d _ H => W c d σ H) e) vs σ H Q := by
  obtain ⟨m, S, ρ, rs, re, q⟩ := q
  unfold eLc at q
  split at q
  · rename_i hl
    refine ⟨m, S, ρ, rs, re, ?_⟩
    cases ef : f ρ S with
    | er => rw [ef] at q; exact q
    | ex C d S' => rw [ef] at q; exact q
    | ok src S' =>
      rw [ef] at q
      simp only [R.bind] at q
      intro m' H' J g0 ir D hD
      have g1 : Fin X.K m' S' H' (ext1 m' S'.length D) (S' ++ [.lst []]) (upd H' D (.lst [])) := Fin.new g0.rs hD ⟨[], upd_same, by simp only [Rvs]⟩
      have q2 : Aft X.K (fun _ _ _ _ _ => True) W (compN src g t e (wipeE ρ vs) S'.length (src.bound + 1) 0 (S' ++ [.lst []])) (ext1 m' S'.length D) (S' ++ [.lst []]) (upd H' D (.lst [])) σ (fun (_ : Unit) H' => Q (.ref D) H') := by
        have q1 := Aft.shift (g0.trans g1) q
        cases er : compN src g t e (wipeE ρ vs) S'.length (src.bound + 1) 0 (S' ++ [.lst []]) with
        | er => rw [er] at q1; exact q1
        | ex C d S2 => rw [er] at q1; exact q1
        | ok u S2 =>
          rw [er] at q1
          intro m2 H2 _ g2 _
          refine q1 m2 H2 _ g2 ?_
          have hlt : S'.length < (S' ++ [SO.lst []]).length := by simp
          have := Rv.mk_loc (K := X.K) (m := m2) (N := S2.length) (H := H2) (n := S'.length) (Nat.lt_of_lt_of_le hlt g2.len)
          rw [g2.ext _ hlt, ext1_new] at this
          exact this
      refine ⟨fun i k H => ∃ m S, Fin X.K (ext1 m' S'.length D) (S' ++ [.lst []]) (upd H' D (.lst [])) m S H ∧ RE X.K m S.length H (wipeE ρ vs) (wipe σ vs) ∧ Aft X.K (fun _ _ _ _ _ => True) W (compN src g t e (wipeE ρ vs) S'.length k i S) m S H σ (fun (_ : Unit) H' => Q (.ref D) H'), ⟨src.bound + 1, _, _, Fin.refl g1.rs, re_wipe ⟨by omega, g1.renv (g0.renv re)⟩, q2⟩, ?_⟩
      intro i k H2 h
      exact compN_ok (by simp) ext1_new (ItRel.shift g1 ir) i k H2 h
  · exact q.elim

/-! ### as an expression, as an assignment -/
abbrev MTs (X : Cx) (W : WX) (es : List Expr) (f : Tx) : Prop := PTs X es (tT X.K W f)
theorem pts_imp {e : List Expr} {t t' : TT} (h : PTs X e t) (i : ∀ σ H Q, t' σ H Q → t σ H Q) : PTs X e t' := ⟨fun pins s σ H Q I q => h.run pins s σ H Q I (i σ H Q q)⟩
theorem mts_nil : MTs X W [] tYesM := pts_imp pts_nil fun σ H Q ⟨m, S, ρ, rs, re, q⟩ => q m H true (Fin.refl rs) rfl
theorem mts_one {c : Expr} (h : MT X W c t) : MTs X W [c] t := pts_one h
theorem me_lc {n : Nat} {elt tg iter : Expr} {ifs : List Expr} {scope : Scope} {own : List (Str × Nat)} {pos : Pos} (hst : X.stack = X.env :: X.outer) (hf : X.env.frame = some X.env.locals) (tk : Takes X W)
    (hc : X.calm = true) (hN : X.N.Nodup) (hn : X.N.length = n) (hi : MI X W tg iter f) (ok : BlkOk X.N X.env.scope scope own)
    (hg : ∀ (s : Shared) (H : Hp) (C : Addr) (cl : List (Str × Addr)) (fp : List Addr) (xe : Value → Shared → Prop), MC (blkE X s H scope (compEnvC scope cl C X.env) fp xe) (own.map (·.2)) tg g)
    (ht : ∀ (s : Shared) (H : Hp) (C : Addr) (cl : List (Str × Addr)) (fp : List Addr) (xe : Value → Shared → Prop) (Wb : WX), Takes (blkE X s H scope (compEnvC scope cl C X.env) fp xe) Wb → MTs (blkE X s H scope (compEnvC scope cl C X.env) fp xe) Wb ifs t)
    (he : ∀ (s : Shared) (H : Hp) (C : Addr) (cl : List (Str × Addr)) (fp : List Addr) (xe : Value → Shared → Prop) (Wb : WX), Takes (blkE X s H scope (compEnvC scope cl C X.env) fp xe) Wb → ME (blkE X s H scope (compEnvC scope cl C X.env) fp xe) Wb elt e) (hs : ∀ x, foldedSetIterable iter X.env x = pure x := by intro _; rfl) :
    ME X W (.ListComp elt [⟨tg, iter, ifs, 0⟩] scope pos) (eLc n (own.map (·.2)) f g t e) := by
  refine ⟨fun pins s σ H Q I h => ?_⟩
  rw [eval_ListComp]
  refine lc_coreX hst hf tk hc hN I hi ok hg (fun σ s H C cl fp xe tb => ht s H C cl fp xe _ tb) (fun σ s H C cl fp xe tb => he s H C cl fp xe _ tb) hs (tLcX_of (I.len.trans hn) h) fun D ce s' m H' I' q hn f => ⟨m, hn, fun h'' sb => ?_⟩
  obtain ⟨f0, f1, f2, f3, f4, f5⟩ := f
  exact ⟨.ref D, H', I'.turned (t' := s'.toks) (fun b o hb e => (sb.2 b hb).trans e) f0 f1 f3 f4 f5, rfl, q⟩
theorem ms_lc {n : Nat} {i : Nat} {y : Str} {py spos : Pos} {elt tg iter : Expr} {ifs : List Expr} {scope : Scope} {own : List (Str × Nat)} {pos : Pos} (hst : X.stack = X.env :: X.outer) (hf : X.env.frame = some X.env.locals) (tk : Takes X W)
    (hc : X.calm = true) (hN : X.N.Nodup) (hn : X.N.length = n) (hy : X.N[i]? = some y) (hyl : X.env.scope.names.lookup y = some .local)
    (hsw : swapsWith (.ListComp elt [⟨tg, iter, ifs, 0⟩] scope pos) (some (.Name y py)) spos.line X.env = pure true) (hi : MI X W tg iter f) (ok : BlkOk X.N X.env.scope scope own)
    (hg : ∀ (s : Shared) (H : Hp) (C : Addr) (cl : List (Str × Addr)) (fp : List Addr) (xe : Value → Shared → Prop), MC (blkE X s H scope (compEnvC scope cl C X.env) fp xe) (own.map (·.2)) tg g)
    (ht : ∀ (s : Shared) (H : Hp) (C : Addr) (cl : List (Str × Addr)) (fp : List Addr) (xe : Value → Shared → Prop) (Wb : WX), Takes (blkE X s H scope (compEnvC scope cl C X.env) fp xe) Wb → MTs (blkE X s H scope (compEnvC scope cl C X.env) fp xe) Wb ifs t)
    (he : ∀ (s : Shared) (H : Hp) (C : Addr) (cl : List (Str × Addr)) (fp : List Addr) (xe : Value → Shared → Prop) (Wb : WX), Takes (blkE X s H scope (compEnvC scope cl C X.env) fp xe) Wb → ME (blkE X s H scope (compEnvC scope cl C X.env) fp xe) Wb elt e) (hs : ∀ x, foldedSetIterable iter X.env x = pure x := by intro _; rfl) :
    MS X W (.Assign [.Name y py] (.ListComp elt [⟨tg, iter, ifs, 0⟩] scope pos) spos) (sAsg (eLc n (own.map (·.2)) f g t e) (gN i)) := by
  refine ⟨fun pins s σ H D I h => ?_⟩
  rw [exec_Assign_Name_used _ _ _ _ hsw]
  refine wpAny_bind (wpAny_standAt (wpAny_bind ?_))
  show wpAny _ X.A (do let _ ← comprehension (.ListComp elt [⟨tg, iter, ifs, 0⟩] scope pos) scope X.env (firstIterPos [⟨tg, iter, ifs, 0⟩] pos) (newList []) false (eval iter X.env) (some (assign (.Name y py) X.env))) _ _ s
  have h : tAsg (tE X.K W (eLc n (own.map (·.2)) f g t e)) (tG X.K (gN i)) D σ H := tAsg_of h
  refine wpAny_bind (thn (lc_coreX (Qf := fun _ s' => SP X pins D .next s') (Q := fun x H1 => tG X.K (gN i) x σ H1 D.nx) hst hf tk hc hN I hi ok hg (fun σ s H C cl fp xe tb => ht s H C cl fp xe _ tb) (fun σ s H C cl fp xe tb => he s H C cl fp xe _ tb) hs (tLcX_of (I.len.trans hn) h) fun L ce s' m H' I' q hn f => ?_) fun _ s' hq => wpAny_pure (wpAny_pure hq))
  show wpAny _ _ (assign (.Name y py) X.env (.ref L)) _ _ _
  obtain ⟨m0, S0, d0, ρ0, ρ1, rs0, re0, rv0, eg, q⟩ := q
  cases eg
  have q := q _ (re0.set rv0)
  refine wpAny_assign_Name (store_ok2 (v := V.ref L) I' hN hy (.inl hyl) rfl (fun s2 I2 ⟨a, sb, ha⟩ => ?_) (.inr hyl))
  obtain ⟨f0, f1, f2, f3, f4, f5⟩ := f
  have haC : ce.locals ≠ a := by
    rcases ha with z | z
    · rw [z]; exact f1
    · exact fun e => f4 y a z e.symm
  refine ⟨m, hn.sameBut sb haC, fun h3 sb3 => ?_⟩
  exact ⟨_, H', I2.turned (t' := s2.toks) (fun b o hb e => (sb3.2 b hb).trans e) f0 f1 f3 f4 f5, q⟩
end
end M1

end

section
set_option maxRecDepth 100000
set_option maxHeartbeats 2000000
/-! M7: built-in functions, types and methods -/
namespace M1
open PySem PySem.Spec PyProof.Rows L2

section
variable {X : Cx} {W : WX} {x : Str} {p pos : Pos} {e : Expr} {es : List Expr} {f : Ax} {g : List D → Store → O D} {id T : String}
theorem me_callTy (hc : CallR X (.type T) (rOL X.K g)) (hg : Gl X x) (hm : X.mg x = none) (hv : bootBuiltins x = some (.type T)) (ha : MA X W (e :: es) f) (hn : x ≠ "__name__" := by decide) (hdb : (x == ("__debug__" : Str)) = false := by decide)
    (he : starEach (e :: es) X.env = (false, eval e X.env) :: starEach es X.env := by rfl) (hpl : (backTo pos (starEach es X.env)).any (·.1) = false := by rfl) : ME X W (.Call (.Name x p) (e :: es) [] pos) (eCall g f) :=
  pe_imp (pe_callTy hc hg hm hv ha hn hdb he hpl) fun _ _ _ => tCB_of
end
theorem Ok1.none {α β : Type} {K : PySem.W.Frag} {P : (Nat → Addr) → Nat → Hp → α → β → Prop} {m : Nat → Addr} {S : Store} {H : Hp} {Q : β → Hp → Prop} (h : Ok1 K P Option.none m S H Q) : False := by
  obtain ⟨_, _, e, _⟩ := h; cases e
theorem Rvs.one_of {K : PySem.W.Frag} {m : Nat → Addr} {N : Nat} {H : Hp} {d : D} {vs : List V} (h : Rvs K m N H [d] vs) : ∃ v, vs = [v] ∧ Rv K m N H d v := by
  simp only [Rvs] at h
  obtain ⟨v, r, rfl, h1, rfl⟩ := h
  exact ⟨v, rfl, h1⟩
theorem Rvs.two_of {K : PySem.W.Frag} {m : Nat → Addr} {N : Nat} {H : Hp} {d d2 : D} {vs : List V} (h : Rvs K m N H [d, d2] vs) : ∃ v v2, vs = [v, v2] ∧ Rv K m N H d v ∧ Rv K m N H d2 v2 := by
  simp only [Rvs] at h
  obtain ⟨v, r, rfl, h1, v2, r2, rfl, h2, rfl⟩ := h
  exact ⟨v, v2, rfl, h1, h2⟩

/-! ### len, int, tuple, list -/
def cLen (xs : List D) (S : Store) : O D := match xs with
  | [.str z] => if z.length ≤ sizeLine then some (.int z.length, S) else none
  | [.byt b] => if b.size ≤ sizeLine then some (.int b.size, S) else none
  | [.tup ds] => some (.int ds.length, S)
  | [.loc n] => (lstOf S n).map fun ds => (.int ds.length, S)
  | _ => none
def cInt (xs : List D) (S : Store) : O D := match xs with
  | [.int i] => some (.int i, S)
  | [.bl b] => some (.int (if b then 1 else 0), S)
  | _ => none
def cTup (xs : List D) (S : Store) : O D := match xs with
  | [.tup ds] => some (.tup ds, S)
  | [.loc n] => (lstOf S n).map fun ds => (.tup ds, S)
  | _ => none
def cLst (xs : List D) (S : Store) : O D := match xs with
  | [.tup ds] => some (.loc S.length, S ++ [.lst ds])
  | [.loc n] => (lstOf S n).map fun ds => (.loc S.length, S ++ [.lst ds])
  | _ => none
section
variable {X : Cx}
theorem cr_len : CallR X (.builtin "len") (rOL X.K cLen) := by
  intro pins s σ H xs us Q I r h
  obtain ⟨m, S, ds, rs, rx, ok⟩ := h
  refine call_len pins s σ H xs us Q I r ?_
  unfold cLen at ok
  split at ok
  · split at ok
    · rename_i hz; obtain ⟨v, rfl, r1⟩ := rx.one_of; cases r1; exact ⟨_, _, rfl, ⟨hz, rfl⟩, ok.same rs rfl rfl⟩
    · exact ok.none.elim
  · split at ok
    · rename_i hz; obtain ⟨v, rfl, r1⟩ := rx.one_of; cases r1; exact ⟨_, _, rfl, ⟨hz, rfl⟩, ok.same rs rfl rfl⟩
    · exact ok.none.elim
  · obtain ⟨v, rfl, r1⟩ := rx.one_of
    obtain ⟨a, vs, rfl, q, r2⟩ := r1.tup
    exact ⟨_, vs.length, rfl, .inr ⟨vs, q, rfl⟩, ok.same rs rfl (by rw [r2.length]; rfl)⟩
  · rename_i n
    obtain ⟨v, rfl, r1⟩ := rx.one_of
    cases h1 : lstOf S n with
    | none => rw [h1] at ok; exact ok.none.elim
    | some ds =>
      rw [h1] at ok
      obtain ⟨_, rfl⟩ := r1.loc
      obtain ⟨vs, q, r2⟩ := rs.list h1
      exact ⟨_, vs.length, rfl, .inl ⟨vs, q, rfl⟩, ok.same rs rfl (by rw [r2.length]; rfl)⟩
  · exact ok.none.elim
theorem cr_int : CallR X (.type "int") (rOL X.K cInt) := by
  intro pins s σ H xs us Q I r h
  obtain ⟨m, S, ds, rs, rx, ok⟩ := h
  refine call_int1 pins s σ H xs us Q I r ?_
  unfold cInt at ok
  split at ok
  · obtain ⟨v, rfl, r1⟩ := rx.one_of; cases r1; exact .inl ⟨_, rfl, ok.same rs rfl rfl⟩
  · obtain ⟨v, rfl, r1⟩ := rx.one_of; cases r1; exact .inr ⟨_, rfl, ok.same rs rfl rfl⟩
  · exact ok.none.elim
theorem cr_tup : CallR X (.type "tuple") (rOL X.K cTup) := by
  intro pins s σ H xs us Q I r h
  obtain ⟨m, S, ds, rs, rx, ok⟩ := h
  refine call_tuple_of pins s σ H xs us Q I r ?_
  unfold cTup at ok
  split at ok
  · obtain ⟨v, rfl, r1⟩ := rx.one_of
    obtain ⟨a, vs, rfl, q, r2⟩ := r1.tup
    exact ⟨a, vs, rfl, .inr ⟨q, ok.same rs rfl r1⟩⟩
  · rename_i n
    obtain ⟨v, rfl, r1⟩ := rx.one_of
    cases h1 : lstOf S n with
    | none => rw [h1] at ok; exact ok.none.elim
    | some ds =>
      rw [h1] at ok
      obtain ⟨_, rfl⟩ := r1.loc
      obtain ⟨vs, q, r2⟩ := rs.list h1
      exact ⟨_, vs, rfl, .inl ⟨q, fun l hl => ok.tup rs rfl r2 hl⟩⟩
  · exact ok.none.elim
theorem cr_lst : CallR X (.type "list") (rOL X.K cLst) := by
  intro pins s σ H xs us Q I r h
  obtain ⟨m, S, ds, rs, rx, ok⟩ := h
  refine call_list_of pins s σ H xs us Q I r ?_
  unfold cLst at ok
  split at ok
  · obtain ⟨v, rfl, r1⟩ := rx.one_of
    obtain ⟨a, vs, rfl, q, r2⟩ := r1.tup
    exact ⟨a, vs, rfl, .inr q, fun l hl => ok.lst rs rfl r2 hl⟩
  · rename_i n
    obtain ⟨v, rfl, r1⟩ := rx.one_of
    cases h1 : lstOf S n with
    | none => rw [h1] at ok; exact ok.none.elim
    | some ds =>
      rw [h1] at ok
      obtain ⟨_, rfl⟩ := r1.loc
      obtain ⟨vs, q, r2⟩ := rs.list h1
      exact ⟨_, vs, rfl, .inl q, fun l hl => ok.lst rs rfl r2 hl⟩
  · exact ok.none.elim

/-! ### all, any -/
def blsOf : List D → Option (List Bool)
  | [] => some []
  | .bl b :: r => (blsOf r).map (b :: ·)
  | _ => none
theorem Rvs.bls {K : PySem.W.Frag} {m : Nat → Addr} {N : Nat} {H : Hp} : ∀ {ds : List D} {vs : List V} {bs : List Bool}, Rvs K m N H ds vs → blsOf ds = some bs → vs = bs.map V.bl
  | [], _, _, r, e => by simp only [Rvs] at r; simp only [blsOf, Option.some.injEq] at e; subst r; subst e; rfl
  | d :: ds, _, _, r, e => by
    simp only [Rvs] at r
    obtain ⟨v, r', rfl, h1, h2⟩ := r
    unfold blsOf at e
    split at e
    · rename_i heq; cases heq
    · rename_i b r1 heq
      cases heq
      simp only [Option.map_eq_some_iff] at e
      obtain ⟨bs, e1, rfl⟩ := e
      cases h1
      rw [Rvs.bls h2 e1]; rfl
    · cases e
def cAll (xs : List D) (S : Store) : O D := match xs with
  | [.loc n] => ((lstOf S n).bind blsOf).map fun bs => (.bl (bs.all id), S)
  | _ => none
def cAny (xs : List D) (S : Store) : O D := match xs with
  | [.loc n] => ((lstOf S n).bind blsOf).map fun bs => (.bl (bs.any id), S)
  | _ => none
theorem cr_allM (hc : X.calm = true) : CallR X (.builtin "all") (rOL X.K cAll) := by
  intro pins s σ H xs us Q I r h
  obtain ⟨m, S, ds, rs, rx, ok⟩ := h
  refine cr_all hc pins s σ H xs us Q I r ?_
  unfold cAll at ok
  split at ok
  · rename_i n
    obtain ⟨v, rfl, r1⟩ := rx.one_of
    cases h1 : (lstOf S n).bind blsOf with
    | none => rw [h1] at ok; exact ok.none.elim
    | some bs =>
      rw [h1] at ok
      simp only [Option.bind_eq_some_iff] at h1
      obtain ⟨ds, e1, e2⟩ := h1
      obtain ⟨_, rfl⟩ := r1.loc
      obtain ⟨vs, q, r2⟩ := rs.list e1
      have := r2.bls e2
      subst this
      exact ⟨_, bs, rfl, q, ok.same rs rfl rfl⟩
  · exact ok.none.elim
theorem cr_anyM (hc : X.calm = true) : CallR X (.builtin "any") (rOL X.K cAny) := by
  intro pins s σ H xs us Q I r h
  obtain ⟨m, S, ds, rs, rx, ok⟩ := h
  refine cr_any hc pins s σ H xs us Q I r ?_
  unfold cAny at ok
  split at ok
  · rename_i n
    obtain ⟨v, rfl, r1⟩ := rx.one_of
    cases h1 : (lstOf S n).bind blsOf with
    | none => rw [h1] at ok; exact ok.none.elim
    | some bs =>
      rw [h1] at ok
      simp only [Option.bind_eq_some_iff] at h1
      obtain ⟨ds, e1, e2⟩ := h1
      obtain ⟨_, rfl⟩ := r1.loc
      obtain ⟨vs, q, r2⟩ := rs.list e1
      have := r2.bls e2
      subst this
      exact ⟨_, bs, rfl, q, ok.same rs rfl rfl⟩
  · exact ok.none.elim

/-! ### in, not in -/
def flatD : D → Bool
  | .non | .bl _ | .int _ | .str _ => true
  | _ => false
def vOf : D → V
  | .non => .non
  | .bl b => .bl b
  | .int i => .int i
  | .str z => .str z
  | _ => .non
theorem Rv.flat {K : PySem.W.Frag} {m : Nat → Addr} {N : Nat} {H : Hp} {d : D} {v : V} (r : Rv K m N H d v) (f : flatD d = true) : v = vOf d ∧ flatV v = true := by
  cases d <;> first | (cases r; exact ⟨rfl, rfl⟩) | cases f
theorem Rvs.flat {K : PySem.W.Frag} {m : Nat → Addr} {N : Nat} {H : Hp} : ∀ {ds : List D} {vs : List V}, Rvs K m N H ds vs → ds.all flatD = true → vs = ds.map vOf ∧ vs.all flatV = true
  | [], _, r, _ => by simp only [Rvs] at r; subst r; exact ⟨rfl, rfl⟩
  | d :: ds, _, r, f => by
    simp only [Rvs] at r
    obtain ⟨v, r', rfl, h1, h2⟩ := r
    rw [List.all_cons, Bool.and_eq_true] at f
    obtain ⟨a, b⟩ := h1.flat f.1
    obtain ⟨c, d⟩ := Rvs.flat h2 f.2
    subst a; subst c
    exact ⟨rfl, by rw [List.all_cons, b, d]; rfl⟩
def eqFl : D → D → Bool
  | .non, .non => true
  | .bl a, .bl b => a == b
  | .bl a, .int j => decide ((if a then 1 else 0) = j)
  | .int i, .bl b => decide (i = (if b then 1 else 0))
  | .int i, .int j => decide (i = j)
  | .str a, .str b => decide (a = b)
  | _, _ => false
def inD (x : D) (xs : List D) : Option Bool := if flatD x = true ∧ xs.all flatD = true then some (inV (vOf x) (xs.map vOf)) else none
def opInG (neg : Bool) (x y : D) (S : Store) : O D := match y with
  | .tup ds => (inD x ds).map fun b => (.bl (if neg then !b else b), S)
  | .loc n => ((lstOf S n).bind (inD x)).map fun b => (.bl (if neg then !b else b), S)
  | _ => none
theorem opp_inG {X : Cx} {neg : Bool} {op : CmpOp} (ho : OpR X (compareOp op) (rIn X.K neg)) : OpR X (compareOp op) (rO2 X.K (opInG neg)) := by
  intro pins s σ H v u vv uu Q I rv ru h
  obtain ⟨m, S, x, y, rs, rx, ry, ok⟩ := h
  refine ho pins s σ H v u vv uu Q I rv ru ?_
  unfold opInG at ok
  split at ok
  · rename_i ds
    obtain ⟨a, vs, rfl, q, r2⟩ := ry.tup
    unfold inD at ok
    by_cases hf : flatD x = true ∧ ds.all flatD = true
    · rw [if_pos hf] at ok
      obtain ⟨rfl, f1⟩ := rx.flat hf.1
      obtain ⟨rfl, f2⟩ := r2.flat hf.2
      exact ⟨a, _, rfl, .inr q, f1, f2, ok.same rs rfl (by split <;> rfl)⟩
    · rw [if_neg hf] at ok; exact ok.none.elim
  · rename_i n
    cases h1 : lstOf S n with
    | none => rw [h1] at ok; exact ok.none.elim
    | some ds =>
      rw [h1] at ok
      obtain ⟨_, rfl⟩ := ry.loc
      obtain ⟨vs, q, r2⟩ := rs.list h1
      simp only [Option.bind_some] at ok
      unfold inD at ok
      by_cases hf : flatD x = true ∧ ds.all flatD = true
      · rw [if_pos hf] at ok
        obtain ⟨rfl, f1⟩ := rx.flat hf.1
        obtain ⟨rfl, f2⟩ := r2.flat hf.2
        exact ⟨_, _, rfl, .inl q, f1, f2, ok.same rs rfl (by split <;> rfl)⟩
      · rw [if_neg hf] at ok; exact ok.none.elim
  · exact ok.none.elim
abbrev opIn := opInG false
abbrev opNin := opInG true
theorem opp_in : OpR X (compareOp .In) (rO2 X.K opIn) := opp_inG op_in_seq
theorem opp_nin : OpR X (compareOp .NotIn) (rO2 X.K opNin) := opp_inG op_notIn_seq
/-- a sign in a text -/
def opInC (x y : D) (S : Store) : O D := match x, y with
  | .str a, .str z => if a.cps.size = 1 then some (.bl (decide (a.cps.getD 0 0 ∈ z.cps.toList)), S) else none
  | _, _ => none
theorem opp_inC : OpR X (compareOp .In) (rO2 X.K opInC) := by
  intro pins s σ H v u vv uu Q I rv ru h
  obtain ⟨m, S, x, y, rs, rx, ry, ok⟩ := h
  refine op_in_sign pins s σ H v u vv uu Q I rv ru ?_
  unfold opInC at ok
  split at ok
  · rename_i a z
    split at ok
    · rename_i hz
      cases rx; cases ry
      obtain ⟨⟨l⟩⟩ := a
      have : ∃ c, l = [c] := by
        simp at hz
        exact List.length_eq_one_iff.mp hz
      obtain ⟨c, rfl⟩ := this
      exact ⟨c, z, rfl, rfl, ok.same rs rfl (by simp [Rv])⟩
    · exact ok.none.elim
  · exact ok.none.elim
end
end M1

end

section
set_option maxRecDepth 100000
set_option maxHeartbeats 2000000
/-! M8: own exceptions: raise, try -/
namespace M1
open PySem PySem.Spec PyProof.Rows L2

section
variable {X : Cx} {W : WX} {e : Expr} {es : List Expr} {fa : Ax} {p p1 p2 pos pos' : Pos} {x : Str} {C : Addr}
/-! ### C.__init__(self, ..) of an own class over ValueError -/
structure OwnInit (K : PySem.W.Frag) (C : Addr) : Prop where
  ga : PySem.W.specialIn K (.ref C) "__getattribute__" = some (some (.builtin "type.__getattribute__"))
  rd : PySem.W.readsIn K C (.type "type") = true
  fd : PySem.W.findCls K (.ref C) (.type "type") "__init__" = some (.val (.builtin "ValueError.__init__"))
theorem pe_oinit {ta : TA} {pl : Sem Bool} (hg : Gl X x) (hm : X.mg x = some (.ref C)) (T0 : OwnInit X.K C) (ha : PA X (e :: es) ta) (hdb : (x == ("__debug__" : Str)) = false := by decide)
    (hc : eval (.Call (.Attribute (.Name x p1) "__init__" p2) (e :: es) [] pos) X.env = (do
      let ov ← eval (.Name x p1) X.env
      standAt p2.atName
      let (f, first) ← holding [ov] (getMethod ov "__init__" pl)
      callWith pos f first (backTo pos (starEach (e :: es) X.env)) (backToKw pos (keywordEach [] X.env))) := by rfl)
    (he : starEach (e :: es) X.env = (false, eval e X.env) :: starEach es X.env := by rfl) (hpl : (backTo pos (starEach es X.env)).any (·.1) = false := by rfl) :
    PE X (.Call (.Attribute (.Name x p1) "__init__" p2) (e :: es) [] pos) (tVeI X.K ta) := by
  refine ⟨fun pins s σ H Q I h => ?_⟩
  refine PySem.W.methodCall_KW (ld_glob I hg hm ?_ hdb) hc
  refine PySem.W.method_cls I.kIn T0.ga (PySem.W.cls_value I.kIn T0.rd T0.fd (by decide +kernel) ?_)
  show wpAny _ _ (callWith pos (Value.builtin "ValueError.__init__") [] (backTo pos (starEach (e :: es) X.env)) []) _ _ _
  refine PyProof.Rows.callWith_method1 (thn (ha.run pos pins _ σ H _ (I.tok _) h) fun us s1 ⟨vs, H1, I1, r1, a, C, ws, ev, hl, T, ea, q⟩ => ?_) he hpl
  subst ev
  cases r1 with
  | @cons _ u0 _ ur ra rw' =>
    obtain rfl : u0 = Value.ref a := ra
    have hlen : ur.length ≤ sizeLine := by
      rw [← Paired.length rw', sizeLine_eq]
      omega
    exact oinit_ok T I1 ea hlen fun s' J => ⟨.non, H1, J, rfl, q⟩

/-- what __init__(self, x) of such a class does: self.f = x -/
def spOx (K : PySem.W.Frag) (f : Str) : Sp := fun vs H Q _ => ∃ (a C : Addr) (y : V), vs = [.ref a, y] ∧ OexC K C ∧ PySem.W.findIn K (.ref C) f = some none ∧ H a = some (exo a C none) ∧
  ∀ dx, H dx = none → dx ≠ a → Q .non (upd (upd H dx (exd dx [(f, y)])) a (exo a C (some dx)))
/-- raise C(x) -/
def sRaise1 (C : Addr) (f : Str) (fa : Ax) : Sm := sE fa fun ds ρ S => match ds with
  | [d] => .ex (.ref C) (some S.length) ρ (S ++ [.xd [(f, d)]])
  | _ => .er
theorem upd_made {H : Hp} {a dx : Addr} {u v : HO} {w1 w2 : HO} (ha : H a = none) (ne : dx ≠ a) : upd (del (upd (upd (upd H a w1) dx w2) a u) a) dx v = upd H dx v := by
  funext b
  by_cases h1 : b = dx
  · rw [h1, upd_same, upd_same]
  · rw [upd_ne h1, upd_ne h1]
    by_cases h2 : b = a
    · rw [h2, del_same, ha]
    · rw [del_ne h2, upd_ne h2, upd_ne h1, upd_ne h2]
structure RaiseOx (P : Program) (w : World) (K : PySem.W.Frag) (mg : Str → Option Value) (base : Heap) (k : Nat) (x : Str) (C : Addr) (f : Str) : Prop where
  ex : ∃ (fI : Addr) (fd : FuncData) (ps : List Str), FnOk P w K mg base (L2.CX P w) k fI fd ps (spOx K f) ∧ OexC K C ∧ PySem.W.findIn K (.ref C) f = some none ∧ PySem.W.findIn K (.ref C) "__init__" = some (some (.ref fI)) ∧
    PySem.W.typeIn K (.ref fI) = some (.type "function") ∧ mg x = some (.ref C) ∧ Binds K fd ps []
theorem passNo (tk : Takes X W) : Passes (L2.CX X.prog X.w) X (fun _ _ _ => False) := passes_call tk fun _ _ _ _ h => h.elim
theorem ms_raise1 {f : Str} {k j : Nat} (c : RaiseOx X.prog X.w X.K X.mg X.base k x C f) (hr : Room j X.A) (hk : k + 1 ≤ j) (hc : X.calm = true) (tk : Takes X W) (hg : Gl X x) (ha : MA X W (e :: es) fa)
    (hdb : (x == ("__debug__" : Str)) = false := by decide) (he : starEach (e :: es) X.env = (false, eval e X.env) :: starEach es X.env := by rfl) (hpl : (backTo pos (starEach es X.env)).any (·.1) = false := by rfl) :
    MS X W (.Raise (some (.Call (.Name x p) (e :: es) [] pos)) none pos') (sRaise1 C f fa) := by
  obtain ⟨fI, fd, ps, F1, T, hno, iC, tI, hm, hb⟩ := c.ex
  refine ps_imp (ps_raise hc tk (pmk_oex T iC tI F1 (hr.mono hk) hb .nil (passNo tk) hg hm ha hdb he hpl)) fun E σ H q => ?_
  obtain ⟨m, S, ρ, rs, re, q⟩ := tS_bind (P := Rvs X.K) (f := fa) q
  refine ⟨m, S, ρ, rs, re, q.mono fun vs H1 ⟨m1, S1, ds, ρ1, rs1, re1, p, q1⟩ => ?_⟩
  split at q1
  · rename_i d
    obtain ⟨v, rfl, r1⟩ := p.one_of
    refine ⟨by simp, fun a hn => ⟨a, C, v, rfl, T, hno, upd_same, fun dx hdx ne => ⟨rfl, dx, [(f, v)], upd_same, by rw [upd_ne ne, upd_same], ?_, ?_⟩⟩⟩
    · rw [upd_ne ne] at hdx; exact hdx
    · rw [upd_ne ne] at hdx
      rw [upd_made hn ne]
      have f1 : Fin X.K m1 S1 H1 (ext1 m1 S1.length dx) (S1 ++ [.xd [(f, d)]]) (upd H1 dx (.xd [(f, v)])) := by
        refine Fin.new rs1 hdx ⟨_, upd_same, ?_⟩
        simp only [Rk]
        exact ⟨v, [], rfl, r1.up (Nat.le_succ _) (fun n hn => ext1_old hn) (Mono.new hdx), rfl⟩
      have := q1 _ _ σ f1 (f1.re re1)
      simp only [Option.map_some, ext1_new] at this
      exact this
  · exact q1.elim
/-- raise C('text'), C an own class without __init__ -/
structure RaiseS (K : PySem.W.Frag) (mg : Str → Option Value) (x : Str) (C : Addr) : Prop where
  ex : ∃ (B newId initId : String) (bmB : List Value), ExcBaseFacts B newId initId bmB ∧ PySem.W.excIn K C bmB newId = true ∧ mg x = some (.ref C) ∧ PySem.W.keepIn K (.ref C) = true ∧ PySem.W.subIn K (.ref C) (.type "BaseException") = some true ∧ PySem.W.typeIn K (.ref C) = some (.type "type")
def sRaise0 (C : Addr) : Sm := fun ρ S => .ex (.ref C) none ρ S
theorem ms_raise0 {m : Str} {j : Nat} (c : RaiseS X.K X.mg x C) (hc : X.calm = true) (tk : Takes X W) (hg : Gl X x) (hdb : (x == ("__debug__" : Str)) = false := by decide) :
    MS X W (.Raise (some (.Call (.Name x p) [.Constant (.str m) j p2] [] pos)) none pos') (sRaise0 C) := by
  obtain ⟨B, newId, initId, bmB, F, q, hm, kC, e1, e2⟩ := c.ex
  exact ps_imp (ps_raise hc tk (pmk_own F q hm kC (raises_own e1 e2) hg hdb)) fun E σ H ⟨m, S, ρ, rs, re, q⟩ => q m H σ (Fin.refl rs) re

/-! ### try -/
/-- try: body; except C as n: return n.f -/
def sTryF (i : Nat) (b : Sm) (ans : Value → Option Bool) (C : Addr) (f : Str) : Sm := fun ρ S => match b ρ S with
  | .ex c d ρ' S' => match ans c with
    | some true => if c = .ref C ∧ i < ρ'.length then match d with
        | some n => match S'[n]? with
          | some (.xd fs) => match fs.lookup f with
            | some v => .rt v S'
            | none => .er
          | _ => .er
        | none => .er
      else .er
    | some false => .ex c d ρ' S'
    | none => .er
  | o => o
/-- try: body; except C: suite -/
def sTry (b : Sm) (ans : Value → Option Bool) (su : Sm) : Sm := fun ρ S => match b ρ S with
  | .ex c d ρ' S' => match ans c with
    | some true => match su ρ' S' with
      | .ex _ _ _ _ => .er
      | o => o
    | some false => .ex c d ρ' S'
    | none => .er
  | o => o
theorem ms_try_f {n xn : Str} {c : Value} {i : Nat} {body : List Stmt} {np ep ap rp tp : Pos} {b : Sm} {ans : Value → Option Bool} {f : Str} (hs : X.stack = X.env :: X.outer) (hf : X.env.frame = some X.env.locals) (hN : X.N.Nodup) (hi : X.N[i]? = some n) (hln : X.env.kindOf n = some .local) (hc : Names X xn c) (tk : Takes X W)
    (hans : ∀ c' b, ans c' = some b → PySem.W.exmOne X.K c' c = some b) (T : XfC X.K C) (hno : PySem.W.findIn X.K (.ref C) f = some none)
    (hb : ∀ (W : WX) (pn : List (Addr × Obj)) (xe : Value → Shared → Prop), Takes (X.tr pn xe) W → PassesOwn (model X.prog X.w) X.A X.env xe → MSs (X.tr pn xe) W body b)
    (hv : ∀ (a : Addr) (oe : Obj) (pn : List (Addr × Obj)), PE (X.suite a ((a, oe) :: pn)) (.Name n np) (tVar i)) (hbs : ∀ (a : Addr) (oe : Obj) (pn : List (Addr × Obj)), attributeBase (.Name n np) f X.env (eval (.Name n np) X.env) = eval (.Name n np) X.env := by intros; rfl) :
    MS X W (.Try body [.ExceptHandler (some (.Name xn ep)) (some n) [.Return (some (.Attribute (.Name n np) f ap)) rp] tp] [] [] pos) (sTryF i b ans C f) := by
  refine ps_imp (ps_try_as (ts := fun a cls d => tRet (tXf a cls d C f (tVar i))) (b₀ := .Return (some (.Attribute (.Name n np) f ap)) rp) (suite := []) (tb := fun W => tS X.K W b) hs hf hN hi hln hc tk hb fun a oe cls d pn hz hd => pss_one (ps_ret (pe_xf T hno hz hd (hv a oe pn) (hbs a oe pn)))) fun E σ H ⟨m, S, ρ, rs, re, q⟩ => ?_
  refine ⟨m, S, ρ, rs, re, ?_⟩
  unfold sTryF at q
  cases e1 : b ρ S with
  | nx ρ' S' => simp only [e1] at q; exact q
  | rt d S' => simp only [e1] at q; exact q
  | bk ρ' S' => simp only [e1] at q; exact q
  | ct ρ' S' => simp only [e1] at q; exact q
  | er => simp only [e1] at q; exact q.elim
  | ex cl d ρ' S' =>
    simp only [e1] at q
    intro m' H' σ' g re'
    cases ea : ans cl with
    | none => simp only [ea] at q; exact q.elim
    | some v =>
      refine ⟨v, hans _ _ ea, fun hv1 a na => ?_, fun hv1 => ?_⟩
      · subst hv1
        simp only [ea] at q
        split at q
        · rename_i hcl
          split at q
          · rename_i n'
            split at q
            · rename_i fs hS
              split at q
              · rename_i v hl
                obtain ⟨vs, hx, r⟩ := g.rs.at_ n' _ hS
                obtain ⟨u, hu, ru⟩ := r.lookup hl
                refine ⟨.ref a, ?_, rfl, hcl.1, _, vs, u, rfl, hx, hu, q m' H' u g ru⟩
                exact List.getElem?_set_self (Nat.lt_of_lt_of_le hcl.2 re'.len)
              · exact q.elim
            · exact q.elim
          · exact q.elim
        · exact q.elim
      · subst hv1
        simp only [ea] at q
        exact q m' H' σ' g re'
theorem ms_try {xn : Str} {c : Value} {body suite : List Stmt} {b₀ : Stmt} {ep tp : Pos} {b su : Sm} {ans : Value → Option Bool} (hs : X.stack = X.env :: X.outer) (hf : X.env.frame = some X.env.locals) (hc : Names X xn c) (tk : Takes X W)
    (hans : ∀ c' b, ans c' = some b → PySem.W.exmOne X.K c' c = some b)
    (hb : ∀ (W : WX) (pn : List (Addr × Obj)) (xe : Value → Shared → Prop), Takes (X.tr pn xe) W → PassesOwn (model X.prog X.w) X.A X.env xe → MSs (X.tr pn xe) W body b)
    (hsu : ∀ (a : Addr) (oe : Obj) (pn : List (Addr × Obj)), MSs (X.suite a ((a, oe) :: pn)) (fun _ _ _ _ => False) (b₀ :: suite) su) :
    MS X W (.Try body [.ExceptHandler (some (.Name xn ep)) none (b₀ :: suite) tp] [] [] pos) (sTry b ans su) := by
  refine ps_imp (ps_try_only (ts := fun a cls d => tS X.K (fun _ _ _ _ => False) su) (tb := fun W => tS X.K W b) hs hf hc tk hb fun a oe cls d pn hz hd => hsu a oe pn) fun E σ H ⟨m, S, ρ, rs, re, q⟩ => ?_
  refine ⟨m, S, ρ, rs, re, ?_⟩
  unfold sTry at q
  cases e1 : b ρ S with
  | nx ρ' S' => simp only [e1] at q; exact q
  | rt d S' => simp only [e1] at q; exact q
  | bk ρ' S' => simp only [e1] at q; exact q
  | ct ρ' S' => simp only [e1] at q; exact q
  | er => simp only [e1] at q; exact q.elim
  | ex cl d ρ' S' =>
    simp only [e1] at q
    intro m' H' σ' g re'
    cases ea : ans cl with
    | none => simp only [ea] at q; exact q.elim
    | some v =>
      refine ⟨v, hans _ _ ea, fun hv1 a na => ?_, fun hv1 => ?_⟩
      · subst hv1
        simp only [ea] at q
        refine ⟨m', S', ρ', g.rs, re', ?_⟩
        have q := AftS.shift g q
        cases e2 : su ρ' S' with
        | ex _ _ _ _ => simp only [e2] at q; exact q.elim
        | er => simp only [e2] at q; exact q.elim
        | nx _ _ => simp only [e2] at q; exact q
        | rt _ _ => simp only [e2] at q; exact q
        | bk _ _ => simp only [e2] at q; exact q
        | ct _ _ => simp only [e2] at q; exact q
      · subst hv1
        simp only [ea] at q
        exact q m' H' σ' g re'
end
end M1

end

section
set_option maxRecDepth 100000
set_option maxHeartbeats 2000000
/-! M9: methods of built-in types, bytes, isinstance, items stored -/
namespace M1
open PySem PySem.Spec PyProof.Rows L2

/-- a place's list is written: nothing is the value -/
theorem Ok1.write {K : PySem.W.Frag} {m : Nat → Addr} {S : Store} {H : Hp} {n : Nat} {l ys : List D} {vs us : List V} {Q : VK} {o : O D} (h : Ok1 K (Rv K) o m S H Q) (rs : RS K m S H) (e : o = some (.non, S.set n (.lst ys))) (hS : S[n]? = some (.lst l)) (hH : H (m n) = some (.lst vs)) (r : Rvs K m S.length H ys us) : Q .non (upd H (m n) (.lst us)) := by
  obtain ⟨d', S', e', q⟩ := h
  rw [e] at e'; cases e'
  have f : Fin K m S H m (S.set n (.lst ys)) (upd H (m n) (.lst us)) := Fin.write rs hS rfl ⟨us, upd_same, r.up (Nat.le_refl _) (fun _ _ => rfl) (Mono.write hH (fun _ z => by cases z) (fun _ _ z => by cases z))⟩
  exact q m _ _ f rfl
def isLst (S : Store) : D → Bool
  | .loc n => (lstOf S n).isSome
  | _ => false
def eMb (t : Store → D → Bool) (g : D → List D → Store → O D) (fo : Ex) (fa : Ax) : Ex := bnd fo fun o ρ S1 => if t S1 o = true then (fa ρ S1).bind fun ds S2 => R.of (g o ds S2) else .er
section
variable {X : Cx} {W : WX} {o e : Expr} {es : List Expr} {fo fe : Ex} {fa : Ax} {name : Str} {apos cpos pos : Pos} {T id : String} {g : D → List D → Store → O D}
theorem me_bmL (slot : Slot "list" name id) (hty : typeOf (.builtin id) = pure (.type "method_descriptor")) (hm : MtR X id (rOM X.K g)) (ho : ME X W o fo) (ha : MA X W (e :: es) fa)
    (hbase : attributeBase o name X.env (eval o X.env) = eval o X.env := by rfl)
    (hfew : ((backTo cpos (starEach (e :: es) X.env)).all (fun x => !x.1) && (backToKw cpos (keywordEach [] X.env)).all (fun x => x.1.isSome)
      && decide ((e :: es).length + ([] : List Keyword).length + (if ([] : List Keyword).isEmpty then 0 else 1) < 30)) = true := by rfl)
    (hline : (apos.endLine == cpos.line) = true := by rfl) (hs : starEach (e :: es) X.env = (false, eval e X.env) :: starEach es X.env := by rfl) (hplain : (backTo cpos (starEach es X.env)).any (·.1) = false := by rfl) :
    ME X W (.Call (.Attribute o name apos) (e :: es) [] cpos) (eMb isLst g fo fa) :=
  pe_imp (pe_bm F.plainAttrs_list slot hty hm ho ha hbase hfew hline hs hplain) fun σ H Q q => by
    obtain ⟨m, S, ρ, rs, re, q⟩ := tX_bind (P := Rv X.K) (f := fo) q
    refine ⟨m, S, ρ, rs, re, q.mono fun v H1 ⟨m1, S1, d, ρ1, rs1, re1, p, q1⟩ => ?_⟩
    split at q1
    · rename_i hl
      refine ⟨?_, m1, S1, ρ1, rs1, re1, (Aft.bind (P := Rvs X.K) q1).mono fun us H2 ⟨m2, S2, ds2, g2, p2, q2⟩ => ⟨m2, S2, d, ds2, g2.rs, g2.rv p, p2, Ok1.of q2⟩⟩
      cases d with
      | loc n =>
        simp only [isLst, Option.isSome_iff_exists] at hl
        obtain ⟨xs, hl⟩ := hl
        obtain ⟨_, rfl⟩ := p.loc
        obtain ⟨vs, q, _⟩ := rs1.list hl
        exact .inl ⟨rfl, vs, q⟩
      | _ => cases hl
    · exact q1.elim
def gApp (x : D) (xs : List D) (S : Store) : O D := match x, xs with
  | .loc n, [y] => match lstW S n with
    | some l => if l.length < sizeLine then some (.non, S.set n (.lst (l ++ [y]))) else none
    | none => none
  | _, _ => none
def gExt (x : D) (xs : List D) (S : Store) : O D := match x, xs with
  | .loc n, [.loc k] => match lstW S n, lstW S k with
    | some l, some l2 => if l.length + l2.length ≤ sizeLine then some (.non, S.set n (.lst (l ++ l2))) else none
    | _, _ => none
  | _, _ => none
theorem mt_app : MtR X "list.append" (rOM X.K gApp) := by
  intro pins s σ H x xs v us Q I rv rvs h
  obtain ⟨m, S, d, ds, rs, rx, ry, ok⟩ := h
  refine mt_append pins s σ H x xs v us Q I rv rvs ?_
  unfold gApp at ok
  split at ok
  · split at ok
    · rename_i hl
      split at ok
      · rename_i hz
        obtain ⟨_, rfl⟩ := rx.loc
        obtain ⟨v, rfl, r1⟩ := ry.one_of
        obtain ⟨hS, us, q, r2⟩ := rs.listW hl
        exact ⟨_, us, v, rfl, rfl, q, by rw [r2.length]; exact hz, ok.write rs rfl hS q (r2.append (Rvs.one r1))⟩
      · exact ok.none.elim
    · exact ok.none.elim
  · exact ok.none.elim
theorem mt_ext : MtR X "list.extend" (rOM X.K gExt) := by
  intro pins s σ H x xs v us Q I rv rvs h
  obtain ⟨m, S, d, ds, rs, rx, ry, ok⟩ := h
  refine mt_extend pins s σ H x xs v us Q I rv rvs ?_
  unfold gExt at ok
  split at ok
  · split at ok
    · rename_i hl hl2
      split at ok
      · rename_i hz
        obtain ⟨_, rfl⟩ := rx.loc
        obtain ⟨v, rfl, r1⟩ := ry.one_of
        obtain ⟨_, rfl⟩ := r1.loc
        obtain ⟨hS, us, q, r2⟩ := rs.listW hl
        obtain ⟨hS2, us2, q2, r22⟩ := rs.listW hl2
        exact ⟨_, _, us, us2, rfl, rfl, q, q2, by rw [r2.length, r22.length]; exact hz, ok.write rs rfl hS q (r2.append r22)⟩
      · exact ok.none.elim
    · exact ok.none.elim
  · exact ok.none.elim

/-! ### texts' methods -/
def isStr : Store → D → Bool
  | _, .str _ => true
  | _, _ => false
theorem me_m0 {r : V → List V → Hp → VK → Prop} (h : PE X (.Call (.Attribute o name apos) [] [] pos) (tM0 r (tE X.K W fo))) (hr : ∀ x xs H Q, rOM X.K g x xs H Q → r x xs H Q) : ME X W (.Call (.Attribute o name apos) [] [] pos) (eMb isStr g fo aNil) :=
  pe_imp h fun σ H Q q => by
    obtain ⟨m, S, ρ, rs, re, q⟩ := tX_bind (P := Rv X.K) (f := fo) q
    refine ⟨m, S, ρ, rs, re, q.mono fun v H1 ⟨m1, S1, d, ρ1, rs1, re1, p, q1⟩ => ?_⟩
    split at q1
    · rename_i hl
      refine ⟨?_, hr _ _ _ _ ⟨m1, S1, d, [], rs1, p, Rvs.nil, Ok1.of q1⟩⟩
      cases d with
      | str a => cases p; exact ⟨a, rfl⟩
      | _ => cases hl
    · exact q1.elim
theorem me_m1 {r : V → List V → Hp → VK → Prop} (h : PE X (.Call (.Attribute o name apos) [e] [] pos) (tM1 r (tE X.K W fo) (tE X.K W fe))) (hr : ∀ x xs H Q, rOM X.K g x xs H Q → r x xs H Q) : ME X W (.Call (.Attribute o name apos) [e] [] pos) (eMb isStr g fo (aCons fe aNil)) :=
  pe_imp h fun σ H Q q => by
    obtain ⟨m, S, ρ, rs, re, q⟩ := tX_bind (P := Rv X.K) (f := fo) q
    refine ⟨m, S, ρ, rs, re, q.mono fun v H1 ⟨m1, S1, d, ρ1, rs1, re1, p, q1⟩ => ?_⟩
    split at q1
    · rename_i hl
      refine ⟨?_, ?_⟩
      · cases d with
        | str a => cases p; exact ⟨a, rfl⟩
        | _ => cases hl
      · unfold aCons at q1
        simp only [bnd] at q1
        have q2 : tE X.K W (bnd fe fun d2 ρ2 S2 => R.of (g d [d2] S2)) σ H1 Q := by
          refine ⟨m1, S1, ρ1, rs1, re1, ?_⟩
          unfold bnd
          cases e1 : fe ρ1 S1 with
          | ok d2 S2 => rw [e1] at q1; exact q1
          | ex C dd S2 => rw [e1] at q1; exact q1
          | er => rw [e1] at q1; exact q1
        obtain ⟨m2, S2, ρ2, rs2, re2, q3⟩ := tX_bind (P := Rv X.K) (f := fe) q2
        clear q2
        refine ⟨m1, S1, ρ1, rs1, re1, ?_⟩
        have q4 : AftE X.K W ((fe ρ1 S1).bind fun d2 S2 => R.of (g d [d2] S2)) m1 S1 H1 σ Q := by
          cases e1 : fe ρ1 S1 with
          | ok d2 S2 => rw [e1] at q1; exact q1
          | ex C dd S2 => rw [e1] at q1; exact q1
          | er => rw [e1] at q1; exact q1
        exact (Aft.bind (P := Rv X.K) q4).mono fun u H2 ⟨m3, S3, d3, g3, p3, q5⟩ => hr _ _ _ _ ⟨m3, S3, d, [d3], g3.rs, g3.rv p, Rvs.one p3, Ok1.of q5⟩
    · exact q1.elim
def gUp (x : D) (xs : List D) (S : Store) : O D := match x, xs with
  | .str a, [] => if a.length ≤ 5592405 then some (.str (Txt.upper a), S) else none
  | _, _ => none
theorem me_upper (ho : ME X W o fo) (hbase : attributeBase o "upper" X.env (eval o X.env) = eval o X.env := by rfl) (hline : (apos.endLine == pos.line) = true := by rfl) : ME X W (.Call (.Attribute o "upper" apos) [] [] pos) (eMb isStr gUp fo aNil) :=
  me_m0 (pe_upper ho hbase hline) fun x xs H Q ⟨m, S, d, ds, rs, rx, ry, ok⟩ => by
    unfold gUp at ok
    split at ok
    · split at ok
      · rename_i hz
        cases rx
        simp only [Rvs] at ry
        exact ⟨_, rfl, ry, hz, ok.same rs rfl rfl⟩
      · exact ok.none.elim
    · exact ok.none.elim
def strsOf : List D → Option (List Str)
  | [] => some []
  | .str b :: r => (strsOf r).map (b :: ·)
  | _ => none
theorem Rvs.strs {K : PySem.W.Frag} {m : Nat → Addr} {N : Nat} {H : Hp} : ∀ {ds : List D} {vs : List V} {bs : List Str}, Rvs K m N H ds vs → strsOf ds = some bs → vs = bs.map V.str
  | [], _, _, r, e => by simp only [Rvs] at r; simp only [strsOf, Option.some.injEq] at e; subst r; subst e; rfl
  | d :: ds, _, _, r, e => by
    simp only [Rvs] at r
    obtain ⟨v, r', rfl, h1, h2⟩ := r
    unfold strsOf at e
    split at e
    · rename_i heq; cases heq
    · rename_i b r1 heq
      cases heq
      simp only [Option.map_eq_some_iff] at e
      obtain ⟨bs, e1, rfl⟩ := e
      cases h1
      rw [Rvs.strs h2 e1]; rfl
    · cases e
def gJoin (x : D) (xs : List D) (S : Store) : O D := match x, xs with
  | .str a, [.loc n] => match (lstOf S n).bind strsOf with
    | some ys => if (ys.map (·.length)).sum + ys.length * a.length ≤ 16777216 then some (.str (Txt.join a ys), S) else none
    | none => none
  | _, _ => none
theorem me_join (ho : ME X W o fo) (he : ME X W e fe) (hs : starEach [e] X.env = [(false, eval e X.env)] := by rfl) (hbase : attributeBase o "join" X.env (eval o X.env) = eval o X.env := by rfl) (hline : (apos.endLine == pos.line) = true := by rfl) :
    ME X W (.Call (.Attribute o "join" apos) [e] [] pos) (eMb isStr gJoin fo (aCons fe aNil)) :=
  me_m1 (pe_join ho he hs hbase hline) fun x xs H Q ⟨m, S, d, ds, rs, rx, ry, ok⟩ => by
    unfold gJoin at ok
    split at ok
    · split at ok
      · rename_i ys h1
        split at ok
        · rename_i hz
          simp only [Option.bind_eq_some_iff] at h1
          obtain ⟨ds, e1, e2⟩ := h1
          cases rx
          obtain ⟨v, rfl, r1⟩ := ry.one_of
          obtain ⟨_, rfl⟩ := r1.loc
          obtain ⟨vs, q, r2⟩ := rs.list e1
          have := r2.strs e2
          subst this
          exact ⟨_, _, ys, rfl, rfl, .inl q, hz, ok.same rs rfl rfl⟩
        · exact ok.none.elim
      · exact ok.none.elim
    · exact ok.none.elim

/-! ### bytes -/
def intsOf : List D → Option (List Int)
  | [] => some []
  | .int b :: r => (intsOf r).map (b :: ·)
  | _ => none
theorem Rvs.ints {K : PySem.W.Frag} {m : Nat → Addr} {N : Nat} {H : Hp} : ∀ {ds : List D} {vs : List V} {bs : List Int}, Rvs K m N H ds vs → intsOf ds = some bs → vs = bs.map V.int
  | [], _, _, r, e => by simp only [Rvs] at r; simp only [intsOf, Option.some.injEq] at e; subst r; subst e; rfl
  | d :: ds, _, _, r, e => by
    simp only [Rvs] at r
    obtain ⟨v, r', rfl, h1, h2⟩ := r
    unfold intsOf at e
    split at e
    · rename_i heq; cases heq
    · rename_i b r1 heq
      cases heq
      simp only [Option.map_eq_some_iff] at e
      obtain ⟨bs, e1, rfl⟩ := e
      cases h1
      rw [Rvs.ints h2 e1]; rfl
    · cases e
def is8 (ns : List Int) : Bool := ns.all fun n => decide (0 ≤ n ∧ n ≤ 255)
def bytesOf (ns : List Int) : Array UInt8 := (ns.map fun n => n.toNat.toUInt8).toArray
def cByt (xs : List D) (S : Store) : O D := match xs with
  | [.loc n] => match (lstOf S n).bind intsOf with
    | some ns => if is8 ns = true then some (.byt (bytesOf ns), S) else none
    | none => none
  | _ => none
theorem cr_byt (hc : X.calm = true) : CallR X (.type "bytes") (rOL X.K cByt) := by
  intro pins s σ H xs us Q I r h
  obtain ⟨m, S, ds, rs, rx, ok⟩ := h
  refine call_bytes_list hc pins s σ H xs us Q I r ?_
  unfold cByt at ok
  split at ok
  · split at ok
    · rename_i ns h1
      split at ok
      · rename_i hz
        simp only [Option.bind_eq_some_iff] at h1
        obtain ⟨ds, e1, e2⟩ := h1
        obtain ⟨v, rfl, r1⟩ := rx.one_of
        obtain ⟨_, rfl⟩ := r1.loc
        obtain ⟨vs, q, r2⟩ := rs.list e1
        have := r2.ints e2
        subst this
        refine ⟨_, ns, rfl, q, fun n hn => ?_, ok.same rs rfl rfl⟩
        unfold is8 at hz
        rw [List.all_eq_true] at hz
        have := hz n hn
        simp only [decide_eq_true_eq] at this
        exact ⟨this.1, by omega⟩
      · exact ok.none.elim
    · exact ok.none.elim
  · exact ok.none.elim
def hexD (n : Nat) : Nat := if n < 10 then 48 + n else 87 + n
def hexS (b : Array UInt8) : Str := ⟨(b.toList.flatMap fun c => [hexD (c.toNat / 16), hexD (c.toNat % 16)]).toArray⟩
theorem hexS_eq (b : Array UInt8) : hexS b = PySem.W.KBhx.text (PySem.W.KBw.bInts b) := by
  have key : ∀ l : List UInt8, (l.flatMap fun c => [hexD (c.toNat / 16), hexD (c.toNat % 16)]) = PySem.W.KBhx.signs (l.map fun c => ((c.toNat : Nat) : Int)) := by
    intro l
    induction l with
    | nil => rfl
    | cons c r ih =>
      rw [List.flatMap_cons, ih]
      rfl
  unfold hexS PySem.W.KBhx.text
  rw [key]
  rfl
def eHex (fo : Ex) : Ex := bnd fo fun o _ S => match o with
  | .byt b => if b.size ≤ 8388608 then .ok (.str (hexS b)) S else .er
  | _ => .er
theorem me_hex {pl : Sem Bool} (ho : ME X W o fo) (ht : eval (.Call (.Attribute o "hex" apos) [] [] pos) X.env = (do
      let ov ← eval o X.env
      standAt apos.atName
      let (f, first) ← holding [ov] (getMethod ov "hex" pl)
      callWith pos f first (backTo pos (starEach [] X.env)) (backToKw pos (keywordEach [] X.env))) := by rfl) : ME X W (.Call (.Attribute o "hex" apos) [] [] pos) (eHex fo) := by
  refine ⟨fun pins s σ H Q I h => ?_⟩
  obtain ⟨m, S, ρ, rs, re, q⟩ := tX_bind (P := Rv X.K) (f := fo) h
  refine PySem.W.methodCall_KW (pl := pl) (thn (ho.run pins s σ H _ I ⟨m, S, ρ, rs, re, q⟩) fun u s1 ⟨x, H1, I1, rx, m1, S1, d, ρ1, rs1, re1, p, q1⟩ => ?_) ht
  split at q1
  · rename_i b
    split at q1
    · rename_i hz
      cases p
      obtain ⟨t, rfl⟩ := rx
      refine PySem.W.KBhx.m_hex ?_
      refine Calls.callWith_builtin rfl (PySem.evalArgs_none ?_)
      refine PySem.W.KBhx.hex_K rfl (by unfold PySem.W.KBw.bInts; simpa using hz) fun t' k _ => ?_
      refine ⟨.str (hexS b), H1, I1.tok k, ⟨t', by rw [hexS_eq]⟩, ?_⟩
      exact q1 m1 H1 _ (Fin.refl rs1) rfl
    · exact q1.elim
  · exact q1.elim
end
end M1

end

section
set_option maxRecDepth 100000
set_option maxHeartbeats 2000000
/-! M10: isinstance, bytes' items, tuples repeated, items and fields stored, op= -/
namespace M1
open PySem PySem.Spec PyProof.Rows L2

/-! ### isinstance with a built-in type -/
def tyD (S : Store) : D → Option String
  | .non => some "NoneType"
  | .bl _ => some "bool"
  | .int _ => some "int"
  | .str _ => some "str"
  | .byt _ => some "bytes"
  | .tup _ => some "tuple"
  | .loc n => match S[n]? with
    | some (.lst _) => some "list"
    | some (.frz _) => some "list"
    | some (.dic _) => some "dict"
    | _ => none
  | _ => none
def isaB (a b : String) : Bool := a == b || (a == "bool" && b == "int")
def isTys : List String := ["int", "bool", "str", "tuple", "list", "dict"]
def valTys : List String := ["NoneType", "bool", "int", "str", "bytes", "tuple", "list", "dict"]
theorem kitB_all : (valTys.all fun a => isTys.all fun b => decide (kitB a b = some (isaB a b))) = true := by decide +kernel
theorem kitB_of {a b : String} (ha : a ∈ valTys) (hb : b ∈ isTys) : kitB a b = some (isaB a b) := by
  have h := kitB_all
  rw [List.all_eq_true] at h
  have h2 := h a ha
  rw [List.all_eq_true] at h2
  exact of_decide_eq_true (h2 b hb)
theorem tyD_ok {K : PySem.W.Frag} {m : Nat → Addr} {S : Store} {H : Hp} {d : D} {v : V} {t : String} (rs : RS K m S H) (r : Rv K m S.length H d v) (e : tyD S d = some t) : t ∈ valTys ∧ TyX K H v (.type t) := by
  cases d with
  | non => cases r; cases e; exact ⟨by decide, .base .non⟩
  | bl b => cases r; cases e; exact ⟨by decide, .base (.bl _)⟩
  | int b => cases r; cases e; exact ⟨by decide, .base (.int _)⟩
  | str b => cases r; cases e; exact ⟨by decide, .base (.str _)⟩
  | byt b => cases r; cases e; exact ⟨by decide, .byt _⟩
  | tup b =>
    obtain ⟨a, vs, rfl, q, _⟩ := r.tup
    cases e
    refine ⟨by decide, ?_⟩
    rcases q with (q | ⟨o, q⟩) | ⟨o, its, n, q, c, _⟩
    · exact .base (.tup q)
    · exact .fTuple q
    · exact .kTuple q c
  | loc n =>
    obtain ⟨_, rfl⟩ := r.loc
    simp only [tyD] at e
    split at e
    · rename_i xs h
      cases e
      obtain ⟨vs, q, _⟩ := rs.at_ n _ h
      exact ⟨by decide, .base (.lst q)⟩
    · rename_i xs h
      cases e
      obtain ⟨vs, q, _⟩ := rs.at_ n _ h
      refine ⟨by decide, ?_⟩
      rcases q with ⟨o, q⟩ | ⟨o, its, n, q, c, _⟩
      · exact .base (.frz q)
      · exact .kList q c
    · rename_i xs h
      cases e
      obtain ⟨vs, q, _⟩ := rs.at_ n _ h
      exact ⟨by decide, .base (.dK q)⟩
    · cases e
  | _ => cases e
def cIsi (xs : List D) (S : Store) : O D := match xs with
  | [x, .ty T] => if T ∈ isTys then (tyD S x).map fun t => (.bl (isaB t T), S) else none
  | _ => none
theorem cr_isi {X : Cx} : CallR X (.builtin "isinstance") (rOL X.K cIsi) := by
  intro pins s σ H xs us Q I r h
  obtain ⟨m, S, ds, rs, rx, ok⟩ := h
  refine call_isi pins s σ H xs us Q I r ?_
  unfold cIsi at ok
  split at ok
  · rename_i x T
    split at ok
    · rename_i hT
      cases e : tyD S x with
      | none => rw [e] at ok; exact ok.none.elim
      | some t =>
        rw [e] at ok
        obtain ⟨v, v2, rfl, r1, r2⟩ := rx.two_of
        cases r2
        obtain ⟨ht, ty⟩ := tyD_ok rs r1 e
        exact ⟨v, _, _, _, isaB t T, rfl, .ty T, ty, kit_ty (kitB_of ht hT), ok.same rs rfl rfl⟩
    · exact ok.none.elim
  · exact ok.none.elim

/-! ### bytes' items -/
def opIxB (x y : D) (S : Store) : O D := match x, y with
  | .byt b, .int i => if b.size ≤ sizeLine ∧ 0 ≤ i ∧ i < b.size then some (.int ((b.toList.getD i.toNat 0).toNat : Nat), S) else none
  | _, _ => none
theorem me_ixB {X : Cx} {W : WX} {a b : Expr} {pos : Pos} {f h : Ex} (ha : ME X W a f) (hb : ME X W b h) (hs : PlainIxT b) : ME X W (.Subscript a b pos) (eOp opIxB f h) :=
  pe_imp (pe_item_byt ha hb hs) fun σ H Q q => by
    obtain ⟨m, S, ρ, rs, re, q⟩ := tOp_of q
    refine ⟨m, S, ρ, rs, re, q.mono fun v H1 ⟨m1, S1, ρ1, rs1, re1, q1⟩ => ⟨m1, S1, ρ1, rs1, re1, q1.mono fun u H2 ⟨m2, S2, x, y, rs2, rx, ry, ok⟩ => ?_⟩⟩
    unfold opIxB at ok
    split at ok
    · rename_i b i
      split at ok
      · rename_i hz
        cases rx; cases ry
        obtain ⟨l⟩ := b
        exact ⟨l, i, rfl, rfl, hz.1, hz.2.1, hz.2.2, ok.same rs2 rfl rfl⟩
      · exact ok.none.elim
    · exact ok.none.elim

/-! ### a tuple repeated -/
theorem op_repT2 {X : Cx} : OpR X (binaryOp .Mult) (fun x y H Q => ∃ l k xs, x = .ref l ∧ y = .int k ∧ SqT X.K H l xs ∧ xs ≠ [] ∧ 2 ≤ k ∧ xs.length * k ≤ 1000000 ∧ ∀ p, H p = none → Q (.ref p) (upd H p (.tup (List.replicate k.toNat xs).flatten))) := by
  intro pins s σ H x y v u Q I rx ry h
  obtain ⟨l, k, xs, rfl, rfl, hT, hne, h1, hz, q⟩ := h
  cases rx
  obtain ⟨t, rfl⟩ := ry
  obtain ⟨its, r, ⟨⟨cls, dd, data, sl⟩, ho, hc, n, hd⟩, hs⟩ := I.tuple hT
  simp only at hc hd
  subst hc hd
  have hle : its.length = xs.length := r.length.symm
  have hn : its ≠ [] := fun e => hne (by
    rw [e] at hle
    exact List.eq_nil_of_length_eq_zero hle.symm)
  have hi : its.toArray.isEmpty = false := by
    cases its with
    | nil => exact absurd rfl hn
    | cons a b => rfl
  have hsz0 : its.toArray.size = xs.length := by rw [List.size_toArray, hle]
  have hm : ((its.toArray.size : Nat) : Int) * k ≤ 1000000 := by rw [hsz0]; exact hz
  have hlen : (List.replicate k.toNat xs).flatten.length ≤ sizeLine := by
    rw [PyProof.Rows.lm_len_rep_flat, sizeLine_eq]
    obtain ⟨k', rfl⟩ := Int.eq_ofNat_of_zero_le (by omega : 0 ≤ k)
    simp only [Int.toNat_natCast]
    have : ((k' * xs.length : Nat) : Int) ≤ 1000000 := by push_cast; rw [Int.mul_comm]; exact hz
    omega
  have flen : (List.replicate k.toNat its).flatten.length ≤ sizeLine := by
    rw [PyProof.Rows.lm_len_rep_flat] at hlen ⊢
    rw [hle]; exact hlen
  have kz : k ≤ 1000000 := by
    have h1 : 1 ≤ xs.length := by cases xs with | nil => exact absurd rfl hne | cons _ _ => simp
    have : 1 * k ≤ (xs.length : Int) * k := Int.mul_le_mul_of_nonneg_right (by omega) (by omega)
    omega
  have c0 : (decide (k < -(2 ^ 63)) || decide (k ≥ 2 ^ 63)) = false := by
    rw [decide_eq_false (by omega), decide_eq_false (by omega)] <;> rfl
  have c1 : (its.toArray.isEmpty || k == 1) = false := by
    rw [hi, Bool.false_or]
    exact beq_eq_false_iff_ne.mpr (by omega)
  have c2 : (decide (k ≤ 0) || its.toArray.isEmpty) = false := by
    rw [hi, Bool.or_false]
    exact decide_eq_false (by omega)
  have c4 : Builtin.Tuple.tupleTooMany (((its.toArray.size : Nat) : Int) * k) = false := by
    unfold Builtin.Tuple.tupleTooMany
    rw [sizeLine_eq]
    exact decide_eq_false (by omega)
  refine wpAny_binaryOp_repeat_ref (T := "tuple") (U := "int") (by decide) ⟨_, ho, rfl⟩ (fun s' => typeIs_int s' k t) noFill_tuple_mul F.fills_int_mul F.slot_int_rmul repeat_tuple F.slot_int_index.lookup
    (call_meets F.slot_int_rmul (typeIs_int s k t) F.entry_int_rmul (F.args_int_rmul_2 _ _) (int_rmul_tuple k t l its.toArray n dd sl)
      ⟨ho, rfl, ⟨_, ho, rfl⟩, call_meets F.slot_tuple_mul ⟨_, ho, rfl⟩ F.entry_tuple_mul (F.args_tuple_mul_2 _ _) (tuple_mulW l its.toArray n dd sl k t c0 c1 c2 (by omega) c4 (by rw [size_rep, List.size_toArray]; exact flen)) ⟨ho, ?_⟩⟩)
  rw [size_rep]
  refine ⟨.ref s.heap.objs.size, _, I.laid (t' := s.toks) (o := .tup (List.replicate k.toNat xs).flatten) (fun b ob q => Heap.get?_push_of_some _ q) (Nat.le_refl _) ?_, rfl, q _ (I.hok.fresh (Nat.le_refl _))⟩
  exact ⟨hlen, _, r.rep k.toNat, IsTup.new _ _⟩
def opRepT (x y : D) (S : Store) : O D := match x, y with
  | .tup ds, .int k => if ds ≠ [] ∧ 2 ≤ k ∧ ds.length * k ≤ 1000000 then some (.tup (List.replicate k.toNat ds).flatten, S) else none
  | _, _ => none
theorem opp_repT {X : Cx} : OpR X (binaryOp .Mult) (rO2 X.K opRepT) := by
  intro pins s σ H v u vv uu Q I rv ru h
  obtain ⟨m, S, x, y, rs, rx, ry, ok⟩ := h
  refine op_repT2 pins s σ H v u vv uu Q I rv ru ?_
  unfold opRepT at ok
  split at ok
  · rename_i ds k
    split at ok
    · rename_i hz
      obtain ⟨a, vs, rfl, q, r⟩ := rx.tup
      cases ry
      refine ⟨a, k, vs, rfl, rfl, q, fun e => hz.1 ?_, hz.2.1, by rw [r.length]; exact hz.2.2, fun p hp => ok.tup rs rfl (r.rep _) hp⟩
      subst e
      have := r.length
      cases ds with
      | nil => rfl
      | cons _ _ => simp at this
    · exact ok.none.elim
  · exact ok.none.elim

/-! ### targets that may change the store -/
abbrev Xm := D → Sm
/-- what a target may end with -/
def Out.tgt : Out → Out
  | .nx ρ S => .nx ρ S
  | .ex C d ρ S => .ex C d ρ S
  | _ => .er
def tGX (K : PySem.W.Frag) (W : WX) (g : Xm) : TG := fun v σ H Q => ∃ m S d ρ, RS K m S H ∧ RE K m S.length H ρ σ ∧ Rv K m S.length H d v ∧ AftS K W (g d ρ S).tgt m S H { nx := Q, rt := fun _ _ => False }
abbrev MX (X : Cx) (W : WX) (e : Expr) (g : Xm) : Prop := PG X e (tGX X.K W g)
def xG (g : Gm) : Xm := fun d ρ S => match g d S ρ with
  | some ρ' => .nx ρ' S
  | none => .er
def sAsgX (f : Ex) (g : Xm) : Sm := sE f fun d ρ S => (g d ρ S).tgt
section
variable {X : Cx} {W : WX} {e tg o i : Expr} {pos : Pos} {f fo fi : Ex} {g : Gm} {gx : Xm}
theorem mx_of (h : MG X tg g) : MX X W tg (xG g) := pg_imp h fun v σ H Q ⟨m, S, d, ρ, rs, re, r, q⟩ => by
  unfold xG at q
  cases e : g d S ρ with
  | none => simp only [e] at q; exact q.elim
  | some ρ' => simp only [e] at q; exact ⟨m, S, d, ρ, ρ', rs, re, r, e, fun σ' re' => q m H σ' (Fin.refl rs) re'⟩
theorem aftS_tgt {K : PySem.W.Frag} {o : Out} {m : Nat → Addr} {S : Store} {H : Hp} {E : Ends} (q : AftS K W o.tgt m S H E) : AftS K W o.tgt m S H { nx := E.nx, rt := fun _ _ => False } := by
  cases o <;> first | exact q | exact q.elim
theorem ms_asgX (he : ME X W e f) (hg : MX X W tg gx) (hs : swapsWithSole [tg] e pos.line X.env = pure false := by rfl) (hw : swappedStores [tg] e X.env = pure none := by rfl)
    (h1 : (assignEach [tg] X.env).map (·.2) = [assign tg X.env] := by rfl) : MS X W (.Assign [tg] e pos) (sAsgX f gx) :=
  ps_imp (ps_asg he hg hs hw h1) fun E σ H q => by
    obtain ⟨m, S, ρ, rs, re, q⟩ := tS_bind (P := Rv X.K) (f := f) q
    exact ⟨m, S, ρ, rs, re, q.mono fun v H1 ⟨m1, S1, d, ρ1, rs1, re1, p, q1⟩ => ⟨m1, S1, d, ρ1, rs1, re1, p, aftS_tgt q1⟩⟩
/-- o[i] = v -/
def rSetD (K : PySem.W.Frag) (g : D → D → D → Store → Option Store) : TSet := fun o i v H Q => ∃ m S x y z S', RS K m S H ∧ Rv K m S.length H x o ∧ Rv K m S.length H y i ∧ Rv K m S.length H z v ∧ g x y z S = some S' ∧ ∀ m' H', Fin K m S H m' S' H' → Q H'
def xSub (fo fi : Ex) (g : D → D → D → Store → Option Store) : Xm := fun d ρ S => (fo ρ S).out ρ fun o S1 => (fi ρ S1).out ρ fun i S2 => match g o i d S2 with
  | some S3 => .nx ρ S3
  | none => .er
theorem mx_sub {g : D → D → D → Store → Option Store} (ho : ME X W o fo) (hi : ME X W i fi) (hs : PSet X (rSetD X.K g))
    (ha : ∀ v, assign (.Subscript o i pos) X.env v = (do
      let ov ← holding [v] (eval o X.env)
      let iv ← holding [v, ov] (eval i X.env)
      standAt pos
      holding [v, ov, iv] (setItem ov iv v)
      release [v, ov, iv] []) := by intro _; rfl) : MX X W (.Subscript o i pos) (xSub fo fi g) := pg_imp (pg_sub ho hi hs ha) fun v σ H Q ⟨m, S, d, ρ, rs, re, r, q⟩ => by
  unfold xSub at q
  refine ⟨m, S, ρ, rs, re.at_, ?_⟩
  cases e1 : fo ρ S with
  | er => rw [e1] at q; exact q
  | ex C dd S' => rw [e1] at q; exact fun m' H' g => q m' H' σ g (g.re re)
  | ok o2 S2 =>
    rw [e1] at q
    simp only [R.out] at q
    intro m1 H1 v1 g1 p1
    refine ⟨m1, S2, ρ, g1.rs, g1.renv re.at_, ?_⟩
    cases e2 : fi ρ S2 with
    | er => rw [e2] at q; exact q
    | ex C dd S' => rw [e2] at q; exact fun m' H' g => q m' H' σ (g1.trans g) ((g1.trans g).re re)
    | ok i3 S3 =>
      rw [e2] at q
      simp only [] at q
      intro m2 H2 v2 g2 p2
      cases e3 : g o2 i3 d S3 with
      | none => rw [e3] at q; exact q.elim
      | some S4 =>
        rw [e3] at q
        exact ⟨m2, S3, o2, i3, d, S4, g2.rs, g2.rv p1, p2, (g1.trans g2).rv r, e3, fun m' H' g3 => q m' H' σ ((g1.trans g2).trans g3) (((g1.trans g2).trans g3).re re)⟩
def stL (x y z : D) (S : Store) : Option Store := match x, y with
  | .loc n, .int k => (lstW S n).bind fun xs => (ixN xs.length k).map fun j => S.set n (.lst (xs.set j z))
  | _, _ => none
theorem set_lst : PSet X (rSetD X.K stL) := by
  intro pins s σ H o i v ov iv u Q I ro ri rv h
  obtain ⟨m, S, x, y, z, S', rs, rx, ry, rz, e, q⟩ := h
  refine set_list pins s σ H o i v ov iv u Q I ro ri rv ?_
  unfold stL at e
  split at e
  · rename_i n k
    simp only [Option.bind_eq_some_iff, Option.map_eq_some_iff] at e
    obtain ⟨xs, e1, j, e2, rfl⟩ := e
    obtain ⟨_, rfl⟩ := rx.loc
    cases ry
    obtain ⟨hS, vs, qH, r⟩ := rs.listW e1
    refine ⟨m n, vs, k, j, rfl, rfl, qH, by rw [r.length]; exact e2, ?_⟩
    refine q m _ (Fin.write rs hS rfl ⟨_, upd_same, (r.set j rz).up (Nat.le_refl _) (fun _ _ => rfl) (Mono.write qH (fun _ z => by cases z) (fun _ _ z => by cases z))⟩)
  · cases e

/-! ### op= -/
def sAug (i : Nat) (fe : Ex) (g : D → D → Store → O D) : Sm := fun ρ S => match ρ[i]? with
  | some (some d) => (fe ρ S).out ρ fun y S1 => match g d y S1 with
    | some (z, S2) => .nx (ρ.set i (some z)) S2
    | none => .er
  | _ => .er
theorem ip_of {op : Operator} {g : D → D → Store → O D} (h : PIp X op (rO2 X.K g)) : PIp X op (rO2 X.K g) := h
theorem ms_aug {x : Str} {op : Operator} {n : Nat} {pos' : Pos} {g : D → D → Store → O D} (hN : X.N.Nodup) (hi : X.N[n]? = some x) (hx : Loc X.env.scope x) (he : ME X W e f) (ho : PIp X op (rO2 X.K g)) (hf : X.fn x = true ∨ X.env.scope.names.lookup x = some .local := by first | exact .inl rfl | exact .inr rfl | assumption) :
    MS X W (.AugAssign (.Name x pos') op e pos) (sAug n f g) := ps_imp (ps_aug hN hi hx he ho hf) fun E σ H ⟨m, S, ρ, rs, re, q⟩ => by
  unfold sAug at q
  split at q
  · rename_i d hd
    obtain ⟨v, e1, r1⟩ := re.at_ _ _ hd
    refine ⟨v, e1, m, S, ρ, rs, re.at_, ?_⟩
    cases e2 : f ρ S with
    | er => rw [e2] at q; exact q
    | ex C dd S' => rw [e2] at q; exact fun m' H' g => q m' H' σ g (g.re re)
    | ok y S2 =>
      rw [e2] at q
      simp only [R.out] at q
      intro m1 H1 v1 g1 p1
      cases e3 : g d y S2 with
      | none => rw [e3] at q; exact q.elim
      | some pr =>
        obtain ⟨z, S3⟩ := pr
        rw [e3] at q
        exact ⟨m1, S2, d, y, g1.rs, g1.rv r1, p1, z, S3, e3, fun m' H' v' g2 p2 => q m' H' _ (g1.trans g2) (((g1.trans g2).re re).set p2)⟩
  · exact q.elim
def opIAdd (x y : D) (S : Store) : O D := match x, y with
  | .int i, .int j => some (.int (i + j), S)
  | _, _ => none
def opISub (x y : D) (S : Store) : O D := match x, y with
  | .int i, .int j => some (.int (i - j), S)
  | _, _ => none
theorem ipp_add : PIp X .Add (rO2 X.K opIAdd) := by
  intro pins s σ H x y v u Q I rx ry h
  obtain ⟨m, S, d, e, rs, r1, r2, ok⟩ := h
  refine ip_add pins s σ H x y v u Q I rx ry ?_
  unfold opIAdd at ok
  split at ok
  · cases r1; cases r2
    exact ⟨_, _, rfl, rfl, ok.same rs rfl rfl⟩
  · exact ok.none.elim
theorem ipp_sub : PIp X .Sub (rO2 X.K opISub) := by
  intro pins s σ H x y v u Q I rx ry h
  obtain ⟨m, S, d, e, rs, r1, r2, ok⟩ := h
  refine ip_sub pins s σ H x y v u Q I rx ry ?_
  unfold opISub at ok
  split at ok
  · cases r1; cases r2
    exact ⟨_, _, rfl, rfl, ok.same rs rfl rfl⟩
  · exact ok.none.elim
def sFldAugM (cs : List Addr) (fo : Ex) (nm : Str) (fe : Ex) (g : D → D → Store → O D) : Sm := fun ρ S => (fo ρ S).out ρ fun o S1 => match o, insOf cs S1 o with
  | .loc n, some (C, fs) => match fs.lookup nm with
    | some v => (fe ρ S1).out ρ fun y S2 => match g v y S2 with
      | some (z, S3) => match insOf [C] S3 o with
        | some (_, fs') => if fs'.length < 1000 then .nx ρ (S3.set n (.ins C (putD nm z fs'))) else .er
        | none => .er
      | none => .er
    | none => .er
  | _, _ => .er
theorem ms_fldaug {nm : Str} {value : Expr} {op : Operator} {tpos : Pos} {cs : List Addr} {fv : Ex} {g : D → D → Store → O D} (ho : ME X W o fo) (hv : ME X W value fv) (hop : InOp X op (rO2 X.K g)) (hcs : ∀ C ∈ cs, Cls X.K C ∧ NoAttr X.K C nm) : MS X W (.AugAssign (.Attribute o nm tpos) op value pos) (sFldAugM cs fo nm fv g) := by
  refine ps_imp (ps_fldaug ho hv hop) fun E σ H ⟨m, S, ρ, rs, re, q⟩ => ?_
  unfold sFldAugM at q
  refine ⟨m, S, ρ, rs, re.at_, ?_⟩
  cases e1 : fo ρ S with
  | er => rw [e1] at q; exact q
  | ex C dd S' => rw [e1] at q; exact fun m' H' g => q m' H' σ g (g.re re)
  | ok o2 S2 =>
    rw [e1] at q
    simp only [R.out] at q
    intro m1 H1 v1 g1 p1
    split at q
    · rename_i n C fs hi
      split at q
      · rename_i v hl
        obtain ⟨n', dx, vs, en, rfl, hS, hc, hH, r2⟩ := g1.rs.ins p1 hi
        cases en
        obtain ⟨u, hu, ru⟩ := r2.lookup hl
        refine ⟨m1 n, C, dx, vs, u, rfl, hH, (hcs C hc).1, (hcs C hc).2, hu, m1, S2, ρ, g1.rs, g1.renv re.at_, ?_⟩
        cases e2 : fv ρ S2 with
        | er => rw [e2] at q; exact q
        | ex C dd S' => rw [e2] at q; exact fun m' H' g => q m' H' σ (g1.trans g) ((g1.trans g).re re)
        | ok y S3 =>
          rw [e2] at q
          simp only [] at q
          intro m2 H2 v2 g2 p2
          cases e3 : g v y S3 with
          | none => rw [e3] at q; exact q.elim
          | some pr =>
            obtain ⟨z, S4⟩ := pr
            rw [e3] at q
            simp only [] at q
            refine ⟨m2, S3, v, y, g2.rs, g2.rv ru, p2, z, S4, e3, fun m3 H3 w g3 p3 => ?_⟩
            split at q
            · rename_i C' fs' hi3
              split at q
              · rename_i hz
                obtain ⟨n', dx', vs', en, e5, hS', hc', hH', r3⟩ := g3.rs.ins ((g2.trans g3).rv p1) hi3
                cases en
                have hC : C' = C := by simpa using hc'
                subst hC
                have e6 : m3 n = m1 n := (V.ref.inj e5).symm
                have hH2 : H3 (m1 n) = some (.ins C' dx' vs') := by rw [← e6]; exact hH'
                refine ⟨dx', vs', hH2, by rw [r3.length]; exact hz, ?_⟩
                have mo : Mono X.K H3 (upd H3 (m3 n) (.ins C' dx' (putF nm w vs'))) := Mono.write hH' (fun _ z => by cases z) (fun _ _ z => by cases z)
                have fw : Fin X.K m3 S4 H3 m3 (S4.set n (.ins C' (putD nm z fs'))) (upd H3 (m3 n) (.ins C' dx' (putF nm w vs'))) :=
                  Fin.write g3.rs hS' rfl ⟨dx', _, upd_same, (r3.up (Nat.le_refl _) (fun _ _ => rfl) mo).put (p3.up (Nat.le_refl _) (fun _ _ => rfl) mo)⟩
                have ff := ((g1.trans g2).trans g3).trans fw
                rw [← e6]
                exact q m3 _ σ ff (ff.re re)
              · exact q.elim
            · exact q.elim
      · exact q.elim
    · exact q.elim
theorem inp_add : InOp X .Add (rO2 X.K opIAdd) := ipp_add
theorem inp_sub : InOp X .Sub (rO2 X.K opISub) := ipp_sub
end
end M1

end

section
set_option maxRecDepth 100000
set_option maxHeartbeats 2000000
/-! M11: bytes.fromhex(x), x a local name -/
namespace M1F
open PySem PySem.Spec PyProof.Rows L2 PySem.W
open Builtin Builtin.Bytes

def hexV (c : Nat) : Option Nat := if 48 ≤ c ∧ c ≤ 57 then some (c - 48) else if 97 ≤ c ∧ c ≤ 102 then some (c - 87) else if 65 ≤ c ∧ c ≤ 70 then some (c - 55) else none
def unhex : List Nat → Option (List UInt8)
  | [] => some []
  | c :: d :: r => (hexV c).bind fun a => (hexV d).bind fun b => (unhex r).map ((a * 16 + b).toUInt8 :: ·)
  | _ => none
namespace FH
abbrev bound : Obj := { cls := .type "builtin_function_or_method", data := .fields #[.builtin "bytes.fromhex", .type "bytes"] }
theorem type_fh : typeOf (.builtin "bytes.fromhex") = pure (.type "classmethod_descriptor") := by show builtinType _ = _; rw [builtinType_eq_fast]; kernel_rfl
theorem entry_fh : entryFor table "bytes.fromhex" = some Builtin.«bytes.fromhex» := entryFor_of_tree (by kernel_rfl)
theorem quiet_fh {as : Args} : (Code.builtin "bytes.fromhex" as).quiet = true := Code.quiet_builtin _ (by decide +kernel)
theorem type_bytes : isType (.type "bytes") = pure true := by first | rfl | kernel_rfl | (unfold isType; rw [isSubtype_type]; kernel_rfl)
theorem sub_bytes : isSubtype (.type "bytes") (.type "bytes") = pure true := by first | rfl | kernel_rfl | (rw [isSubtype_type]; kernel_rfl)
theorem owner_fh : (kfb_private% "ownerAndName") "bytes.fromhex" = ("bytes", "fromhex") := by first | decide +kernel | kernel_rfl
theorem find_fh (K : PySem.W.Frag) : PySem.W.findCls K (.type "bytes") (.type "type") (PySem.Str.ofString "fromhex") = some (.get (.builtin "classmethod_descriptor.__get__") (.builtin "bytes.fromhex") .none (.type "bytes")) := by first | rfl | kernel_rfl
theorem check_fh {z : PySem.Str} {t : Tok} : checkBoundCall "bytes.fromhex" ⟨[.type "bytes", .str z t], []⟩ = pure () := by first | kernel_rfl | rfl
def HOf (u : Addr) : HO := .ext fun h => h.get? u = some bound
section
variable {prog : Program} {w : World} {M : Model} {A : Around} {E : Value → Shared → Prop} {s : Shared} {K : PySem.W.Frag}
theorem run_get {P : Fin → Shared → Prop} (h : P (.done (.ret (.ref s.heap.objs.size))) { s with heap := s.heap.push bound }) :
    wpAny M A (Builtin.«classmethod_descriptor.__get__» ⟨[.builtin "bytes.fromhex", .none, .type "bytes"], []⟩) P E s := by
  unfold Builtin.«classmethod_descriptor.__get__»
  refine wpAny_bind (wpAny_of_eq (a := (.builtin "bytes.fromhex", none, some (.type "bytes"))) (by first | rfl | kernel_rfl) ?_)
  simp only [owner_fh]
  refine wpAny_bind (wpAny_of_eq (a := .type "bytes") rfl ?_)
  refine wpAny_bind (wpAny_of_eq (a := true) type_bytes ?_)
  refine KFB.if_not rfl ?_
  refine wpAny_bind (wpAny_of_eq (a := true) sub_bytes ?_)
  refine KFB.if_not rfl ?_
  exact wpAny_bind (wpAny_newObj_type (wpAny_pure h))
theorem get {pl : Sem Bool} {Q : Value × List Value → Shared → Prop} (X : K.In s.heap)
    (h : Q (.ref s.heap.objs.size, []) { s with heap := s.heap.push bound, toks := s.toks + 1 }) : wpAny (model prog w) A (getMethod (.type "bytes") (PySem.Str.ofString "fromhex") pl) Q E s := by
  have hstub : opaqueClassAbove (.type "bytes") = pure none := by unfold opaqueClassAbove; dsimp only; rw [show Manifest.isStub "bytes" = false by decide +kernel]; rfl
  have ht : typeOf (.type "bytes") = pure (.type "type") := by first | rfl | kernel_rfl
  have L0 : PySem.W.Looks (model prog w) s.heap (typeOf (.type "bytes")) (.type "type") := PySem.W.Looks.of_pure ht
  have hg : PySem.W.findIn K (.type "type") "__getattribute__" = some (some (.builtin "type.__getattribute__")) := PySem.W.type_tga
  unfold getMethod specialOf
  refine wpAny_bind (wpAny_bind (L0.here ((PySem.W.looks_findIn X hg).here ?_)))
  dsimp only
  rw [if_pos PySem.W.canon_tga]
  refine wpAny_bind (wpAny_mono (Q := fun v => Q (v, [])) (E := E) ?_ (fun _ _ z => wpAny_pure z) fun _ _ z => z)
  have LO : PySem.W.Looks (model prog w) s.heap (opaqueClassAbove (.type "bytes")) none := PySem.W.Looks.of_pure hstub
  refine PySem.W.cls_open X LO L0 hg (PySem.W.looks_hook X (r := none) (by rfl)) (by show PySem.W.subIn K _ _ = _; rfl) (find_fh K) ?_
  show wpAny _ _ (holding [.builtin "bytes.fromhex"] (call (.builtin "classmethod_descriptor.__get__") [.builtin "bytes.fromhex", .none, .type "bytes"]) >>= fun v => ret v) _ _ _
  exact wpAny_bind (wpAny_holding (wpAny_call_entry PySem.W.KFB.slot_get type_fh PySem.W.KFB.entry_get (run_get ⟨_, rfl, wpAny_pure (wpAny_pure h)⟩) (PySem.W.KFB.args_get _ _ _)))
theorem callWith_fields {pos : Pos} {u : Addr} {first : List Value} {args : List (Bool × Sem Value)} {Q : Value → Shared → Prop} (hplain : args.any (·.1) = false)
    (h : wpAny M A (evalArgs (.ref u) true args []) (fun x s₁ => s₁.heap.get? u = some bound ∧ wpAny M A (call (.ref u) (first ++ x.pos) x.kw) Q E s₁) E s) : wpAny M A (callWith pos (.ref u) first args []) Q E s := by
  unfold callWith
  refine wpAny_bind (wpAny_holding (wpAny_mono h (fun x s₁ h₁ => wpAny_bind (wpAny_standAt ?_)) fun _ _ x => x))
  obtain ⟨ho, hcall⟩ := h₁
  simp only [hplain, List.any_nil, Bool.or_false]
  refine wpAny_bind (m := keeperOf (.ref u)) ?_
  unfold keeperOf
  refine wpAny_bind (wpAny_load ho ?_)
  simp only [bound, show (Value.type "builtin_function_or_method" != Value.type "method") = true by decide, show (Value.type "builtin_function_or_method" == Value.type "builtin_function_or_method" || Value.type "builtin_function_or_method" == Value.type "method-wrapper") = true by decide, if_true]
  refine wpAny_pure ?_
  exact wpAny_bind (wpAny_mono hcall (fun r s₂ hr => wpAny_bind (wpAny_holding (wpAny_point (wpAny_pure hr)))) fun _ _ x => x)
theorem callWith_fh {pos : Pos} {u : Addr} {first : List Value} {env : PySem.Env} {e : Expr} {rest : List Expr} {Q : Value → Shared → Prop}
    (h : wpAny M A (spliced (backTo pos (starEach (e :: rest) env))) (fun vs s₁ => s₁.heap.get? u = some bound ∧ wpAny M A (call (.ref u) (first ++ vs)) Q E s₁) E s)
    (he : starEach (e :: rest) env = (false, eval e env) :: starEach rest env := by rfl) (hplain : (backTo pos (starEach rest env)).any (·.1) = false := by rfl) :
    wpAny M A (callWith pos (.ref u) first (backTo pos (starEach (e :: rest) env)) []) Q E s := by
  rw [he] at h ⊢
  refine callWith_fields (by show (false || (backTo pos (starEach rest env)).any (·.1)) = false; rw [hplain]; rfl) ?_
  exact Calls.evalArgs_plain h
/-- the private reader, by its equations -/
theorem reader : ∃ F : Nat → Nat → List Nat → Array UInt8 → Except Nat (Array UInt8), (∀ n i out, F n i [] out = .ok out) ∧
    (∀ n i c d r out a b, hexV c = some a → hexV d = some b → F (n + 1) i (c :: d :: r) out = F n (i + 2) r (out.push (a * 16 + b).toUInt8)) ∧
    ∀ (z : PySem.Str) (t : Tok), Builtin.«bytes.fromhex» ⟨[.type "bytes", .str z t], []⟩ = (do
      let shown ← typeNameWhole (.type "bytes")
      let some s ← asStr? (.str z t) | rule s!"bytes.fromhex.not-str"; raiseError "TypeError" s!"fromhex() argument must be str, not {← argTypeName (.str z t)}"
      if let some i := s.cps.findIdx? (· ≥ 128) then return ← (do rule s!"bytes.fromhex.bad-character"; raiseError "ValueError" s!"non-hexadecimal number found in fromhex() arg at position {i}" : Sem Fin)
      match F s.cps.size 0 s.cps.toList #[] with
      | .error i => (do rule s!"bytes.fromhex.bad-character"; raiseError "ValueError" s!"non-hexadecimal number found in fromhex() arg at position {i}" : Sem Fin)
      | .ok b => ret (← Builtin.Bytes.Kind.bytes.new b)) := by
  apply Exists.intro
  refine ⟨?g1, ?g2, ?g3⟩
  case g3 => exact fun z t => rfl
  case g1 => intro n i out; cases n <;> rfl
  case g2 =>
    intro n i c d r out a b ha hb
    have hc : (decide (c < 128) && isSpace c.toUInt8) = false := by
      have : 48 ≤ c ∧ c ≤ 102 := by
        unfold hexV at ha
        split at ha
        · omega
        · split at ha
          · omega
          · split at ha
            · omega
            · cases ha
      have h2 : ∀ c, c < 103 → 48 ≤ c → isSpace (Nat.toUInt8 c) = false := by decide +kernel
      rw [h2 c (by omega) this.1, Bool.and_false]
    have hv : ∀ c, (if (decide (48 ≤ c) && decide (c ≤ 57)) = true then some (c - 48) else if (decide (97 ≤ c) && decide (c ≤ 102)) = true then some (c - 87) else if (decide (65 ≤ c) && decide (c ≤ 70)) = true then some (c - 55) else none) = hexV c := fun c => by
      unfold hexV
      simp only [Bool.and_eq_true, decide_eq_true_eq]
    show (if (decide (c < 128) && isSpace c.toUInt8) = true then _ else _) = _
    rw [hc, if_neg Bool.false_ne_true]
    split
    · rename_i e
      have e2 := (hv c).symm.trans e
      rw [ha] at e2; cases e2
    · rename_i e1 e2
      cases e2
    · rename_i hi d' r' e2 e1
      cases e1
      have e3 := (hv c).symm.trans e2
      rw [ha] at e3; cases e3
      split
      · rename_i e
        have e4 := (hv d).symm.trans e
        rw [hb] at e4; cases e4
      · rename_i lo e
        have e4 := (hv d).symm.trans e
        rw [hb] at e4; cases e4
        rfl
theorem hexV_rng {c a : Nat} (h : hexV c = some a) : 48 ≤ c ∧ c ≤ 102 := by
  unfold hexV at h
  split at h
  · omega
  · split at h
    · omega
    · split at h
      · omega
      · cases h
theorem read_ok {F : Nat → Nat → List Nat → Array UInt8 → Except Nat (Array UInt8)} (h1 : ∀ n i out, F n i [] out = .ok out)
    (h2 : ∀ n i c d r out a b, hexV c = some a → hexV d = some b → F (n + 1) i (c :: d :: r) out = F n (i + 2) r (out.push (a * 16 + b).toUInt8)) :
    ∀ (l : List Nat) (bs : List UInt8) (n i : Nat) (out : Array UInt8), l.length ≤ n → unhex l = some bs → F n i l out = .ok (out ++ bs.toArray)
  | [], bs, n, i, out, _, e => by
    simp only [unhex, Option.some.injEq] at e
    subst e
    rw [h1]
    simp
  | [c], bs, n, i, out, _, e => by simp [unhex] at e
  | c :: d :: r, bs, n, i, out, hl, e => by
    simp only [unhex, Option.bind_eq_some_iff, Option.map_eq_some_iff] at e
    obtain ⟨a, ea, b, eb, ys, ey, rfl⟩ := e
    cases n with
    | zero => simp at hl
    | succ n =>
      rw [h2 n i c d r out a b ea eb, read_ok h1 h2 r ys n (i + 2) _ (by simp at hl; omega) ey]
      congr 1
      apply Array.toList_inj.mp
      simp
theorem unhex_rng : ∀ {l : List Nat} {bs : List UInt8}, unhex l = some bs → (∀ c ∈ l, c < 128) ∧ bs.length * 2 = l.length
  | [], bs, e => by simp only [unhex, Option.some.injEq] at e; subst e; simp
  | [c], bs, e => by simp [unhex] at e
  | c :: d :: r, bs, e => by
    simp only [unhex, Option.bind_eq_some_iff, Option.map_eq_some_iff] at e
    obtain ⟨a, ea, b, eb, ys, ey, rfl⟩ := e
    obtain ⟨h1, h2⟩ := unhex_rng ey
    have ra := hexV_rng ea
    have rb := hexV_rng eb
    refine ⟨fun x hx => ?_, by simp only [List.length_cons]; omega⟩
    rcases List.mem_cons.mp hx with rfl | hx
    · omega
    · rcases List.mem_cons.mp hx with rfl | hx
      · omega
      · exact h1 x hx
theorem tree {z : PySem.Str} {t : Tok} {bs : List UInt8} {P : Fin → Shared → Prop} (hz : z.length ≤ sizeLine) (hb : unhex z.cps.toList = some bs) (h : P (.done (.ret (.bytes bs.toArray s.toks))) { s with toks := s.toks + 1 }) :
    wpAny M A (Builtin.«bytes.fromhex» ⟨[.type "bytes", .str z t], []⟩) P E s := by
  obtain ⟨F, f1, f2, f3⟩ := reader
  obtain ⟨r1, r2⟩ := unhex_rng hb
  rw [f3]
  refine wpAny_bind (wpAny_of_eq (a := "bytes") (by first | rfl | kernel_rfl) ?_)
  refine wpAny_bind (wpAny_of_eq (a := some z) (by first | rfl | kernel_rfl) ?_)
  have hn : z.cps.findIdx? (· ≥ 128) = none := by
    rw [Array.findIdx?_eq_none_iff]
    intro x hx
    have := r1 x (by simpa using hx)
    simp only [ge_iff_le, decide_eq_false_iff_not]
    omega
  dsimp only
  rw [hn, read_ok f1 f2 _ bs _ 0 #[] (by simp) hb]
  dsimp only
  rw [Array.empty_append]
  have hs : bs.toArray.size ≤ sizeLine := by
    have : z.length = z.cps.toList.length := by simp [PySem.Str.length]
    rw [List.size_toArray]
    omega
  exact wpAny_bind (wpAny_mkBytes (wpAny_pure h) hs)
theorem call_of {x : Addr} {z : PySem.Str} {t : Tok} {bs : List UInt8} {Q : Value → Shared → Prop} (ho : s.heap.get? x = some bound) (hz : z.length ≤ sizeLine) (hb : unhex z.cps.toList = some bs)
    (h : Q (.bytes bs.toArray s.toks) { s with toks := s.toks + 1 }) : wpAny (model prog w) A (call (.ref x) [.str z t]) Q E s := by
  refine wpAny_call (codeAny_of_tree ?_)
  show wpAny _ A.in1 (callAny (.ref x) ⟨[.str z t], []⟩) _ _ s
  simp only [callAny]
  refine wpAny_bind (wpAny_load ho ?_)
  simp only [bound, show (Value.type "builtin_function_or_method" == Value.type "method" || Value.type "builtin_function_or_method" == Value.type "builtin_function_or_method" || Value.type "builtin_function_or_method" == Value.type "method-wrapper") = true by decide, if_true]
  refine KFB.if_so (by decide) ?_
  refine wpAny_bind (wpAny_of_eq (a := ()) check_fh ?_)
  refine wpAny_bind (wpAny_pure (wpAny_pure ?_))
  exact ⟨quiet_fh, codeAny_builtin entry_fh (tree hz hb h)⟩
end
end FH
end M1F
namespace M1
open PySem PySem.Spec PyProof.Rows L2
open M1F (unhex)
def eFH (i : Nat) : Ex := fun ρ S => match ρ[i]? with
  | some (some (.str z)) => if z.length ≤ sizeLine then match unhex z.cps.toList with
      | some bs => .ok (.byt bs.toArray) S
      | none => .er
    else .er
  | _ => .er
theorem me_fromhex {X : Cx} {W : WX} {e : Expr} {i : Nat} {p1 p2 pos : Pos} {pl : Sem Bool} (hg : Gl X "bytes") (hm : X.mg "bytes" = none) (hv : PE X e (tVar i))
    (hst : starEach [e] X.env = (false, eval e X.env) :: starEach [] X.env := by rfl) (hpl : (backTo pos (starEach [] X.env)).any (·.1) = false := by rfl)
    (ht : eval (.Call (.Attribute (.Name "bytes" p1) "fromhex" p2) [e] [] pos) X.env = (do
      let ov ← eval (.Name "bytes" p1) X.env
      standAt p2.atName
      let (f, first) ← holding [ov] (getMethod ov "fromhex" pl)
      callWith pos f first (backTo pos (starEach [e] X.env)) (backToKw pos (keywordEach [] X.env))) := by rfl) : ME X W (.Call (.Attribute (.Name "bytes" p1) "fromhex" p2) [e] [] pos) (eFH i) := by
  refine ⟨fun pins s σ H Q I h => ?_⟩
  obtain ⟨m, S, ρ, rs, re, q⟩ := h
  unfold eFH at q
  split at q
  · rename_i z hz
    split at q
    · rename_i hl
      split at q
      · rename_i bs hb
        obtain ⟨v, e1, r1⟩ := re _ _ hz
        cases r1
        refine PySem.W.methodCall_KW (pl := pl) (ld_blt I hg hm (by decide +kernel : bootBuiltins "bytes" = some (.type "bytes")) ?_ (by decide) (by decide)) ht
        refine M1F.FH.get I.kIn ?_
        have eb : (s.heap.push M1F.FH.bound).get? s.heap.objs.size = some M1F.FH.bound := Heap.get?_push_size _ rfl
        have I2 := I.laid (t' := s.toks + 1) (a := s.heap.objs.size) (o := M1F.FH.HOf s.heap.objs.size) (h' := s.heap.push M1F.FH.bound) (fun b u q => Heap.get?_push_of_some _ q) (Nat.le_refl _) ⟨eb, ⟨_, eb⟩, fun h1 h2 f k => k _ f⟩
        show wpAny _ _ (callWith pos (.ref s.heap.objs.size) [] (backTo pos (starEach [e] X.env)) []) _ _ _
        have ha := pa_cons hv pa_nil hst
        have hn : H s.heap.objs.size = none := I.hok.fresh (Nat.le_refl _)
        refine M1F.FH.callWith_fh ?_ hst hpl
        refine thn (ha.run pos pins _ σ _ (fun vs H2 => vs = [.str z] ∧ H2 = upd H s.heap.objs.size (M1F.FH.HOf s.heap.objs.size)) I2 ⟨_, e1, rfl, rfl⟩) fun us s2 ⟨vs, H2, I3, rv, ev, eH⟩ => ?_
        subst ev; subst eH
        obtain ⟨u, rfl, ru⟩ := vals1 rv
        obtain ⟨t, rfl⟩ := ru
        have hat : s2.heap.get? s.heap.objs.size = some M1F.FH.bound := by
          have x : ObjOk X.prog X.w _ s2.heap s.heap.objs.size (.ext fun h => h.get? s.heap.objs.size = some M1F.FH.bound) := I3.hok _ _ upd_same
          exact x.1
        refine ⟨hat, ?_⟩
        refine M1F.FH.call_of hat hl hb ?_
        refine ⟨.byt bs.toArray, _, I3.tok _, ⟨_, rfl⟩, ?_⟩
        exact q m _ _ (Fin.junk rs hn) rfl
      · exact q.elim
    · exact q.elim
  · exact q.elim
end M1

end

section
set_option maxRecDepth 100000
set_option maxHeartbeats 2000000
/-! M12: ops by cases, the head's facts, what callers know -/
namespace M1
open PySem PySem.Spec PyProof.Rows L2

def orO (g h : D → D → Store → O D) (x y : D) (S : Store) : O D := match g x y S with
  | some r => some r
  | none => h x y S
theorem rO2_or {K : PySem.W.Frag} {g h : D → D → Store → O D} {v u : V} {H : Hp} {Q : VK} (q : rO2 K (orO g h) v u H Q) : rO2 K g v u H Q ∨ rO2 K h v u H Q := by
  obtain ⟨m, S, x, y, rs, rx, ry, ok⟩ := q
  unfold orO at ok
  cases e : g x y S with
  | some r => rw [e] at ok; exact .inl ⟨m, S, x, y, rs, rx, ry, by rw [e]; exact ok⟩
  | none => rw [e] at ok; exact .inr ⟨m, S, x, y, rs, rx, ry, ok⟩
theorem opp_or {X : Cx} {f : Value → Value → Sem Value} {g h : D → D → Store → O D} (a : OpR X f (rO2 X.K g)) (b : OpR X f (rO2 X.K h)) : OpR X f (rO2 X.K (orO g h)) := by
  intro pins s σ H v u vv uu Q I rv ru q
  rcases rO2_or q with q | q
  · exact a pins s σ H v u vv uu Q I rv ru q
  · exact b pins s σ H v u vv uu Q I rv ru q
abbrev opMulA := orO opMul opRepT
abbrev opInA := orO opIn opInC
abbrev opIxA := orO opIx opIxB
section
variable {X : Cx} {W : WX}
theorem opp_mulA : OpR X (binaryOp .Mult) (rO2 X.K opMulA) := opp_or opp_mul opp_repT
theorem opp_inA : OpR X (compareOp .In) (rO2 X.K opInA) := opp_or opp_in opp_inC
theorem ix_opIxA : IxR X (rO2 X.K opIxA) := by
  intro value slice pins s σ H x y v u Q I rx ry q hs
  rcases rO2_or q with q | q
  · exact ix_opIx value slice pins s σ H x y v u Q I rx ry q hs
  · obtain ⟨m, S, d, e, rs, r1, r2, ok⟩ := q
    unfold opIxB at ok
    split at ok
    · rename_i b i
      split at ok
      · rename_i hz
        cases r1; cases r2
        obtain ⟨t, rfl⟩ := rx
        obtain ⟨t', rfl⟩ := ry
        obtain ⟨l⟩ := b
        have hl : sizeLine = 16777216 := sizeLine_eq
        have h1 := hz.1
        simp only [List.size_toArray] at h1 hz
        exact tail_any (PySem.W.typeIs_bytes s l.toArray t) PySem.W.FB.slot_bytes_getitem.lookup (PySem.W.getItem_bytes (by omega) hz.2.1 hz.2.2 ⟨.int ((l.getD i.toNat 0).toNat : Nat), H, I.tok _, ⟨_, rfl⟩, ok.same rs rfl rfl⟩) hs
      · exact ok.none.elim
    · exact ok.none.elim
theorem me_ixA {a b : Expr} {pos : Pos} {f h : Ex} (ha : ME X W a f) (hb : ME X W b h) (hs : PlainIx b := by intro _ _; rfl) : ME X W (.Subscript a b pos) (eOp opIxA f h) :=
  pe_imp (pe_ix ix_opIxA ha hb hs) fun _ _ _ => tOp_of

/-! ### globals -/
theorem me_gint {x : Str} {i : Int} {pos : Pos} (hg : Gl X x) (hm : ∃ t, X.mg x = some (.int i t)) (hd : (x == ("__debug__" : Str)) = false := by decide) : ME X W (.Name x pos) (eC (.int i)) := by
  obtain ⟨t, hm⟩ := hm
  exact me_c (pe_glob (v := .int i) hg hm ⟨t, rfl⟩ hd) fun _ _ _ => rfl
theorem me_gstr {x z : Str} {pos : Pos} (hg : Gl X x) (hm : ∃ t, X.mg x = some (.str z t)) (hd : (x == ("__debug__" : Str)) = false := by decide) : ME X W (.Name x pos) (eC (.str z)) := by
  obtain ⟨t, hm⟩ := hm
  exact me_c (pe_glob (v := .str z) hg hm ⟨t, rfl⟩ hd) fun _ _ _ => rfl
theorem me_gref {x : Str} {a : Addr} {pos : Pos} (hg : Gl X x) (hm : X.mg x = some (.ref a)) (hd : (x == ("__debug__" : Str)) = false := by decide) : ME X W (.Name x pos) (eC (.gl a)) :=
  me_c (pe_glob (v := .ref a) hg hm rfl hd) fun _ _ _ => rfl
theorem me_ty {x : Str} {T : String} {pos : Pos} (hg : Gl X x) (hm : X.mg x = none) (hv : bootBuiltins x = some (.type T)) (hn : x ≠ "__name__" := by decide) (hd : (x == ("__debug__" : Str)) = false := by decide) : ME X W (.Name x pos) (eC (.ty T)) :=
  me_c (pe_bltn (v := .ty T) hg hm hv rfl hn hd) fun _ _ _ => rfl
end
theorem bt_int : bootBuiltins "int" = some (.type "int") := by decide +kernel
theorem bt_bool : bootBuiltins "bool" = some (.type "bool") := by decide +kernel
theorem bt_str : bootBuiltins "str" = some (.type "str") := by decide +kernel
theorem bt_tuple : bootBuiltins "tuple" = some (.type "tuple") := by decide +kernel
theorem bt_list : bootBuiltins "list" = some (.type "list") := by decide +kernel
theorem bt_dict : bootBuiltins "dict" = some (.type "dict") := by decide +kernel
theorem bt_bytes : bootBuiltins "bytes" = some (.type "bytes") := by decide +kernel
theorem bt_len : bootBuiltins "len" = some (.builtin "len") := by decide +kernel
theorem bt_all : bootBuiltins "all" = some (.builtin "all") := by decide +kernel
theorem bt_any : bootBuiltins "any" = some (.builtin "any") := by decide +kernel
theorem bt_isinstance : bootBuiltins "isinstance" = some (.builtin "isinstance") := by decide +kernel

/-! ### a def, from the head to its callers -/
section
variable {P : Program} {w : World} {K : PySem.W.Frag} {mg : Str → Option Value} {base : Heap} {x qual : Str} {params : Arguments} {body : List Stmt} {scope : Scope} {kws : List (Str × V)} {f : Addr} {fd : FuncData}
theorem tk0 {N : List Str} {cdv : Value} {A : Around} {outer : List PySem.Env} {s : Shared} {H : Hp} {E : XK} : Takes (cxOf (L2.CX P w) P w K mg base N qual scope f cdv A outer s H E) (fun cls d _ H => E cls d H) := takes_of rfl rfl rfl rfl
theorem hp0 {N : List Str} {cdv : Value} {A : Around} {outer : List PySem.Env} {s : Shared} {H : Hp} {E : XK} : PassesOwn (model P w) (cxOf (L2.CX P w) P w K mg base N qual scope f cdv A outer s H E).A (cxOf (L2.CX P w) P w K mg base N qual scope f cdv A outer s H E).env (cxOf (L2.CX P w) P w K mg base N qual scope f cdv A outer s H E).xe :=
  passes_of (X := cxOf (L2.CX P w) P w K mg base N qual scope f cdv A outer s H E) rfl
theorem cal_mk {ps : List Str} {k n : Nat} {F : Fn} (Fd : FunD K x qual params body scope [] kws f fd) (hn : n = ps.length) (hl : LenOk n F) (ok : FnOk P w K mg base (L2.CX P w) k f fd ps (spM K n F)) (hm : mg x = some (.ref f))
    (hb : Binds K fd ps []) : Cal P w K mg base k x F [] :=
  ⟨n, f, fd, ps, [], [], hl, ok, hm, Fd.kp, hb, .nil, fun _ _ _ => Rvs.nil⟩
theorem met_mk {ps : List Str} {k n : Nat} {F : Fn} {C : Addr} (Fd : FunD K x qual params body scope [] kws f fd) (hl : LenOk n F) (ok : FnOk P w K mg base (L2.CX P w) k f fd ps (spM K n F)) (hc : Cls K C) (hm : Meth K C x f)
    (hb : Binds K fd ps []) : Met P w K mg base k C x F [] :=
  ⟨n, f, fd, ps, [], [], hl, ok, hc, hm, hb, .nil, fun _ _ _ => Rvs.nil⟩
theorem mak_mk {ps : List Str} {k n : Nat} {F : Fn} {C : Addr} {y : Str} (Fd : FunD K x qual params body scope [] kws f fd) (hl : LenOk n F) (ok : FnOk P w K mg base (L2.CX P w) k f fd ps (spM K n F)) (hg : mg y = some (.ref C)) (hm : Mk K C f)
    (hb : Binds K fd ps []) : Mak P w K mg base k y C F [] :=
  ⟨n, f, fd, ps, [], [], hl, ok, hg, hm, hb, .nil, fun _ _ _ => Rvs.nil⟩
end
/-- a statement within a class -/
def inCls (s : Stmt) (j : Nat) : Stmt := match s with
  | .ClassDef _ _ _ body _ _ _ _ _ _ _ => body.getD j (.Pass ⟨0, 0, 0, 0⟩)
  | s => s
/-! ### the Hook -/
/-- what the module's names reach, and the place that tells of third parties -/
def asM (g : Addr → Option Obj) (n : Nat) : List Addr := cStatics :: He.asD g n
def obsMG (n : Nat) (fa : List He.Fa) (fn : List He.DefD) (ex : PySem.W.Frag → Bool) (g : Addr → Option Obj) : He.AlD × Bool := (He.obsD fa fn (He.frG g (asM g n)), ex (He.frG g (asM g n)))
def hookM (n : Nat) (fa : List He.Fa) (fn : List He.DefD) (ex : PySem.W.Frag → Bool) : PySem.W.Hook where
  α := He.AlD × Bool
  obs := fun s => obsMG n fa fn ex s.heap.get?
  val := fun _ => (He.valD fn, true)
  says := fun _ h => ∃ K : PySem.W.Frag, K.In h ∧ He.SaysD fa fn K ∧ ex K = true
  of := fun _ _ e => ⟨_, He.frG_in, congrArg (fun z : He.AlD × Bool => z.1) e, congrArg (fun z : He.AlD × Bool => z.2) e⟩
  keeps := fun _ _ _ ⟨K, hK, c⟩ k => ⟨K, PySem.W.Frag.In.keeps hK k, c⟩
theorem obsMG_eq {n : Nat} {fa : List He.Fa} {fn : List He.DefD} {ex : PySem.W.Frag → Bool} {g : Addr → Option Obj} {s : Shared} (h : ∀ a, g a = s.heap.get? a) : obsMG n fa fn ex g = (hookM n fa fn ex).obs s := by
  have e : g = s.heap.get? := funext h
  rw [e] <;> rfl

/-! ### an own exception's class by one Bool -/
def oexB (K : PySem.W.Frag) (C : Addr) : Bool := (match K.lookup C with
    | some ⟨.type "type", _, .cls cd, sl⟩ => (match cd.mro, sl.toList with
      | .ref C' :: bm, [_, _, _, _, some (.builtin n), _] => C' == C && n == "ValueError.__new__" && !cd.hasDel && cd.hasDict && PySem.HandSPX.refsVE bm
      | _, _ => false)
    | _ => false) && (He.eqO (PySem.W.findIn K (.ref C) "__setattr__") (some (some (.builtin "object.__setattr__"))) && (decide (PySem.W.subIn K (.ref C) (.type "BaseException") = some true) && (decide (PySem.W.typeIn K (.ref C) = some (.type "type")) && PySem.W.keepIn K (.ref C))))
theorem oexB_ok {K : PySem.W.Frag} {C : Addr} (h : oexB K C = true) : OexC K C := by
  obtain ⟨h1, h⟩ := He.ba h
  obtain ⟨h2, h⟩ := He.ba h
  obtain ⟨h3, h⟩ := He.ba h
  obtain ⟨h4, h5⟩ := He.ba h
  refine ⟨?_, He.eqO_ok h2, of_decide_eq_true h3, of_decide_eq_true h4, h5⟩
  split at h1
  · rename_i dd cd sl ho
    split at h1
    · rename_i C' bm k0 k1 k2 k3 n k5 hm hs
      simp only [Bool.and_eq_true, beq_iff_eq, Bool.not_eq_true'] at h1
      obtain ⟨⟨⟨⟨rfl, rfl⟩, hdel⟩, hd⟩, hv⟩ := h1
      obtain ⟨nm, bs, mro, ns, qn, hdc, sn, sub, ab, col, del⟩ := cd
      dsimp only at hm hdel hd
      subst hm hdel hd
      have hsl : sl = #[k0, k1, k2, k3, some (.builtin "ValueError.__new__"), k5] := by
        obtain ⟨l⟩ := sl
        simp only at hs
        rw [hs]
      subst hsl
      exact ⟨_, _, _, _, _, _, _, _, _, _, _, _, _, _, _, ho, hv⟩
    · cases h1
  · cases h1
def initB (K : PySem.W.Frag) (C : Addr) (f : Str) : Bool := He.eqO (PySem.W.findIn K (.ref C) "__init__") (some (some (.ref (He.ma K C "__init__")))) && (decide (PySem.W.typeIn K (.ref (He.ma K C "__init__")) = some (.type "function")) && He.eqO (PySem.W.findIn K (.ref C) f) (some none))
def ownB (K : PySem.W.Frag) (C : Addr) : Bool := decide (PySem.W.specialIn K (.ref C) "__getattribute__" = some (some (.builtin "type.__getattribute__"))) && (PySem.W.readsIn K C (.type "type") &&
  (match PySem.W.findCls K (.ref C) (.type "type") "__init__" with
    | some (.val (.builtin n)) => n == "ValueError.__init__"
    | _ => false))
theorem ownB_ok {K : PySem.W.Frag} {C : Addr} (h : ownB K C = true) : OwnInit K C := by
  obtain ⟨h1, h⟩ := He.ba h
  obtain ⟨h2, h3⟩ := He.ba h
  refine ⟨of_decide_eq_true h1, h2, ?_⟩
  split at h3
  · rename_i n e
    rw [e, beq_iff_eq.mp h3]
  · cases h3
/-- what X.__init__(self, 'm'); self.a = g does, read -/
def tOxI (K : PySem.W.Frag) (m a : Str) : TS := tSeq (tDrop (tVeI K (tCons (tVar 0) (tCons (tC (.str m)) tNil)))) (tOst K a (tVar 0) (tVar 1))
theorem ox_pure {K : PySem.W.Frag} {m a : Str} {N : List Str} (vs : List V) (H : Hp) (Q : VK) (E : XK) (h : spOx K a vs H Q E) : tOxI K m a { nx := fun _ H' => Q .non H', rt := Q } (L2.start N vs) H := by
  obtain ⟨b, C, y, rfl, T2, hno, hH, q⟩ := h
  refine ⟨.ref b, rfl, b, C, [.str m], rfl, by simp, T2, hH, ?_⟩
  exact ⟨y, rfl, .ref b, rfl, b, C, rfl, T2, hno, .inl ⟨hH, fun dx h1 h2 => q dx h1 h2⟩⟩
end M1

end

section
set_option maxRecDepth 100000
set_option maxHeartbeats 2000000
/-! M13: what is walked: any sequence, enumerate, zip -/
namespace M1
open PySem PySem.Spec PyProof.Rows L2

theorem pi_or {X : Cx} {tg e : Expr} {t u : TI} (h : PI X tg e t) (k : PI X tg e u) : PI X tg e (fun σ H R => t σ H R ∨ u σ H R) := ⟨fun pins s σ H R I q => by
  rcases q with q | q
  · exact h.run pins s σ H R I q
  · exact k.run pins s σ H R I q⟩
def sgnSrc (z : Str) : Src := ⟨fun i _ => some (z.cps[i]?.map fun c => .str ⟨#[c]⟩), z.cps.size⟩
def iAny (f : Ex) : Ix := bnd f fun d _ S => match d with
  | .tup ds => .ok (seqSrc ds) S
  | .loc n => match lstOf S n with
    | some ds => .ok (lstSrc n ds.length) S
    | none => .er
  | .str z => .ok (sgnSrc z) S
  | _ => .er
theorem itrel_str {K : PySem.W.Frag} {m : Nat → Addr} {S : Store} {H : Hp} {z : Str} : ItRel K (sgnSrc z) (Its z) m S H where
  go := fun m2 S2 H2 f i d e => by
    simp only [sgnSrc, Option.some.injEq, Option.map_eq_some_iff] at e
    obtain ⟨c, e, _⟩ := e
    exact (Array.getElem?_eq_some_iff.mp e).1
  yld := fun m2 S2 H2 f i d e x H3 y => by
    simp only [sgnSrc, Option.some.injEq, Option.map_eq_some_iff] at e
    obtain ⟨c, e, rfl⟩ := e
    obtain ⟨rfl, c', e', rfl⟩ := y
    rw [e] at e'
    cases e'
    exact ⟨Fin.refl f.rs, rfl⟩
  stop := fun m2 S2 H2 f i e => by
    simp only [sgnSrc, Option.some.injEq, Option.map_eq_none_iff] at e
    exact Array.getElem?_eq_none_iff.mp e
def iSgn (f : Ex) : Ix := bnd f fun d _ S => match d with
  | .str z => .ok (sgnSrc z) S
  | _ => .er
section
variable {X : Cx} {W : WX} {tg iter : Expr}
theorem mi_sgn {f : Ex} (h : ME X W iter f) : MI X W tg iter (iSgn f) := pi_imp (pi_str h) fun σ H R q => by
  obtain ⟨m, S, ρ, rs, re, q⟩ := tI_bind (P := Rv X.K) (f := f) q
  refine ⟨m, S, ρ, rs, re, q.mono fun v H1 ⟨m1, S1, d, ρ1, rs1, re1, p, q1⟩ => ?_⟩
  cases d <;> first | exact q1.elim | skip
  cases p
  exact ⟨_, rfl, q1 m1 H1 _ (Fin.refl rs1) itrel_str⟩
theorem mi_any {f : Ex} (h : ME X W iter f) : MI X W tg iter (iAny f) := pi_imp (pi_or (mi_tup h) (pi_or (mi_lst h) (mi_sgn h))) fun σ H R ⟨m, S, ρ, rs, re, q⟩ => by
  unfold iAny bnd at q
  cases e0 : f ρ S with
  | er => rw [e0] at q; exact q.elim
  | ex C d S' => rw [e0] at q; exact .inl ⟨m, S, ρ, rs, re, by unfold iSeq bnd; rw [e0]; exact q⟩
  | ok d S' =>
    rw [e0] at q
    cases d with
    | tup ds => exact .inl ⟨m, S, ρ, rs, re, by unfold iSeq bnd; rw [e0]; exact q⟩
    | loc n => exact .inr (.inl ⟨m, S, ρ, rs, re, by unfold iLst bnd; rw [e0]; exact q⟩)
    | str z => exact .inr (.inr ⟨m, S, ρ, rs, re, by unfold iSgn bnd; rw [e0]; exact q⟩)
    | _ => exact q.elim
end

/-! ### enumerate(tuple) -/
section
variable {prog : Program} {w : World} {A : Around} {E : Value → Shared → Prop} {s : Shared}
theorem meets_enumT (l : Addr) (items : Array Value) :
    Meets (Builtin.«enumerate.__new__» ⟨[.type "enumerate", .ref l], []⟩) (fun _ R s => s.heap.IsTuple l items ∧
      R (.ok (.ret (.ref (s.heap.push { cls := .type "tuple_iterator", data := .fields #[.ref l, .int 0 0] }).objs.size)))
        { s with heap := (s.heap.push { cls := .type "tuple_iterator", data := .fields #[.ref l, .int 0 0] }).push { cls := .type "enumerate", data := .fields #[.none, .bool false, .ref s.heap.objs.size, rawInt 0, .none, .none] } }) :=
  .of_wp fun prog w A R s h => by
    obtain ⟨hp, g, d, tk, os⟩ := s; obtain ⟨hl, h⟩ := h
    have hsub := sub_enumerate
    have hL : Heap.IsTuple (Shared.heap ⟨hp, g, d, tk, os⟩) l items := hl
    wp_walk
    refine wpAny_stack_any fun st => wpAny_pure ?_
    split
    · rename_i c _ _ _ _ _
      cases (c == Value.type "enumerate")
      · wp_walk using wpAny_pyIter_tuple hL
        exact ⟨_, rfl, h⟩
      · wp_walk using wpAny_pyIter_tuple hL
        exact ⟨_, rfl, h⟩
    · wp_walk using wpAny_pyIter_tuple hL
      exact ⟨_, rfl, h⟩
theorem call_enumT {l : Addr} {items : Array Value} {Q : Value → Shared → Prop} (hL : s.heap.IsTuple l items)
    (h : ∀ h', IsEnum h' (s.heap.objs.size + 1) s.heap.objs.size 0 .none → h'.IsTupleIter s.heap.objs.size l 0 → h'.objs.size = s.heap.objs.size + 2 →
      (∀ b o, s.heap.get? b = some o → h'.get? b = some o) → Q (.ref (s.heap.objs.size + 1)) { s with heap := h' }) :
    wpAny (model prog w) A (call (.type "enumerate") [.ref l]) Q E s := by
  refine callType_new F.called_enumerate (by decide) (F.typeCall_enumerate_1 _) (F.newCall_enumerate_1 _) (fun obj => F.args_object_init_2 obj _) F.entry_enumerate_new
    (meets_enumT l items) ⟨hL, ?_⟩
  have hz : (s.heap.push { cls := .type "tuple_iterator", data := .fields #[.ref l, .int 0 0] }).objs.size = s.heap.objs.size + 1 := Heap.size_push ..
  show _ ∧ _
  rw [hz]
  have he : IsEnum ((s.heap.push { cls := .type "tuple_iterator", data := .fields #[.ref l, .int 0 0] }).push
      { cls := .type "enumerate", data := .fields #[.none, .bool false, .ref s.heap.objs.size, rawInt 0, .none, .none] }) (s.heap.objs.size + 1) s.heap.objs.size 0 .none := by
    have := Heap.get?_push_size (s.heap.push { cls := .type "tuple_iterator", data := .fields #[.ref l, .int 0 0] })
      (o := { cls := .type "enumerate", data := .fields #[.none, .bool false, .ref s.heap.objs.size, rawInt 0, .none, .none] }) rfl
    rw [hz] at this; exact this
  refine ⟨⟨_, he, rfl⟩, h _ he ⟨_, Heap.get?_push_of_some _ (Heap.get?_push_size _ rfl), rfl, rfl⟩ (by rw [Heap.size_push, hz]) fun b o x => Heap.get?_push_of_some _ (Heap.get?_push_of_some _ x)⟩
end
def IteT (K : PySem.W.Frag) (a : Addr) : It :=
  ⟨fun i H => ∃ (xs : List V) (x : V), SqT K H a xs ∧ xs[i]? = some x, fun i H v H' => ∃ T x, v = .ref T ∧ H T = none ∧ H' = upd H T (.tup [.int (i : Nat), x]) ∧ ∀ xs, SqT K H a xs → xs[i]? = some x, fun i H => ∃ xs : List V, SqT K H a xs ∧ xs.length ≤ i⟩
theorem turn_enumT {P : Program} {w : World} {K : PySem.W.Frag} {elts : List Expr} {kk : Nat} {tpos : Pos} (a e it : Addr) (hae : a ≠ e) (hai : a ≠ it) :
    Turn P w K (.Tuple elts kk tpos) (IteT K a) [e, it] e (fun i h => (∃ old, IsEnum h e it ((i : Nat) : Int) old) ∧ h.IsTupleIter it a i ∧ e ≠ it) where
  mem := by simp
  obj := fun i h st b hb => by
    obtain ⟨⟨old, he⟩, ⟨o, ho, hc, hd⟩, _⟩ := st
    have e' : b = e ∨ b = it := by simpa using hb
    rcases e' with z | z
    · rw [z]; exact ⟨_, he, fun v q => nomatch q⟩
    · rw [z]; exact ⟨o, ho, fun v q => by rw [hd] at q; cases q⟩
  keep := fun i h h' st k => let ⟨⟨old, he⟩, hi, hne⟩ := st; ⟨⟨old, k e (by simp) _ he⟩, hi.at fun o q => k it (by simp) o q, hne⟩
  item := by
    intro X hP hw hK hc i pins s σ H E I hf st hg
    subst hP hw hK
    obtain ⟨⟨old, he⟩, hit, hne⟩ := st
    obtain ⟨xs, x, hq, hx⟩ := hg
    obtain ⟨its, rv, p, hz⟩ := I.tuple hq
    obtain ⟨u, hu, ru⟩ := rv.get hx
    have hel : e < s.heap.objs.size := Heap.lt_size he
    have hil : it < s.heap.objs.size := by obtain ⟨_, q, _⟩ := hit; exact Heap.lt_size q
    have hlt : i < its.toArray.size := (Array.getElem?_eq_some_iff.mp (show its.toArray[i]? = some u by simpa using hu)).1
    refine wpAny_pyNext_enum_itemD (A := X.A) (Draws.tuple (A := X.A.in1) (I.ok.hd hc) it a hai its.toArray) he ⟨hit, p⟩ hlt hne (by simp; exact ⟨hne, fun z => hae z.symm⟩) fun u' h' tk hPx ho hst' hT hsz hk => ?_
    have hu' : u' = u := by
      have h1 : its.toArray[i]? = some u := by simpa using hu
      rw [h1] at hPx
      exact (Option.some.inj hPx).symm
    subst hu'
    refine ⟨_, rfl, wpAny_letOwnedTupleGo_enum (s := { s with heap := h', toks := tk + 1 }) ho fun h'' he' sb => ?_⟩
    have hT2 : h''.get? s.heap.objs.size = some { cls := .type "tuple", data := .seq #[.int i tk, u'] } := (sb.2 _ (Nat.ne_of_gt hel)).trans hT
    have new : ObjOk X.prog X.w (upd H s.heap.objs.size (.tup [.int (i : Nat), x])) h'' s.heap.objs.size (.tup [.int (i : Nat), x]) :=
      ⟨by show 2 ≤ sizeLine; decide, [.int i tk, u'], .cons ⟨_, rfl⟩ (.cons ru .nil), ⟨_, hT2, rfl, _, rfl⟩⟩
    have I1 : Inv X pins σ (upd H s.heap.objs.size (.tup [.int (i : Nat), x])) { s with heap := h'', toks := tk + 1 } :=
      I.turnedNew (ch := [e, it]) (fun b ob hb q => (sb.2 b (fun z => hb (by simp [z]))).trans (hk b ob (fun z => hb (by simp [z])) (fun z => hb (by simp [z])) q)) hf (Nat.le_refl _) new
    refine ⟨.ref s.heap.objs.size, _, I1, rfl, ⟨_, x, rfl, I.hok.fresh (Nat.le_refl _), rfl, fun ys hy => by rw [I.tuple_inj hy hq]; exact hx⟩, ⟨⟨u', ?_⟩, hst'.1.at fun o q => (sb.2 it (Ne.symm hne)).trans q, hne⟩, fun b hb => ?_⟩
    · have e1 : ((i + 1 : Nat) : Int) = (i : Int) + 1 := by omega
      rw [e1]; exact he'
    · have hb' : b < s.heap.objs.size := by
        have e' : b = e ∨ b = it := by simpa using hb
        rcases e' with z | z
        · rw [z]; exact hel
        · rw [z]; exact hil
      rw [upd_ne (Nat.ne_of_lt hb')]
      exact (hf b hb).1
  done := by
    intro X hP hw hK hc i pins s σ H E I hf st hg
    subst hP hw hK
    obtain ⟨⟨old, he⟩, hit, hne⟩ := st
    obtain ⟨xs, hq, hx⟩ := hg
    obtain ⟨its, rv, p, hz⟩ := I.tuple hq
    obtain ⟨f0, f1, f2, f3, f4, f5⟩ := hf it (by simp)
    have hl := rv.length
    -- the draw's end by its place
    have hT : s.TypeIs (.ref e) "enumerate" := ⟨_, he, rfl⟩
    unfold pyNext
    refine wpAny_bind (wpAny_attempt (wpAny_callSpecial?_slot (name := Str.ofString "__next__") hT F.slot_enumerate_next
      (wpAny_call_entry F.slot_enumerate_next hT F.entry_enumerate_next ?_ (F.args_enumerate_next_1 _))))
    show wpAny _ _ (field (.ref e) 2 >>= _) _ _ _
    refine wpAny_bind (wpAny_field he rfl (x := .ref it) rfl ?_)
    refine wpAny_bind (wpAny_nextOf_tuple_end (A := X.A.in1) (I.ok.hd hc) hit p (by simp; omega) fun h' x he' hx' => ?_)
    obtain ⟨o, ho, hcx⟩ := hx'
    refine wpAny_bind (wpAny_isInstance (T := "StopIteration") (b := true) ⟨o, ho, hcx⟩ isSubtype_stop ?_)
    exact wpAny_pure ⟨rfl, I.turned (t' := s.toks) (fun b o hb q => he' b o hb q) f0 f1 f3 f4 f5⟩
  self := fun A i s Q E st h => let ⟨⟨_, he⟩, _⟩ := st; wpAny_pyIter_enum he h
def iEnumT (K : PySem.W.Frag) (ta : TA) : TI := fun σ H R => ta σ H fun vs H1 => ∃ a xs, vs = [.ref a] ∧ SqT K H1 a xs ∧ R (IteT K a) H1
theorem pi_enumT {X : Cx} {e : Expr} {ta : TA} {p pos tpos : Pos} {elts : List Expr} {kk : Nat} (hg : Gl X "enumerate") (hm : X.mg "enumerate" = none) (ha : PA X [e] ta) (hs : starEach [e] X.env = [(false, eval e X.env)] := by rfl) :
    PI X (.Tuple elts kk tpos) (.Call (.Name "enumerate" p) [e] [] pos) (iEnumT X.K ta) := by
  refine ⟨fun pins s σ H R I h => ?_⟩
  refine Call_ (ld_blt I hg hm PyProof.Rows.boot_enumerate (PyProof.Rows.callWith_type1 (thn (ha.run pos pins s σ H _ I h) fun us s1 ⟨vs, H1, I1, r1, q1⟩ => ?_) hs rfl))
  obtain ⟨a, xs, ex, hq, q⟩ := q1
  subst ex
  cases r1 with
  | cons r rr =>
    cases rr
    cases r
    obtain ⟨its, rv, p', hz⟩ := I1.tuple hq
    have hal : a < s1.heap.objs.size := by obtain ⟨o, ho, _⟩ := p'; exact Heap.lt_size ho
    refine call_enumT (show s1.heap.IsTuple a its.toArray from p') fun h' he hit hsz hk => wpAny_pyIter_enum he ?_
    have I2 : Inv X pins σ H1 { s1 with heap := h' } := I1.kept (t' := s1.toks) hk
    refine ⟨s1.heap.objs.size + 1, [s1.heap.objs.size + 1, s1.heap.objs.size], _, _, H1, rfl, I2, turn_enumT a (s1.heap.objs.size + 1) s1.heap.objs.size (Nat.ne_of_lt (Nat.lt_succ_of_lt hal)) (Nat.ne_of_lt hal), ⟨⟨.none, he⟩, hit, Nat.succ_ne_self _⟩, fun b hb => ?_, q⟩
    have e' : b = s1.heap.objs.size + 1 ∨ b = s1.heap.objs.size := by simpa using hb
    have hle : s1.heap.objs.size ≤ b := by
      rcases e' with z | z
      · rw [z]; exact Nat.le_add_right _ _
      · rw [z]; exact Nat.le_refl _
    exact I1.fpOk hle (I1.hok.fresh hle)

/-! ### enumerate, zip: their mirrors; each item is a new tuple -/
def numbered (i : Nat) (o : Option D) : Option D := o.map fun d => .tup [.int i, d]
def enumT (ds : List D) : Src := ⟨fun i _ => some (numbered i ds[i]?), ds.length⟩
def enumL (n : Nat) (b : Nat) : Src := ⟨fun i S => (lstOf S n).map fun ds => numbered i ds[i]?, b⟩
def iEnumM (f : Ax) : Ix := bnd f fun ds _ S => match ds with
  | [.tup ds] => .ok (enumT ds) S
  | [.loc n] => match lstOf S n with
    | some ds => .ok (enumL n ds.length) S
    | none => .er
  | _ => .er
theorem new_pair {K : PySem.W.Frag} {m : Nat → Addr} {S : Store} {H : Hp} {T : Addr} {ds : List D} {vs : List V} (rs : RS K m S H) (hT : H T = none) (r : Rvs K m S.length H ds vs) : Fin K m S H m S (upd H T (.tup vs)) ∧ Rv K m S.length (upd H T (.tup vs)) (.tup ds) (.ref T) := by
  have f : Fin K m S H m S (upd H T (.tup vs)) := Fin.junk rs hT
  exact ⟨f, Rv.mk_tup (SqT.of upd_same) (f.rvs r)⟩
theorem itrel_enumT {K : PySem.W.Frag} {m : Nat → Addr} {S : Store} {H : Hp} {a : Addr} {vs : List V} {ds : List D} (q : SqT K H a vs) (r : Rvs K m S.length H ds vs) : ItRel K (enumT ds) (IteT K a) m S H where
  go := fun m2 S2 H2 f i d e => by
    simp only [enumT, numbered, Option.some.injEq, Option.map_eq_some_iff] at e
    obtain ⟨c, e, _⟩ := e
    obtain ⟨v, hv, _⟩ := r.get (i := i) e
    exact ⟨vs, v, f.mono a vs q, hv⟩
  yld := fun m2 S2 H2 f i d e x H3 y => by
    simp only [enumT, numbered, Option.some.injEq, Option.map_eq_some_iff] at e
    obtain ⟨c, e, rfl⟩ := e
    obtain ⟨T, v, rfl, hT, rfl, y⟩ := y
    obtain ⟨v', hv, rv⟩ := r.get (i := i) e
    have := y vs (f.mono a vs q)
    rw [hv] at this; cases this
    exact new_pair f.rs hT (.cons rfl (Rvs.one (f.rv rv)))
  stop := fun m2 S2 H2 f i e => by
    simp only [enumT, numbered, Option.some.injEq, Option.map_eq_none_iff] at e
    refine ⟨vs, f.mono a vs q, ?_⟩
    rw [r.length]
    exact List.getElem?_eq_none_iff.mp e
theorem itrel_enumL {K : PySem.W.Frag} {m : Nat → Addr} {S : Store} {H : Hp} {n b : Nat} (hn : n < S.length) : ItRel K (enumL n b) (Ite K (m n)) m S H where
  go := fun m2 S2 H2 f i d e => by
    simp only [enumL, numbered, Option.map_eq_some_iff] at e
    obtain ⟨ds, e1, c, e2, _⟩ := e
    obtain ⟨vs, q, r⟩ := f.rs.list e1
    rw [f.ext n hn] at q
    obtain ⟨v, hv, _⟩ := r.get e2
    exact ⟨vs, v, q, hv⟩
  yld := fun m2 S2 H2 f i d e x H3 y => by
    simp only [enumL, numbered, Option.map_eq_some_iff] at e
    obtain ⟨ds, e1, c, e2, rfl⟩ := e
    obtain ⟨vs, q, r⟩ := f.rs.list e1
    rw [f.ext n hn] at q
    obtain ⟨v, hv, rv⟩ := r.get e2
    obtain ⟨T, v', rfl, hT, rfl, y⟩ := y
    have := y vs q
    rw [hv] at this; cases this
    exact new_pair f.rs hT (.cons rfl (Rvs.one rv))
  stop := fun m2 S2 H2 f i e => by
    simp only [enumL, numbered, Option.map_eq_some_iff, Option.map_eq_none_iff] at e
    obtain ⟨ds, e1, e2⟩ := e
    obtain ⟨vs, q, r⟩ := f.rs.list e1
    rw [f.ext n hn] at q
    refine ⟨vs, q, ?_⟩
    rw [r.length]
    exact List.getElem?_eq_none_iff.mp e2
theorem mi_enum {X : Cx} {W : WX} {e : Expr} {fa : Ax} {p pos tpos : Pos} {elts : List Expr} {kk : Nat} (hg : Gl X "enumerate") (hm : X.mg "enumerate" = none) (ha : MA X W [e] fa) (hs : starEach [e] X.env = [(false, eval e X.env)] := by rfl) :
    MI X W (.Tuple elts kk tpos) (.Call (.Name "enumerate" p) [e] [] pos) (iEnumM fa) := by
  refine pi_imp (pi_or (pi_enumT hg hm ha hs) (pi_enum hg hm ha hs)) fun σ H Rr ⟨m, S, ρ, rs, re, q⟩ => ?_
  unfold iEnumM bnd at q
  cases e0 : fa ρ S with
  | er => rw [e0] at q; exact q.elim
  | ex C d S' => rw [e0] at q; exact .inl ⟨m, S, ρ, rs, re, by rw [e0]; exact q⟩
  | ok ds S' =>
    rw [e0] at q
    simp only [R.bind] at q
    split at q
    · rename_i src S2 hh
      split at hh
      · rename_i xs
        cases hh
        refine .inl ⟨m, S, ρ, rs, re, ?_⟩
        rw [e0]
        intro m' H' v g p
        obtain ⟨v1, rfl, p1⟩ := p.one_of
        obtain ⟨a, vs, rfl, qs, r⟩ := p1.tup
        exact ⟨a, vs, rfl, qs, q m' H' _ g (itrel_enumT qs r)⟩
      · rename_i n
        split at hh
        · rename_i xs hl
          cases hh
          refine .inr ⟨m, S, ρ, rs, re, ?_⟩
          rw [e0]
          intro m' H' v g p
          obtain ⟨v1, rfl, p1⟩ := p.one_of
          obtain ⟨hn, rfl⟩ := p1.loc
          obtain ⟨vs, qs, r⟩ := g.rs.list hl
          exact ⟨_, vs, rfl, qs, q m' H' _ g (itrel_enumL hn)⟩
        · cases hh
      · cases hh
    · rename_i hh
      split at hh
      · cases hh
      · split at hh <;> cases hh
      · cases hh
    · exact q.elim
end M1

end

section
set_option maxRecDepth 100000
set_option maxHeartbeats 2000000
/-! S1: evaluation of mirrors, by simp -/
namespace M1
open PySem L2

section
variable {ρ : Env} {S S1 : Store} {α β γ : Type}
@[simp] theorem eC_ev (d : D) : eC d ρ S = .ok d S := rfl
@[simp] theorem bind_ok (a : α) (k : α → Store → R β) : (R.ok a S).bind k = k a S := rfl
@[simp] theorem bind_ex (C d) (k : α → Store → R β) : (R.ex C d S : R α).bind k = .ex C d S := rfl
@[simp] theorem bind_er (k : α → Store → R β) : (R.er : R α).bind k = .er := rfl
@[simp] theorem out_ok (a : α) (k : α → Store → Out) : (R.ok a S).out ρ k = k a S := rfl
@[simp] theorem out_ex (C d) (k : α → Store → Out) : (R.ex C d S : R α).out ρ k = .ex C d ρ S := rfl
@[simp] theorem of_some (a : α) : R.of (some (a, S)) = .ok a S := rfl
@[simp] theorem seq_nx (k : Sm) : (Out.nx ρ S).seq k = k ρ S := rfl
@[simp] theorem seq_rt (d : D) (k : Sm) : (Out.rt d S).seq k = .rt d S := rfl
@[simp] theorem seq_ex (C d) (k : Sm) : (Out.ex C d ρ S).seq k = .ex C d ρ S := rfl
@[simp] theorem eOp_ev (g f h) : eOp g f h ρ S = (f ρ S).bind fun x S1 => (h ρ S1).bind fun y S2 => R.of (g x y S2) := rfl
@[simp] theorem aNil_ev : aNil ρ S = .ok [] S := rfl
@[simp] theorem aCons_ev (f g) : aCons f g ρ S = (f ρ S).bind fun d S1 => (g ρ S1).bind fun ds S2 => .ok (d :: ds) S2 := rfl
@[simp] theorem eCall_ev (g f) : eCall g f ρ S = (f ρ S).bind fun ds S1 => R.of (g ds S1) := rfl
@[simp] theorem eF_ev (F dd fa) : eF F dd fa ρ S = (fa ρ S).bind fun ds S1 => F (ds ++ dd) S1 := rfl
@[simp] theorem sSeq_ev (f g) : sSeq f g ρ S = (f ρ S).seq g := rfl
@[simp] theorem sRet_ev (f) : sRet f ρ S = (f ρ S).out ρ fun d S1 => .rt d S1 := rfl
@[simp] theorem sNil_ev : sNil ρ S = .nx ρ S := rfl
@[simp] theorem sExpr_ev (f) : sExpr f ρ S = (f ρ S).out ρ fun _ S1 => .nx ρ S1 := rfl
@[simp] theorem sAsg_ev (f i) : sAsg f (gN i) ρ S = (f ρ S).out ρ fun d S1 => .nx (ρ.set i (some d)) S1 := rfl
@[simp] theorem sIf_ev (t f g) : sIf t f g ρ S = (t ρ S).out ρ fun c S1 => if c = true then f ρ S1 else g ρ S1 := rfl
@[simp] theorem eIf_ev (t f g) : eIf t f g ρ S = (t ρ S).bind fun c S1 => if c = true then f ρ S1 else g ρ S1 := rfl
@[simp] theorem tBl_ev (f) : tBl f ρ S = (f ρ S).bind fun d S1 => toB d S1 := rfl
@[simp] theorem toB_ev (b) : toB (.bl b) S = .ok b S := rfl
@[simp] theorem tNotM_ev (f) : tNotM f ρ S = (f ρ S).bind fun c S1 => .ok (!c) S1 := rfl
@[simp] theorem tOrM_ev (f g) : tOrM f g ρ S = (f ρ S).bind fun c S1 => if c = true then .ok true S1 else g ρ S1 := rfl
@[simp] theorem tAndM_ev (f g) : tAndM f g ρ S = (f ρ S).bind fun c S1 => if c = true then g ρ S1 else .ok false S1 := rfl
@[simp] theorem eAnd_ev (f g) : eAnd f g ρ S = (f ρ S).bind fun d S1 => (toB d S1).bind fun c S1 => if c = true then g ρ S1 else .ok (.bl false) S1 := rfl
@[simp] theorem eOr_ev (f g) : eOr f g ρ S = (f ρ S).bind fun d S1 => (toB d S1).bind fun c S1 => if c = true then .ok (.bl true) S1 else g ρ S1 := rfl
@[simp] theorem eNot_ev (f) : eNot f ρ S = (f ρ S).bind fun d S1 => (toB d S1).bind fun c S1 => .ok (.bl (!c)) S1 := rfl
@[simp] theorem eVar_ev (i) : eVar i ρ S = match ρ[i]? with | some (some d) => .ok d S | _ => .er := rfl
@[simp] theorem eCh_ev (g g' f h k) : eCh g g' f h k ρ S = (f ρ S).bind fun x S1 => (h ρ S1).bind fun y S2 => (R.of (g x y S2)).bind fun z S3 => (toB z S3).bind fun c S4 => if c = true then (k ρ S4).bind fun w S5 => R.of (g' y w S5) else .ok (.bl false) S4 := rfl
@[simp] theorem sPar2_ev (i j f) : sPar2 i j f ρ S = (f ρ S).out ρ fun ds S => match ds with | [a, b] => .nx ((ρ.set i (some a)).set j (some b)) S | _ => .er := rfl
@[simp] theorem eTup_ev (f) : eTup f ρ S = (f ρ S).bind fun ds S1 => if ds.length ≤ sizeLine then .ok (.tup ds) S1 else .er := rfl
@[simp] theorem eLst_ev (f) : eLst f ρ S = (f ρ S).bind fun ds S1 => if ds.length ≤ sizeLine then .ok (.loc S1.length) (S1 ++ [.lst ds]) else .er := rfl
end
end M1

end

section
set_option maxRecDepth 100000
set_option maxHeartbeats 2000000
/-! S1b: == on ground values -/
namespace M1
open PySem L2
mutual
def gD : D → Bool
  | .non | .bl _ | .int _ => true
  | .str x => PyData.strOk x
  | .tup ds => gDs ds
  | _ => false
def gDs : List D → Bool
  | [] => true
  | d :: ds => gD d && gDs ds
end
mutual
def pd : D → PyData
  | .bl b => .bool b
  | .int i => .int i
  | .str x => .str x
  | .tup ds => .tuple (pds ds)
  | _ => .none
def pds : List D → List PyData
  | [] => []
  | d :: ds => pd d :: pds ds
end
mutual
def dpD : D → Nat
  | .tup ds => dpDs ds + 1
  | _ => 0
def dpDs : List D → Nat
  | [] => 0
  | d :: ds => max (dpD d) (dpDs ds)
end
mutual
theorem toPy_gD (S : Store) : ∀ (d : D) (f : Nat), gD d = true → dpD d ≤ f → toPy S f d = some (pd d)
  | .non, f, _, _ => by cases f <;> simp [toPy, pd]
  | .bl _, f, _, _ => by cases f <;> simp [toPy, pd]
  | .int _, f, _, _ => by cases f <;> simp [toPy, pd]
  | .str _, f, _, _ => by cases f <;> simp [toPy, pd]
  | .tup ds, f, h, hf => by
    simp only [gD] at h
    simp only [dpD] at hf
    cases f with
    | zero => omega
    | succ f =>
      simp only [toPy, pd]
      rw [toPy_gDs S ds f h (by omega)]
      rfl
  | .byt _, f, h, _ => by simp [gD] at h
  | .ty _, f, h, _ => by simp [gD] at h
  | .gl _, f, h, _ => by simp [gD] at h
  | .loc _, f, h, _ => by simp [gD] at h
theorem toPy_gDs (S : Store) : ∀ (ds : List D) (f : Nat), gDs ds = true → dpDs ds ≤ f → ds.mapM (toPy S f) = some (pds ds)
  | [], f, _, _ => by simp [pds]
  | d :: ds, f, h, hf => by
    simp only [gDs, Bool.and_eq_true] at h
    simp only [dpDs] at hf
    rw [List.mapM_cons, toPy_gD S d f h.1 (by omega), toPy_gDs S ds f h.2 (by omega)]
    rfl
end
mutual
theorem lay_gD : ∀ d : D, gD d = true → PyData.canLay0 (pd d) = true
  | .non, _ => by simp [pd, PyData.canLay0]
  | .bl _, _ => by simp [pd, PyData.canLay0]
  | .int _, _ => by simp [pd, PyData.canLay0]
  | .str _, h => by simpa [pd, PyData.canLay0, gD] using h
  | .tup ds, h => by simp only [gD] at h; simp only [pd, PyData.canLay0]; exact lay_gDs ds h
  | .byt _, h => by simp [gD] at h
  | .ty _, h => by simp [gD] at h
  | .gl _, h => by simp [gD] at h
  | .loc _, h => by simp [gD] at h
theorem lay_gDs : ∀ ds : List D, gDs ds = true → PyData.canLayAll0 (pds ds) = true
  | [], _ => by simp [pds, PyData.canLayAll0]
  | d :: ds, h => by
    simp only [gDs, Bool.and_eq_true] at h
    simp only [pds, PyData.canLayAll0, Bool.and_eq_true]
    exact ⟨lay_gD d h.1, lay_gDs ds h.2⟩
end
mutual
theorem dep_gD : ∀ d : D, PyData.depth (pd d) = dpD d
  | .non => by simp [pd, PyData.depth, dpD]
  | .bl _ => by simp [pd, PyData.depth, dpD]
  | .int _ => by simp [pd, PyData.depth, dpD]
  | .str _ => by simp [pd, PyData.depth, dpD]
  | .tup ds => by simp only [pd, PyData.depth, dpD]; rw [dep_gDs ds]
  | .byt _ => by simp [pd, PyData.depth, dpD]
  | .ty _ => by simp [pd, PyData.depth, dpD]
  | .gl _ => by simp [pd, PyData.depth, dpD]
  | .loc _ => by simp [pd, PyData.depth, dpD]
theorem dep_gDs : ∀ ds : List D, PyData.depthAll (pds ds) = dpDs ds
  | [] => by simp [pds, PyData.depthAll, dpDs]
  | d :: ds => by simp only [pds, PyData.depthAll, dpDs]; rw [dep_gD d, dep_gDs ds]
end
mutual
theorem eqv_refl : ∀ d : D, gD d = true → PyData.eqv (pd d) (pd d) = true
  | .non, _ => by simp [pd, PyData.eqv]
  | .bl _, _ => by simp [pd, PyData.eqv]
  | .int _, _ => by simp [pd, PyData.eqv]
  | .str _, _ => by simp [pd, PyData.eqv]
  | .tup ds, h => by simp only [gD] at h; simp only [pd, PyData.eqv]; exact eqvs_refl ds h
  | .byt _, h => by simp [gD] at h
  | .ty _, h => by simp [gD] at h
  | .gl _, h => by simp [gD] at h
  | .loc _, h => by simp [gD] at h
theorem eqvs_refl : ∀ ds : List D, gDs ds = true → PyData.eqvAll (pds ds) (pds ds) = true
  | [], _ => by simp [pds, PyData.eqvAll]
  | d :: ds, h => by
    simp only [gDs, Bool.and_eq_true] at h
    simp only [pds, PyData.eqvAll, Bool.and_eq_true]
    exact ⟨eqv_refl d h.1, eqvs_refl ds h.2⟩
end
theorem shaped_gD {d : D} (h : gD d = true) (hd : dpD d ≤ 60) : SeqAt.shaped (pd d) = true := by
  unfold SeqAt.shaped
  rw [lay_gD d h, dep_gD d]
  simp; omega
section
variable {S : Store}
theorem pyEq_gD {x y : D} (hx : gD x = true) (hy : gD y = true) (dx : dpD x ≤ 60) (dy : dpD y ≤ 60) : pyEq S x y = some (PyData.eqv (pd x) (pd y)) := by
  unfold pyEq
  rw [toPy_gD S x 60 hx dx, toPy_gD S y 60 hy dy]
  simp [shaped_gD hx dx, shaped_gD hy dy]
theorem opEq_self {x : D} (hx : gD x = true) (dx : dpD x ≤ 60) : opEq x x S = some (.bl true, S) := by
  unfold opEq; rw [pyEq_gD hx hx dx dx, eqv_refl x hx]; rfl
theorem opNe_self {x : D} (hx : gD x = true) (dx : dpD x ≤ 60) : opNe x x S = some (.bl false, S) := by
  unfold opNe; rw [pyEq_gD hx hx dx dx, eqv_refl x hx]; rfl
@[simp] theorem opEq_int (i j : Int) : opEq (.int i) (.int j) S = some (.bl (decide (i = j)), S) := by
  unfold opEq; rw [pyEq_gD rfl rfl (by simp [dpD]) (by simp [dpD])]
  simp only [pd, PyData.eqv, Option.map_some, Option.some.injEq, Prod.mk.injEq, D.bl.injEq, and_true]
  by_cases h : i = j <;> simp [h]
@[simp] theorem opNe_int (i j : Int) : opNe (.int i) (.int j) S = some (.bl (!decide (i = j)), S) := by
  unfold opNe; rw [pyEq_gD rfl rfl (by simp [dpD]) (by simp [dpD])]
  simp only [pd, PyData.eqv, Option.map_some, Option.some.injEq, Prod.mk.injEq, D.bl.injEq, and_true]
  by_cases h : i = j <;> simp [h]
/-- two lists -/
theorem pyEq_lst {a b : Nat} {xs ys : List D} (ha : lstOf S a = some xs) (hb : lstOf S b = some ys) (gx : gDs xs = true) (gy : gDs ys = true) (dx : dpDs xs ≤ 59) (dy : dpDs ys ≤ 59) : pyEq S (.loc a) (.loc b) = some (PyData.eqvAll (pds xs) (pds ys)) := by
  unfold pyEq
  have e1 : toPy S 60 (.loc a) = some (.list (pds xs)) := by
    rw [show (60 : Nat) = 59 + 1 from rfl]
    simp only [toPy, ha, Option.bind_some]
    rw [toPy_gDs S xs 59 gx dx]; rfl
  have e2 : toPy S 60 (.loc b) = some (.list (pds ys)) := by
    rw [show (60 : Nat) = 59 + 1 from rfl]
    simp only [toPy, hb, Option.bind_some]
    rw [toPy_gDs S ys 59 gy dy]; rfl
  have s1 : ∀ zs : List D, gDs zs = true → dpDs zs ≤ 59 → SeqAt.shaped (.list (pds zs)) = true := fun zs g d => by
    unfold SeqAt.shaped
    simp only [PyData.canLay0, PyData.depth, dep_gDs, lay_gDs zs g]
    simp; omega
  rw [e1, e2]
  simp [s1 xs gx dx, s1 ys gy dy, PyData.eqv]
theorem gDs_ints (ns : List Int) : gDs (ns.map .int) = true := by induction ns with | nil => rfl | cons n ns ih => simp [gDs, gD, ih]
theorem dpDs_ints (ns : List Int) : dpDs (ns.map .int) = 0 := by induction ns with | nil => rfl | cons n ns ih => simp [dpDs, dpD, ih]
end
end M1

end

section
set_option maxRecDepth 100000
set_option maxHeartbeats 2000000
/-! S3: comprehensions and loops, their plain laws -/
namespace M1
open PySem L2
theorem lstW_at {S X : Store} {acc : List D} : lstW (S ++ .lst acc :: X) S.length = some acc := by
  unfold lstW
  rw [List.getElem?_append_right (Nat.le_refl _)]; simp
theorem set_at {S X : Store} {a b : SO} : (S ++ a :: X).set S.length b = S ++ b :: X := by
  rw [List.set_append_right _ _ (Nat.le_refl _)]; simp
/-- a comprehension whose element only adds to the store -/
theorem compN_ext {src : Src} {g : Gm} {e : Ex} {ρ0 : Env} {S : Store} {ds : List D} {f : D → D} (hz : ds.length ≤ sizeLine) (hit : ∀ i X, src.item i (S ++ X) = some ds[i]?)
    (hf : ∀ d ∈ ds, ∀ X, ∃ ρ T, g d (S ++ X) ρ0 = some ρ ∧ e ρ (S ++ X) = .ok (f d) (S ++ X ++ T)) :
    ∀ (k i : Nat) (X : Store), i ≤ ds.length → ds.length + 1 ≤ k + i → ∃ T, compN src g tYesM e ρ0 S.length k i (S ++ .lst ((ds.take i).map f) :: X) = .ok () (S ++ .lst (ds.map f) :: T)
  | 0, i, X, h1, h2 => by omega
  | k + 1, i, X, h1, h2 => by
    unfold compN
    rw [hit i]
    by_cases hi : i < ds.length
    · have e1 : ds[i]? = some ds[i] := List.getElem?_eq_getElem hi
      obtain ⟨ρ, T, h3, h4⟩ := hf ds[i] (List.getElem_mem hi) (.lst ((ds.take i).map f) :: X)
      obtain ⟨T2, ih⟩ := compN_ext (src := src) (g := g) (e := e) (ρ0 := ρ0) (f := f) hz hit hf k (i + 1) (X ++ T) (by omega) (by omega)
      refine ⟨T2, ?_⟩
      rw [e1]
      simp only [h3, h4, tYesM, bind_ok, if_true, List.append_assoc, List.cons_append]
      rw [lstW_at]
      simp only [List.length_map, List.length_take]
      rw [if_pos (by omega), set_at]
      have e2 : (ds.take i).map f ++ [f ds[i]] = (ds.take (i + 1)).map f := by
        simp only [List.take_add_one, e1, Option.toList_some, List.map_append, List.map_cons, List.map_nil]
      rw [e2]
      exact ih
    · have e1 : ds[i]? = none := List.getElem?_eq_none (by omega)
      rw [e1]
      refine ⟨X, ?_⟩
      rw [List.take_of_length_le (by omega)]
theorem eLc_ext {n : Nat} {vs : List Nat} {fi : Ix} {g : Gm} {e : Ex} {ρ : Env} {S0 S : Store} {src : Src} {ds : List D} {f : D → D} (hn : ρ.length ≤ n) (hi : fi ρ S0 = .ok src S) (hb : ds.length ≤ src.bound) (hz : ds.length ≤ sizeLine) (hit : ∀ i X, src.item i (S ++ X) = some ds[i]?)
    (hf : ∀ d ∈ ds, ∀ X, ∃ ρ1 T, g d (S ++ X) (wipeE ρ vs) = some ρ1 ∧ e ρ1 (S ++ X) = .ok (f d) (S ++ X ++ T)) : ∃ T, eLc n vs fi g tYesM e ρ S0 = .ok (.loc S.length) (S ++ .lst (ds.map f) :: T) := by
  unfold eLc
  rw [if_pos hn, hi]
  simp only [bind_ok]
  obtain ⟨T, h⟩ := compN_ext (src := src) (g := g) (e := e) (ρ0 := wipeE ρ vs) (f := f) hz hit hf (src.bound + 1) 0 [] (by omega) (by omega)
  refine ⟨T, ?_⟩
  simp only [List.take_zero, List.map_nil] at h
  rw [h]
  rfl
@[simp] theorem wipeE_nil (ρ : Env) : wipeE ρ [] = ρ := rfl
@[simp] theorem wipeE_cons (ρ : Env) (v vs) : wipeE ρ (v :: vs) = (wipeE ρ vs).set v none := rfl
@[simp] theorem gN_ev (i d S ρ) : gN i d S ρ = some (ρ.set i (some d)) := rfl
@[simp] theorem iAny_ev (f : Ex) (ρ S) : iAny f ρ S = (f ρ S).bind fun d S => match d with
  | .tup ds => .ok (seqSrc ds) S
  | .loc n => match lstOf S n with
    | some ds => .ok (lstSrc n ds.length) S
    | none => .er
  | .str z => .ok (sgnSrc z) S
  | _ => .er := rfl
@[simp] theorem seqSrc_item (ds i S) : (seqSrc ds).item i S = some ds[i]? := rfl
@[simp] theorem seqSrc_bound (ds) : (seqSrc ds).bound = ds.length := rfl
end M1

end

section
set_option maxRecDepth 100000
set_option maxHeartbeats 2000000
/-! P1: more evaluation lemmas: operators, subscripts, lists, loops -/

namespace M1
open PySem L2
section
variable {ρ : Env} {S S1 T : Store} {α β γ : Type}
/-! tests, slices, fields, calls -/
@[simp] theorem tTru_ev (f) : tTru f ρ S = (f ρ S).bind fun d S1 => match truD S1 d with | some b => .ok b S1 | none => .er := rfl
@[simp] theorem truD_bl (b) : truD S (.bl b) = some b := rfl
@[simp] theorem pNo_ev : pNo ρ S = .ok none S := rfl
@[simp] theorem pAt_ev (f) : pAt f ρ S = (f ρ S).bind fun d S1 => match d with | .int i => .ok (some i) S1 | _ => .er := rfl
@[simp] theorem eSl_ev (f l h) : eSl f l h ρ S = (f ρ S).bind fun x S1 => (l ρ S1).bind fun lo S2 => (h ρ S2).bind fun hi S3 => R.of (opSl x lo hi S3) := rfl
@[simp] theorem eFld_ev (cs f nm) : eFld cs f nm ρ S = (f ρ S).bind fun d S1 => match insOf cs S1 d with | some (_, fs) => (match fs.lookup nm with | some v => .ok v S1 | none => .er) | none => .er := rfl
@[simp] theorem eMb_ev (t g fo fa) : eMb t g fo fa ρ S = (fo ρ S).bind fun o S1 => if t S1 o = true then (fa ρ S1).bind fun ds S2 => R.of (g o ds S2) else .er := rfl
@[simp] theorem eM_ev (C mm F dd fo fa) : eM C mm F dd fo fa ρ S = (fo ρ S).bind fun o S1 => if metOf C mm S1 o = true then (fa ρ S1).bind fun ds S2 => F (o :: (ds ++ dd)) S2 else .er := rfl
@[simp] theorem eMk_ev (C F dd fa) : eMk C F dd fa ρ S = (fa ρ S).bind fun ds S1 => (F (.loc S1.length :: (ds ++ dd)) (S1 ++ [.ins C []])).bind fun r S2 => match r with | .non => .ok (.loc S1.length) S2 | _ => .er := rfl
@[simp] theorem eF0_ev (F dd) : eF0 F dd ρ S = noX (F dd S) := rfl
@[simp] theorem noX_ok (d) : noX (.ok d S) = .ok d S := rfl
@[simp] theorem eNeg_ev (f) : eNeg f ρ S = (f ρ S).bind fun d S1 => match d with | .int i => .ok (.int (-i)) S1 | _ => .er := rfl
@[simp] theorem eHex_ev (fo) : eHex fo ρ S = (fo ρ S).bind fun o S => match o with | .byt b => if b.size ≤ 8388608 then .ok (.str (hexS b)) S else .er | _ => .er := rfl
@[simp] theorem sRaise0_ev (C) : sRaise0 C ρ S = .ex (.ref C) none ρ S := rfl
@[simp] theorem sRaise1_ev (C f fa) : sRaise1 C f fa ρ S = (fa ρ S).out ρ fun ds S => match ds with | [d] => .ex (.ref C) (some S.length) ρ (S ++ [.xd [(f, d)]]) | _ => .er := rfl
@[simp] theorem sFor_ev (f g b) : sFor f g b ρ S = (f ρ S).out ρ fun src S => forN src g b (src.bound + 1) 0 ρ S := rfl
@[simp] theorem sAsgX_ev (f g) : sAsgX f g ρ S = (f ρ S).out ρ fun d S => (g d ρ S).tgt := rfl
@[simp] theorem tgt_nx : (Out.nx ρ S).tgt = .nx ρ S := rfl
@[simp] theorem xSub_ev (fo fi g d) : xSub fo fi g d ρ S = (fo ρ S).out ρ fun o S1 => (fi ρ S1).out ρ fun i S2 => match g o i d S2 with | some S3 => .nx ρ S3 | none => .er := rfl
@[simp] theorem sFld_ev (cs fo nm fv) : sFld cs fo nm fv ρ S = (fv ρ S).out ρ fun v S => (fo ρ S).out ρ fun o S2 => match o, insOf cs S2 o with
  | .loc n, some (C, fs) => if fs.length < 1000 then .nx ρ (S2.set n (.ins C (putD nm v fs))) else .er
  | _, _ => .er := rfl
@[simp] theorem sFldAugM_ev (cs fo nm fe g) : sFldAugM cs fo nm fe g ρ S = (fo ρ S).out ρ fun o S1 => match o, insOf cs S1 o with
  | .loc n, some (C, fs) => match fs.lookup nm with
    | some v => (fe ρ S1).out ρ fun y S2 => match g v y S2 with
      | some (z, S3) => match insOf [C] S3 o with
        | some (_, fs') => if fs'.length < 1000 then .nx ρ (S3.set n (.ins C (putD nm z fs'))) else .er
        | none => .er
      | none => .er
    | none => .er
  | _, _ => .er := rfl
@[simp] theorem gT_ev (n g ds) : gT n g (.tup ds) S ρ = if ds.length = n then g ds S ρ else none := rfl
@[simp] theorem gsNil_ev : gsNil [] S ρ = some ρ := rfl
@[simp] theorem gsCons_ev (g h d r) : gsCons g h (d :: r) S ρ = (g d S ρ).bind fun ρ' => h r S ρ' := rfl
@[simp] theorem sAsg_ev2 (f g) : sAsg f g ρ S = (f ρ S).out ρ fun d S => match g d S ρ with | some ρ' => .nx ρ' S | none => .er := rfl
@[simp] theorem sTry_ev (b ans su) : sTry b ans su ρ S = match b ρ S with
  | .ex c d ρ' S' => match ans c with
    | some true => match su ρ' S' with
      | .ex _ _ _ _ => .er
      | o => o
    | some false => .ex c d ρ' S'
    | none => .er
  | o => o := rfl
theorem gA_loc {n g l ds} (h : lstOf S l = some ds) : gA n g (.loc l) S ρ = if ds.length = n then g ds S ρ else none := by simp [gA, gL, h]
@[simp] theorem gA_tup (n g ds) : gA n g (.tup ds) S ρ = if ds.length = n then g ds S ρ else none := rfl
theorem whileN_succ (t b n) : whileN t b (n + 1) ρ S = (t ρ S).out ρ fun c S1 => if c = true then match b ρ S1 with
      | .nx ρ' S' => whileN t b n ρ' S'
      | .ct ρ' S' => whileN t b n ρ' S'
      | .bk ρ' S' => .nx ρ' S'
      | o => o
    else .nx ρ S1 := rfl
theorem gL_ev {n g l ds} (h : lstOf S l = some ds) : gL n g (.loc l) S ρ = if ds.length = n then g ds S ρ else none := by simp [gL, h]
/-! the store -/
theorem get_of_lstOf {n : Nat} {xs : List D} (h : lstOf S n = some xs) : n < S.length := by
  unfold lstOf at h
  by_cases hl : n < S.length
  · exact hl
  · rw [List.getElem?_eq_none (by omega)] at h; cases h
theorem lstOf_app {n : Nat} {xs : List D} (h : lstOf S n = some xs) : lstOf (S ++ T) n = some xs := by
  have hn := get_of_lstOf h
  unfold lstOf at h ⊢
  rw [List.getElem?_append_left hn]; exact h
theorem lstW_of {n : Nat} {xs : List D} (h : S[n]? = some (.lst xs)) : lstW S n = some xs := by simp [lstW, h]
theorem lstOf_of {n : Nat} {xs : List D} (h : S[n]? = some (.lst xs)) : lstOf S n = some xs := by simp [lstOf, h]
@[simp] theorem get_app0 (o : SO) : (S ++ o :: T)[S.length]? = some o := by simp
@[simp] theorem lstOf_pk (k : Nat) : lstOf (S ++ T) (S.length + k) = lstOf T k := by
  unfold lstOf
  rw [List.getElem?_append_right (by omega)]; simp
@[simp] theorem lstOf_pk0 : lstOf (S ++ T) S.length = lstOf T 0 := lstOf_pk 0
@[simp] theorem lstOf_c0 (xs) : lstOf (.lst xs :: T) 0 = some xs := rfl
@[simp] theorem lstOf_cs (o : SO) (k : Nat) : lstOf (o :: T) (k + 1) = lstOf T k := by simp [lstOf]
@[simp] theorem lstW_pk (k : Nat) : lstW (S ++ T) (S.length + k) = lstW T k := by
  unfold lstW
  rw [List.getElem?_append_right (by omega)]; simp
@[simp] theorem lstW_pk0 : lstW (S ++ T) S.length = lstW T 0 := lstW_pk 0
@[simp] theorem lstW_c0 (xs) : lstW (.lst xs :: T) 0 = some xs := rfl
@[simp] theorem lstW_cs (o : SO) (k : Nat) : lstW (o :: T) (k + 1) = lstW T k := by simp [lstW]
@[simp] theorem set_pk (k : Nat) (x : SO) : (S ++ T).set (S.length + k) x = S ++ T.set k x := by
  rw [List.set_append_right _ _ (by omega)]; simp
@[simp] theorem set_pk0 (x : SO) : (S ++ T).set S.length x = S ++ T.set 0 x := set_pk 0 x
theorem lstW_app {n : Nat} {xs : List D} (h : lstW S n = some xs) : lstW (S ++ T) n = some xs := by
  have hn : n < S.length := by
    by_cases hl : n < S.length
    · exact hl
    · unfold lstW at h; rw [List.getElem?_eq_none (by omega)] at h; cases h
  unfold lstW at h ⊢
  rw [List.getElem?_append_left hn]; exact h
theorem lstOf_W {n : Nat} {xs : List D} (h : lstW S n = some xs) : lstOf S n = some xs := by
  unfold lstW at h
  unfold lstOf
  split at h
  · rename_i ys hx; rw [hx]; exact h
  · cases h
theorem lt_of_lstW {n : Nat} {xs : List D} (h : lstW S n = some xs) : n < S.length := get_of_lstOf (lstOf_W h)
/-! operators -/
theorem opMulA_rep {l : Nat} {a : List D} {k : Int} (h : lstW S l = some a) (h1 : 0 ≤ k) (h2 : a.length * k.toNat ≤ 16777216) (h3 : k < 9223372036854775808) : opMulA (.loc l) (.int k) S = some (.loc S.length, S ++ [.lst (List.replicate k.toNat a).flatten]) := by
  have hb : -(2 ^ 63) ≤ k ∧ k < 2 ^ 63 ∧ a.length * k.toNat ≤ sizeLine := by rw [sizeLine_eq]; omega
  show (match opMul (.loc l) (.int k) S with | some r => some r | none => opRepT (.loc l) (.int k) S) = _
  unfold opMul
  simp only [h, Option.bind_some]
  rw [if_pos hb]
@[simp] theorem opAdd_int (i j : Int) : opAdd (.int i) (.int j) S = some (.int (i + j), S) := rfl
@[simp] theorem opSub_int (i j : Int) : opSub (.int i) (.int j) S = some (.int (i - j), S) := rfl
@[simp] theorem opMulA_int (i j : Int) (h : small64 i = true ∨ small64 j = true) : opMulA (.int i) (.int j) S = some (.int (i * j), S) := by
  unfold opMulA orO opMul
  rcases h with h | h <;> simp [h]
theorem small_of {i : Int} (h1 : -18446744073709551616 < i) (h2 : i < 18446744073709551616) : small64 i = true := by
  unfold small64; simp; omega
theorem opMulA_l {i j : Int} (h1 : -18446744073709551616 < i) (h2 : i < 18446744073709551616) : opMulA (.int i) (.int j) S = some (.int (i * j), S) := opMulA_int _ _ (.inl (small_of h1 h2))
theorem opMulA_r {i j : Int} (h1 : -18446744073709551616 < j) (h2 : j < 18446744073709551616) : opMulA (.int i) (.int j) S = some (.int (i * j), S) := opMulA_int _ _ (.inr (small_of h1 h2))
@[simp] theorem opMod_int (i j : Int) (h : 0 < j) : opMod (.int i) (.int j) S = some (.int (i % j), S) := by unfold opMod; simp [h]
@[simp] theorem opFdiv_int (i j : Int) (h : 0 < j) (h2 : j < 1073741824) : opFdiv (.int i) (.int j) S = some (.int (i / j), S) := by unfold opFdiv; simp [h, h2]
@[simp] theorem opPow_1018 : opPow (.int 10) (.int 18) S = some (.int 1000000000000000000, S) := by
  show (if (0:Int) ≤ 18 ∧ (18:Int) ≤ 1000000 ∧ (10:Int).natAbs < 2 ^ 64 then some (D.int (10 ^ (18:Int).toNat), S) else none) = _
  rw [if_pos (by decide)]; rfl
@[simp] theorem opLe_int (i j : Int) : opLe (.int i) (.int j) S = some (.bl (decide (i ≤ j)), S) := rfl
@[simp] theorem opLt_int (i j : Int) : opLt (.int i) (.int j) S = some (.bl (decide (i < j)), S) := rfl
@[simp] theorem opGe_int (i j : Int) : opGe (.int i) (.int j) S = some (.bl (decide (j ≤ i)), S) := rfl
@[simp] theorem opGt_int (i j : Int) : opGt (.int i) (.int j) S = some (.bl (decide (j < i)), S) := rfl
@[simp] theorem opIAdd_int (i j : Int) : opIAdd (.int i) (.int j) S = some (.int (i + j), S) := rfl
@[simp] theorem opISub_int (i j : Int) : opISub (.int i) (.int j) S = some (.int (i - j), S) := rfl
@[simp] theorem cInt_int (i : Int) : cInt [.int i] S = some (.int i, S) := rfl
@[simp] theorem cInt_bl (b : Bool) : cInt [.bl b] S = some (.int (if b then 1 else 0), S) := rfl
@[simp] theorem cLen_tup (ds) : cLen [.tup ds] S = some (.int ds.length, S) := rfl
theorem cLen_loc {n ds} (h : lstOf S n = some ds) : cLen [.loc n] S = some (.int ds.length, S) := by simp [cLen, h]
@[simp] theorem cTup_tup (ds) : cTup [.tup ds] S = some (.tup ds, S) := rfl
theorem cTup_loc {n ds} (h : lstOf S n = some ds) : cTup [.loc n] S = some (.tup ds, S) := by simp [cTup, h]
@[simp] theorem cLst_tup (ds) : cLst [.tup ds] S = some (.loc S.length, S ++ [.lst ds]) := rfl
theorem cLst_loc {n ds} (h : lstOf S n = some ds) : cLst [.loc n] S = some (.loc S.length, S ++ [.lst ds]) := by simp [cLst, h]
@[simp] theorem opAdd_tup (a b) (h : a.length + b.length ≤ 16777216) : opAdd (.tup a) (.tup b) S = some (.tup (a ++ b), S) := by simp [opAdd, sizeLine_eq, h]
theorem opAdd_lst {i j a b} (h1 : lstW S i = some a) (h2 : lstW S j = some b) (h : a.length + b.length ≤ 16777216) : opAdd (.loc i) (.loc j) S = some (.loc S.length, S ++ [.lst (a ++ b)]) := by simp [opAdd, sizeLine_eq, h, h1, h2]
theorem opIxA_tup {ds : List D} {i : Int} {d : D} (h : 0 ≤ i) (e : ds[i.toNat]? = some d) : opIxA (.tup ds) (.int i) S = some (d, S) := by
  have hl : i.toNat < ds.length := by
    by_cases hl : i.toNat < ds.length
    · exact hl
    · rw [List.getElem?_eq_none (by omega)] at e; cases e
  unfold opIxA orO opIx L2.atI L2.ixN
  simp only [h, show i < ds.length by omega, if_true, Option.bind_some, e, Option.map_some]
theorem opIxA_lst {n : Nat} {ds : List D} {i : Int} {d : D} (hS : lstOf S n = some ds) (h : 0 ≤ i) (e : ds[i.toNat]? = some d) : opIxA (.loc n) (.int i) S = some (d, S) := by
  have hl : i.toNat < ds.length := by
    by_cases hl : i.toNat < ds.length
    · exact hl
    · rw [List.getElem?_eq_none (by omega)] at e; cases e
  unfold opIxA orO opIx L2.atI L2.ixN
  simp only [hS, h, show i < ds.length by omega, if_true, Option.bind_some, e, Option.map_some]
theorem opIxA_byt {b : Array UInt8} {i : Int} (hz : b.size ≤ 16777216) (h : 0 ≤ i) (h2 : i < b.size) : opIxA (.byt b) (.int i) S = some (.int ((b.toList.getD i.toNat 0).toNat : Nat), S) := by
  unfold opIxA orO opIx opIxB
  simp [sizeLine_eq, hz, h, h2]
theorem opIx_byt_er {b : Array UInt8} {i : Int} (h : ¬(0 ≤ i ∧ i < b.size)) : opIxA (.byt b) (.int i) S = none := by
  unfold opIxA orO opIx opIxB
  simp; omega
theorem opIxA_str {z : Str} {i : Int} {c : Nat} (hz : z.length ≤ 16777216) (h : 0 ≤ i) (e : z.cps.toList[i.toNat]? = some c) : opIxA (.str z) (.int i) S = some (.str ⟨#[c]⟩, S) := by
  have hl : i.toNat < z.cps.toList.length := by
    by_cases hl : i.toNat < z.cps.toList.length
    · exact hl
    · rw [List.getElem?_eq_none (by omega)] at e; cases e
  unfold opIxA orO opIx L2.atI L2.ixN
  simp [sizeLine_eq, hz, h]
  have : i < (z.cps.size : Int) := by simp at hl; omega
  simp at e
  simp [this, e]
@[simp] theorem opSl_tup (ds lo hi) : opSl (.tup ds) lo hi S = some (.tup (cutD ds lo hi), S) := rfl
theorem opSl_lst {n ds} (h : lstOf S n = some ds) (lo hi) : opSl (.loc n) lo hi S = some (.loc S.length, S ++ [.lst (cutD ds lo hi)]) := by simp [opSl, h]
theorem cut_drop {ds : List D} {i : Int} (h : 0 ≤ i) : cutD ds (some i) none = ds.drop i.toNat := by
  unfold cutD HT.sIx
  simp only [show ¬ i < 0 by omega, if_false]
  by_cases hl : i.toNat ≤ ds.length
  · rw [Nat.min_eq_left hl, List.take_of_length_le (by simp)]
  · rw [Nat.min_eq_right (by omega), List.drop_eq_nil_of_le (Nat.le_refl _), List.drop_eq_nil_of_le (by omega)]; simp
theorem cut_take {ds : List D} {i : Int} (h : 0 ≤ i) : cutD ds none (some i) = ds.take i.toNat := by
  unfold cutD HT.sIx
  simp only [show ¬ i < 0 by omega, if_false, List.drop_zero, Nat.sub_zero]
  by_cases hl : i.toNat ≤ ds.length
  · rw [Nat.min_eq_left hl]
  · rw [Nat.min_eq_right (by omega), List.take_of_length_le (Nat.le_refl _), List.take_of_length_le (by omega)]
/-! lists' methods -/
theorem isLst_of {n ds} (h : lstOf S n = some ds) : isLst S (.loc n) = true := by simp [isLst, h]
theorem gApp_ev {n l y} (h : lstW S n = some l) (hz : l.length < 16777216) : gApp (.loc n) [y] S = some (.non, S.set n (.lst (l ++ [y]))) := by simp [gApp, h, sizeLine_eq, hz]
theorem gExt_ev {n k l l2} (h : lstW S n = some l) (h2 : lstW S k = some l2) (hz : l.length + l2.length ≤ 16777216) : gExt (.loc n) [.loc k] S = some (.non, S.set n (.lst (l ++ l2))) := by simp [gExt, h, h2, sizeLine_eq, hz]
theorem strs_map (l : List Str) : strsOf (l.map .str) = some l := by induction l with | nil => rfl | cons b l ih => simp [strsOf, ih]
theorem ints_map (l : List Int) : intsOf (l.map .int) = some l := by induction l with | nil => rfl | cons b l ih => simp [intsOf, ih]
theorem bls_map (l : List Bool) : blsOf (l.map .bl) = some l := by induction l with | nil => rfl | cons b l ih => simp [blsOf, ih]
@[simp] theorem isStr_str (z) : isStr S (.str z) = true := rfl
@[simp] theorem isLst_pk (k : Nat) : isLst (S ++ T) (.loc (S.length + k)) = isLst T (.loc k) := by simp [isLst]
@[simp] theorem isLst_pk0 : isLst (S ++ T) (.loc S.length) = isLst T (.loc 0) := by simp [isLst]
@[simp] theorem isLst_c0 (xs) : isLst (.lst xs :: T) (.loc 0) = true := rfl
@[simp] theorem rngD_item (lo n i) : (rngD lo n).item i S = some (if i < n then some (.int (lo + i)) else none) := rfl
@[simp] theorem rngD_bound (lo n) : (rngD lo n).bound = n := rfl
theorem iRng1_ev {f : Ax} {j : Int} (e : f ρ S = .ok [.int j] S1) (h : 0 ≤ j) (h2 : j < 4611686018427387904) : iRng1 f ρ S = .ok (rngD 0 j.toNat) S1 := by
  unfold iRng1 bnd
  rw [e]
  simp only [bind_ok]
  rw [if_pos (by omega)]
@[simp] theorem iRng1_ev' (f : Ax) : iRng1 f ρ S = (f ρ S).bind fun ds S => match ds with
  | [.int j] => if -4611686018427387904 ≤ j ∧ j < 4611686018427387904 then .ok (rngD 0 j.toNat) S else .er
  | _ => .er := rfl
/-- a loop by its invariant -/
theorem forN_inv {src : Src} {g : Gm} {b : Sm} (I : Nat → Env → Store → Prop) (n : Nat)
    (step : ∀ i ρ S, i < n → I i ρ S → ∃ d ρ1 ρ2 S2, src.item i S = some (some d) ∧ g d S ρ = some ρ1 ∧ b ρ1 S = .nx ρ2 S2 ∧ I (i + 1) ρ2 S2)
    (stop : ∀ ρ S, I n ρ S → src.item n S = some none) : ∀ (k i : Nat) (ρ : Env) (S : Store), i ≤ n → n + 1 ≤ k + i → I i ρ S → ∃ ρ' S', forN src g b k i ρ S = .nx ρ' S' ∧ I n ρ' S'
  | 0, i, ρ, S, h1, h2, _ => by omega
  | k + 1, i, ρ, S, h1, h2, hI => by
    unfold forN
    by_cases hi : i < n
    · obtain ⟨d, ρ1, ρ2, S2, e1, e2, e3, hI2⟩ := step i ρ S hi hI
      obtain ⟨ρ', S', e4, h4⟩ := forN_inv I n step stop k (i + 1) ρ2 S2 (by omega) (by omega) hI2
      refine ⟨ρ', S', ?_, h4⟩
      simp only [e1, e2, e3]
      exact e4
    · have : i = n := by omega
      subst this
      rw [stop ρ S hI]
      exact ⟨ρ, S, rfl, hI⟩
end

end M1

end

local macro_rules | `(tactic| simp_arith [$a,*]) => `(tactic| simp (disch := first | assumption | omega | (simp; done) | fail) only [PySem.sizeLine_eq, Nat.reduceLT, Int.reduceLT, Int.reduceLE, Int.reduceAdd, Int.reduceSub, Int.reduceMul, Int.reduceEq, Int.reduceToNat, Nat.reduceEqDiff, Int.reduceDiv, Int.reduceMod, Int.reduceNeg, List.length_cons, List.length_nil, Nat.reduceAdd, Nat.reduceSub, Nat.reduceLeDiff, List.map_cons, List.map_nil, List.cons_append, List.nil_append, List.append_nil, List.replicate_zero, List.replicate_succ, if_true, if_false, Bool.false_eq_true, Bool.not_true, Bool.not_false, List.getElem?_cons_zero, List.getElem?_cons_succ, List.set_cons_zero, List.set_cons_succ, M1.eVar_ev, M1.wipeE_nil, M1.wipeE_cons, M1.gN_ev, M1.iAny_ev, M1.seqSrc_bound, M1.seqSrc_item, List.append_assoc, List.length_append, Nat.add_assoc, List.length_map, decide_true, decide_false, Option.bind_some, M1.opEq_int, M1.opNe_int, M1.opFdiv_int, M1.opMod_int, ite_self, reduceIte, reduceCtorEq, eq_self, Bool.true_and, Bool.false_and, Bool.and_true, Bool.and_false, M1.eC_ev, M1.bind_ok, M1.bind_ex, M1.bind_er, M1.out_ok, M1.out_ex, M1.of_some, M1.seq_nx, M1.seq_rt, M1.seq_ex, M1.eOp_ev, M1.aNil_ev, M1.aCons_ev, M1.eCall_ev, M1.eF_ev, M1.sSeq_ev, M1.sRet_ev, M1.sNil_ev, M1.sExpr_ev, M1.sAsg_ev, M1.sIf_ev, M1.eIf_ev, M1.tBl_ev, M1.toB_ev, M1.tNotM_ev, M1.tOrM_ev, M1.tAndM_ev, M1.eAnd_ev, M1.eOr_ev, M1.eNot_ev, M1.eCh_ev, M1.sPar2_ev, M1.eTup_ev, M1.eLst_ev, M1.tTru_ev, M1.truD_bl, M1.pNo_ev, M1.pAt_ev, M1.eSl_ev, M1.eFld_ev, M1.eMb_ev, M1.eM_ev, M1.eMk_ev, M1.eF0_ev, M1.noX_ok, M1.eNeg_ev, M1.eHex_ev, M1.sRaise0_ev, M1.sRaise1_ev, M1.sFor_ev, M1.sAsgX_ev, M1.tgt_nx, M1.xSub_ev, M1.sFld_ev, M1.sFldAugM_ev, M1.gT_ev, M1.gsNil_ev, M1.gsCons_ev, M1.sTry_ev, M1.get_app0, M1.lstOf_pk, M1.lstOf_pk0, M1.lstOf_c0, M1.lstOf_cs, M1.lstW_pk, M1.lstW_pk0, M1.lstW_c0, M1.lstW_cs, M1.set_pk, M1.set_pk0, M1.opAdd_int, M1.opSub_int, M1.opPow_1018, M1.opLe_int, M1.opLt_int, M1.opGe_int, M1.opGt_int, M1.opIAdd_int, M1.opISub_int, M1.cInt_int, M1.cInt_bl, M1.cLen_tup, M1.cTup_tup, M1.cLst_tup, M1.opAdd_tup, M1.opSl_tup, M1.isStr_str, M1.isLst_pk, M1.isLst_pk0, M1.isLst_c0, M1.rngD_item, M1.rngD_bound, M1.iRng1_ev', $a,*])

section
set_option maxRecDepth 100000
set_option maxHeartbeats 4000000
namespace K04
open PySem PySem.Spec PyProof.Rows L2 M1
def top (i : Nat) : Stmt := PySem.Challenge.pw_virtmonitor_k04_whole_encoding.main.body.getD i (.Pass ⟨0, 0, 0, 0⟩)
abbrev st_DecodeError___init__ : Stmt := inCls (top 3) 0
def d_DecodeError___init__ : He.DefD := ⟨("DecodeError", some "__init__"), "__init__", "DecodeError.__init__", defArgs st_DecodeError___init__, defBody st_DecodeError___init__, defScope st_DecodeError___init__, [], []⟩
abbrev st_is_integer : Stmt := top 10
def d_is_integer : He.DefD := ⟨("is_integer", none), "is_integer", "is_integer", defArgs st_is_integer, defBody st_is_integer, defScope st_is_integer, [], []⟩
abbrev st_is_word : Stmt := top 11
def d_is_word : He.DefD := ⟨("is_word", none), "is_word", "is_word", defArgs st_is_word, defBody st_is_word, defScope st_is_word, [], []⟩
abbrev st_is_words : Stmt := top 12
def d_is_words : He.DefD := ⟨("is_words", none), "is_words", "is_words", defArgs st_is_words, defBody st_is_words, defScope st_is_words, [], []⟩
abbrev st_is_state : Stmt := top 13
def d_is_state : He.DefD := ⟨("is_state", none), "is_state", "is_state", defArgs st_is_state, defBody st_is_state, defScope st_is_state, [], []⟩
abbrev st_check_state : Stmt := top 14
def d_check_state : He.DefD := ⟨("check_state", none), "check_state", "check_state", defArgs st_check_state, defBody st_check_state, defScope st_check_state, [], []⟩
abbrev st_encode : Stmt := top 18
def d_encode : He.DefD := ⟨("encode", none), "encode", "encode", defArgs st_encode, defBody st_encode, defScope st_encode, [], []⟩
abbrev st_Decoder___init__ : Stmt := inCls (top 19) 0
def d_Decoder___init__ : He.DefD := ⟨("Decoder", some "__init__"), "__init__", "Decoder.__init__", defArgs st_Decoder___init__, defBody st_Decoder___init__, defScope st_Decoder___init__, [], []⟩
abbrev st_Decoder_read_byte : Stmt := inCls (top 19) 1
def d_Decoder_read_byte : He.DefD := ⟨("Decoder", some "read_byte"), "read_byte", "Decoder.read_byte", defArgs st_Decoder_read_byte, defBody st_Decoder_read_byte, defScope st_Decoder_read_byte, [], []⟩
abbrev st_Decoder_read_word : Stmt := inCls (top 19) 2
def d_Decoder_read_word : He.DefD := ⟨("Decoder", some "read_word"), "read_word", "Decoder.read_word", defArgs st_Decoder_read_word, defBody st_Decoder_read_word, defScope st_Decoder_read_word, [], []⟩
abbrev st_decode : Stmt := top 20
def d_decode : He.DefD := ⟨("decode", none), "decode", "decode", defArgs st_decode, defBody st_decode, defScope st_decode, [], []⟩
abbrev st_law_mix : Stmt := top 22
def d_law_mix : He.DefD := ⟨("_law_mix", none), "_law_mix", "_law_mix", defArgs st_law_mix, defBody st_law_mix, defScope st_law_mix, [], []⟩
abbrev st_law_value : Stmt := top 23
def d_law_value : He.DefD := ⟨("_law_value", none), "_law_value", "_law_value", defArgs st_law_value, defBody st_law_value, defScope st_law_value, [], []⟩
abbrev st_law_moves : Stmt := top 24
def d_law_moves : He.DefD := ⟨("_law_moves", none), "_law_moves", "_law_moves", defArgs st_law_moves, defBody st_law_moves, defScope st_law_moves, [], []⟩
abbrev st_law_custom_instruction : Stmt := top 25
def d_law_custom_instruction : He.DefD := ⟨("_law_custom_instruction", none), "_law_custom_instruction", "_law_custom_instruction", defArgs st_law_custom_instruction, defBody st_law_custom_instruction, defScope st_law_custom_instruction, [], []⟩
abbrev st_law_machine : Stmt := top 26
def d_law_machine : He.DefD := ⟨("_law_machine", none), "_law_machine", "_law_machine", defArgs st_law_machine, defBody st_law_machine, defScope st_law_machine, [], []⟩
abbrev st_law_instruction : Stmt := top 27
def d_law_instruction : He.DefD := ⟨("_law_instruction", none), "_law_instruction", "_law_instruction", defArgs st_law_instruction, defBody st_law_instruction, defScope st_law_instruction, [], []⟩
abbrev st_law_state : Stmt := top 28
def d_law_state : He.DefD := ⟨("_law_state", none), "_law_state", "_law_state", defArgs st_law_state, defBody st_law_state, defScope st_law_state, [], []⟩
abbrev st_law_bytes : Stmt := top 29
def d_law_bytes : He.DefD := ⟨("_law_bytes", none), "_law_bytes", "_law_bytes", defArgs st_law_bytes, defBody st_law_bytes, defScope st_law_bytes, [], []⟩
abbrev st_law_decode : Stmt := top 30
def d_law_decode : He.DefD := ⟨("_law_decode", none), "_law_decode", "_law_decode", defArgs st_law_decode, defBody st_law_decode, defScope st_law_decode, [], []⟩
abbrev st_law_hex : Stmt := top 31
def d_law_hex : He.DefD := ⟨("_law_hex", none), "_law_hex", "_law_hex", defArgs st_law_hex, defBody st_law_hex, defScope st_law_hex, [], []⟩
abbrev st_law_result : Stmt := top 32
def d_law_result : He.DefD := ⟨("_law_result", none), "_law_result", "_law_result", defArgs st_law_result, defBody st_law_result, defScope st_law_result, [], []⟩
abbrev st_law_changed : Stmt := top 33
def d_law_changed : He.DefD := ⟨("_law_changed", none), "_law_changed", "_law_changed", defArgs st_law_changed, defBody st_law_changed, defScope st_law_changed, [], []⟩
abbrev st_law_limits_right : Stmt := top 34
def d_law_limits_right : He.DefD := ⟨("_law_limits_right", none), "_law_limits_right", "_law_limits_right", defArgs st_law_limits_right, defBody st_law_limits_right, defScope st_law_limits_right, [], []⟩
abbrev st_law : Stmt := top 35
def d_law : He.DefD := ⟨("law", none), "law", "law", defArgs st_law, defBody st_law, defScope st_law, [], []⟩
def fn : List He.DefD := [d_DecodeError___init__, d_is_integer, d_is_word, d_is_words, d_is_state, d_check_state, d_encode, d_Decoder___init__, d_Decoder_read_byte, d_Decoder_read_word, d_decode, d_law_mix, d_law_value, d_law_moves, d_law_custom_instruction, d_law_machine, d_law_instruction, d_law_state, d_law_bytes, d_law_decode, d_law_hex, d_law_result, d_law_changed, d_law_limits_right, d_law]
def fa : List He.Fa := [.glo "is_integer", .glo "is_word", .glo "is_words", .glo "is_state", .glo "check_state", .glo "encode", .glo "decode", .glo "_law_mix", .glo "_law_value", .glo "_law_moves", .glo "_law_custom_instruction", .glo "_law_machine", .glo "_law_instruction", .glo "_law_state", .glo "_law_bytes", .glo "_law_decode", .glo "_law_hex", .glo "_law_result", .glo "_law_changed", .glo "_law_limits_right", .glo "law", .glo "VirtError", .glo "InvalidState", .glo "DecodeError", .glo "Decoder", .int "WORD_LIMIT" 10000, .int "MIN_MEMORY" 16, .int "MAX_MEMORY" 4000, .int "SUPERVISOR" 0, .int "USER" 1, .int "BYTE" 256, .str "DIGITS" "0123456789abcdef", .free "ValueError", .free "all", .free "bool", .free "bytes", .free "enumerate", .free "int", .free "isinstance", .free "len", .free "list", .free "range", .free "str", .free "tuple", .exc "InvalidState", .cls "Decoder", .mkr "Decoder", .meth "Decoder" "read_byte", .meth "Decoder" "read_word", .noat "Decoder" "data", .noat "Decoder" "offset", .exm "VirtError" "DecodeError" false, .exm "InvalidState" "DecodeError" false, .exm "DecodeError" "DecodeError" true, .exm "VirtError" "InvalidState" false, .exm "InvalidState" "InvalidState" true, .exm "DecodeError" "InvalidState" false, .noat "DecodeError" "offset"]
def exl (K : PySem.W.Frag) : List Bool := [xfB K (He.ga K "DecodeError"), oexB K (He.ga K "DecodeError"), initB K (He.ga K "DecodeError") "offset", ownB K (He.ga K "VirtError")]
def ex (K : PySem.W.Frag) : Bool := (exl K).all id
theorem exs (K : PySem.W.Frag) (e : ex K = true) (i : Nat) {b : Bool} (h : (exl K)[i]? = some b) : b = true := by
  have := List.all_eq_true.mp e b (List.mem_of_getElem? h)
  exact this
structure Hy (K : PySem.W.Frag) (mg : Str → Option Value) : Prop where
  f_DecodeError___init__ : ∃ fd, FunD K "__init__" "DecodeError.__init__" (defArgs st_DecodeError___init__) (defBody st_DecodeError___init__) (defScope st_DecodeError___init__) [] [] (He.fAd K ("DecodeError", some "__init__")) fd
  f_is_integer : ∃ fd, FunD K "is_integer" "is_integer" (defArgs st_is_integer) (defBody st_is_integer) (defScope st_is_integer) [] [] (He.fAd K ("is_integer", none)) fd
  f_is_word : ∃ fd, FunD K "is_word" "is_word" (defArgs st_is_word) (defBody st_is_word) (defScope st_is_word) [] [] (He.fAd K ("is_word", none)) fd
  f_is_words : ∃ fd, FunD K "is_words" "is_words" (defArgs st_is_words) (defBody st_is_words) (defScope st_is_words) [] [] (He.fAd K ("is_words", none)) fd
  f_is_state : ∃ fd, FunD K "is_state" "is_state" (defArgs st_is_state) (defBody st_is_state) (defScope st_is_state) [] [] (He.fAd K ("is_state", none)) fd
  f_check_state : ∃ fd, FunD K "check_state" "check_state" (defArgs st_check_state) (defBody st_check_state) (defScope st_check_state) [] [] (He.fAd K ("check_state", none)) fd
  f_encode : ∃ fd, FunD K "encode" "encode" (defArgs st_encode) (defBody st_encode) (defScope st_encode) [] [] (He.fAd K ("encode", none)) fd
  f_Decoder___init__ : ∃ fd, FunD K "__init__" "Decoder.__init__" (defArgs st_Decoder___init__) (defBody st_Decoder___init__) (defScope st_Decoder___init__) [] [] (He.fAd K ("Decoder", some "__init__")) fd
  f_Decoder_read_byte : ∃ fd, FunD K "read_byte" "Decoder.read_byte" (defArgs st_Decoder_read_byte) (defBody st_Decoder_read_byte) (defScope st_Decoder_read_byte) [] [] (He.fAd K ("Decoder", some "read_byte")) fd
  f_Decoder_read_word : ∃ fd, FunD K "read_word" "Decoder.read_word" (defArgs st_Decoder_read_word) (defBody st_Decoder_read_word) (defScope st_Decoder_read_word) [] [] (He.fAd K ("Decoder", some "read_word")) fd
  f_decode : ∃ fd, FunD K "decode" "decode" (defArgs st_decode) (defBody st_decode) (defScope st_decode) [] [] (He.fAd K ("decode", none)) fd
  f_law_mix : ∃ fd, FunD K "_law_mix" "_law_mix" (defArgs st_law_mix) (defBody st_law_mix) (defScope st_law_mix) [] [] (He.fAd K ("_law_mix", none)) fd
  f_law_value : ∃ fd, FunD K "_law_value" "_law_value" (defArgs st_law_value) (defBody st_law_value) (defScope st_law_value) [] [] (He.fAd K ("_law_value", none)) fd
  f_law_moves : ∃ fd, FunD K "_law_moves" "_law_moves" (defArgs st_law_moves) (defBody st_law_moves) (defScope st_law_moves) [] [] (He.fAd K ("_law_moves", none)) fd
  f_law_custom_instruction : ∃ fd, FunD K "_law_custom_instruction" "_law_custom_instruction" (defArgs st_law_custom_instruction) (defBody st_law_custom_instruction) (defScope st_law_custom_instruction) [] [] (He.fAd K ("_law_custom_instruction", none)) fd
  f_law_machine : ∃ fd, FunD K "_law_machine" "_law_machine" (defArgs st_law_machine) (defBody st_law_machine) (defScope st_law_machine) [] [] (He.fAd K ("_law_machine", none)) fd
  f_law_instruction : ∃ fd, FunD K "_law_instruction" "_law_instruction" (defArgs st_law_instruction) (defBody st_law_instruction) (defScope st_law_instruction) [] [] (He.fAd K ("_law_instruction", none)) fd
  f_law_state : ∃ fd, FunD K "_law_state" "_law_state" (defArgs st_law_state) (defBody st_law_state) (defScope st_law_state) [] [] (He.fAd K ("_law_state", none)) fd
  f_law_bytes : ∃ fd, FunD K "_law_bytes" "_law_bytes" (defArgs st_law_bytes) (defBody st_law_bytes) (defScope st_law_bytes) [] [] (He.fAd K ("_law_bytes", none)) fd
  f_law_decode : ∃ fd, FunD K "_law_decode" "_law_decode" (defArgs st_law_decode) (defBody st_law_decode) (defScope st_law_decode) [] [] (He.fAd K ("_law_decode", none)) fd
  f_law_hex : ∃ fd, FunD K "_law_hex" "_law_hex" (defArgs st_law_hex) (defBody st_law_hex) (defScope st_law_hex) [] [] (He.fAd K ("_law_hex", none)) fd
  f_law_result : ∃ fd, FunD K "_law_result" "_law_result" (defArgs st_law_result) (defBody st_law_result) (defScope st_law_result) [] [] (He.fAd K ("_law_result", none)) fd
  f_law_changed : ∃ fd, FunD K "_law_changed" "_law_changed" (defArgs st_law_changed) (defBody st_law_changed) (defScope st_law_changed) [] [] (He.fAd K ("_law_changed", none)) fd
  f_law_limits_right : ∃ fd, FunD K "_law_limits_right" "_law_limits_right" (defArgs st_law_limits_right) (defBody st_law_limits_right) (defScope st_law_limits_right) [] [] (He.fAd K ("_law_limits_right", none)) fd
  f_law : ∃ fd, FunD K "law" "law" (defArgs st_law) (defBody st_law) (defScope st_law) [] [] (He.fAd K ("law", none)) fd
  g_is_integer : mg "is_integer" = some (.ref (He.ga K "is_integer"))
  g_is_word : mg "is_word" = some (.ref (He.ga K "is_word"))
  g_is_words : mg "is_words" = some (.ref (He.ga K "is_words"))
  g_is_state : mg "is_state" = some (.ref (He.ga K "is_state"))
  g_check_state : mg "check_state" = some (.ref (He.ga K "check_state"))
  g_encode : mg "encode" = some (.ref (He.ga K "encode"))
  g_decode : mg "decode" = some (.ref (He.ga K "decode"))
  g_law_mix : mg "_law_mix" = some (.ref (He.ga K "_law_mix"))
  g_law_value : mg "_law_value" = some (.ref (He.ga K "_law_value"))
  g_law_moves : mg "_law_moves" = some (.ref (He.ga K "_law_moves"))
  g_law_custom_instruction : mg "_law_custom_instruction" = some (.ref (He.ga K "_law_custom_instruction"))
  g_law_machine : mg "_law_machine" = some (.ref (He.ga K "_law_machine"))
  g_law_instruction : mg "_law_instruction" = some (.ref (He.ga K "_law_instruction"))
  g_law_state : mg "_law_state" = some (.ref (He.ga K "_law_state"))
  g_law_bytes : mg "_law_bytes" = some (.ref (He.ga K "_law_bytes"))
  g_law_decode : mg "_law_decode" = some (.ref (He.ga K "_law_decode"))
  g_law_hex : mg "_law_hex" = some (.ref (He.ga K "_law_hex"))
  g_law_result : mg "_law_result" = some (.ref (He.ga K "_law_result"))
  g_law_changed : mg "_law_changed" = some (.ref (He.ga K "_law_changed"))
  g_law_limits_right : mg "_law_limits_right" = some (.ref (He.ga K "_law_limits_right"))
  g_law : mg "law" = some (.ref (He.ga K "law"))
  g_VirtError : mg "VirtError" = some (.ref (He.ga K "VirtError"))
  g_InvalidState : mg "InvalidState" = some (.ref (He.ga K "InvalidState"))
  g_DecodeError : mg "DecodeError" = some (.ref (He.ga K "DecodeError"))
  g_Decoder : mg "Decoder" = some (.ref (He.ga K "Decoder"))
  g_WORD_LIMIT : ∃ t, mg "WORD_LIMIT" = some (.int 10000 t)
  g_MIN_MEMORY : ∃ t, mg "MIN_MEMORY" = some (.int 16 t)
  g_MAX_MEMORY : ∃ t, mg "MAX_MEMORY" = some (.int 4000 t)
  g_SUPERVISOR : ∃ t, mg "SUPERVISOR" = some (.int 0 t)
  g_USER : ∃ t, mg "USER" = some (.int 1 t)
  g_BYTE : ∃ t, mg "BYTE" = some (.int 256 t)
  g_DIGITS : ∃ t, mg "DIGITS" = some (.str "0123456789abcdef" t)
  g_ValueError : mg "ValueError" = none
  g_all : mg "all" = none
  g_bool : mg "bool" = none
  g_bytes : mg "bytes" = none
  g_enumerate : mg "enumerate" = none
  g_int : mg "int" = none
  g_isinstance : mg "isinstance" = none
  g_len : mg "len" = none
  g_list : mg "list" = none
  g_range : mg "range" = none
  g_str : mg "str" = none
  g_tuple : mg "tuple" = none
  x_InvalidState : RaiseS K mg "InvalidState" (He.ga K "InvalidState")
  c_Decoder : Cls K (He.ga K "Decoder")
  k_Decoder : Mk K (He.ga K "Decoder") (He.ma K (He.ga K "Decoder") "__init__")
  m_Decoder_read_byte : Meth K (He.ga K "Decoder") "read_byte" (He.ma K (He.ga K "Decoder") "read_byte")
  m_Decoder_read_word : Meth K (He.ga K "Decoder") "read_word" (He.ma K (He.ga K "Decoder") "read_word")
  n_Decoder_data : NoAttr K (He.ga K "Decoder") "data"
  n_Decoder_offset : NoAttr K (He.ga K "Decoder") "offset"
  e_VirtError_DecodeError : PySem.W.exmOne K (.ref (He.ga K "VirtError")) (.ref (He.ga K "DecodeError")) = some false
  e_InvalidState_DecodeError : PySem.W.exmOne K (.ref (He.ga K "InvalidState")) (.ref (He.ga K "DecodeError")) = some false
  e_DecodeError_DecodeError : PySem.W.exmOne K (.ref (He.ga K "DecodeError")) (.ref (He.ga K "DecodeError")) = some true
  e_VirtError_InvalidState : PySem.W.exmOne K (.ref (He.ga K "VirtError")) (.ref (He.ga K "InvalidState")) = some false
  e_InvalidState_InvalidState : PySem.W.exmOne K (.ref (He.ga K "InvalidState")) (.ref (He.ga K "InvalidState")) = some true
  e_DecodeError_InvalidState : PySem.W.exmOne K (.ref (He.ga K "DecodeError")) (.ref (He.ga K "InvalidState")) = some false
  xf_DecodeError : XfC K (He.ga K "DecodeError")
  xn_DecodeError_offset : PySem.W.findIn K (.ref (He.ga K "DecodeError")) "offset" = some none
  ox_DecodeError : OexC K (He.ga K "DecodeError")
  oi_DecodeError : initB K (He.ga K "DecodeError") "offset" = true
  ob_DecodeError : OwnInit K (He.ga K "VirtError")
theorem hy_of {K : PySem.W.Frag} {h : Heap} {mg : Str → Option Value} (X : K.In h) (G : h.Ns mainGlobals mg) (c : He.SaysD fa fn K) (e : ex K = true) : Hy K mg where
  f_DecodeError___init__ := c.def_ 0 (d := d_DecodeError___init__) rfl
  f_is_integer := c.def_ 1 (d := d_is_integer) rfl
  f_is_word := c.def_ 2 (d := d_is_word) rfl
  f_is_words := c.def_ 3 (d := d_is_words) rfl
  f_is_state := c.def_ 4 (d := d_is_state) rfl
  f_check_state := c.def_ 5 (d := d_check_state) rfl
  f_encode := c.def_ 6 (d := d_encode) rfl
  f_Decoder___init__ := c.def_ 7 (d := d_Decoder___init__) rfl
  f_Decoder_read_byte := c.def_ 8 (d := d_Decoder_read_byte) rfl
  f_Decoder_read_word := c.def_ 9 (d := d_Decoder_read_word) rfl
  f_decode := c.def_ 10 (d := d_decode) rfl
  f_law_mix := c.def_ 11 (d := d_law_mix) rfl
  f_law_value := c.def_ 12 (d := d_law_value) rfl
  f_law_moves := c.def_ 13 (d := d_law_moves) rfl
  f_law_custom_instruction := c.def_ 14 (d := d_law_custom_instruction) rfl
  f_law_machine := c.def_ 15 (d := d_law_machine) rfl
  f_law_instruction := c.def_ 16 (d := d_law_instruction) rfl
  f_law_state := c.def_ 17 (d := d_law_state) rfl
  f_law_bytes := c.def_ 18 (d := d_law_bytes) rfl
  f_law_decode := c.def_ 19 (d := d_law_decode) rfl
  f_law_hex := c.def_ 20 (d := d_law_hex) rfl
  f_law_result := c.def_ 21 (d := d_law_result) rfl
  f_law_changed := c.def_ 22 (d := d_law_changed) rfl
  f_law_limits_right := c.def_ 23 (d := d_law_limits_right) rfl
  f_law := c.def_ 24 (d := d_law) rfl
  g_is_integer := He.glo_ok X G (c.fact 0 (f := .glo "is_integer") rfl)
  g_is_word := He.glo_ok X G (c.fact 1 (f := .glo "is_word") rfl)
  g_is_words := He.glo_ok X G (c.fact 2 (f := .glo "is_words") rfl)
  g_is_state := He.glo_ok X G (c.fact 3 (f := .glo "is_state") rfl)
  g_check_state := He.glo_ok X G (c.fact 4 (f := .glo "check_state") rfl)
  g_encode := He.glo_ok X G (c.fact 5 (f := .glo "encode") rfl)
  g_decode := He.glo_ok X G (c.fact 6 (f := .glo "decode") rfl)
  g_law_mix := He.glo_ok X G (c.fact 7 (f := .glo "_law_mix") rfl)
  g_law_value := He.glo_ok X G (c.fact 8 (f := .glo "_law_value") rfl)
  g_law_moves := He.glo_ok X G (c.fact 9 (f := .glo "_law_moves") rfl)
  g_law_custom_instruction := He.glo_ok X G (c.fact 10 (f := .glo "_law_custom_instruction") rfl)
  g_law_machine := He.glo_ok X G (c.fact 11 (f := .glo "_law_machine") rfl)
  g_law_instruction := He.glo_ok X G (c.fact 12 (f := .glo "_law_instruction") rfl)
  g_law_state := He.glo_ok X G (c.fact 13 (f := .glo "_law_state") rfl)
  g_law_bytes := He.glo_ok X G (c.fact 14 (f := .glo "_law_bytes") rfl)
  g_law_decode := He.glo_ok X G (c.fact 15 (f := .glo "_law_decode") rfl)
  g_law_hex := He.glo_ok X G (c.fact 16 (f := .glo "_law_hex") rfl)
  g_law_result := He.glo_ok X G (c.fact 17 (f := .glo "_law_result") rfl)
  g_law_changed := He.glo_ok X G (c.fact 18 (f := .glo "_law_changed") rfl)
  g_law_limits_right := He.glo_ok X G (c.fact 19 (f := .glo "_law_limits_right") rfl)
  g_law := He.glo_ok X G (c.fact 20 (f := .glo "law") rfl)
  g_VirtError := He.glo_ok X G (c.fact 21 (f := .glo "VirtError") rfl)
  g_InvalidState := He.glo_ok X G (c.fact 22 (f := .glo "InvalidState") rfl)
  g_DecodeError := He.glo_ok X G (c.fact 23 (f := .glo "DecodeError") rfl)
  g_Decoder := He.glo_ok X G (c.fact 24 (f := .glo "Decoder") rfl)
  g_WORD_LIMIT := He.int_ok X G (c.fact 25 (f := .int "WORD_LIMIT" 10000) rfl)
  g_MIN_MEMORY := He.int_ok X G (c.fact 26 (f := .int "MIN_MEMORY" 16) rfl)
  g_MAX_MEMORY := He.int_ok X G (c.fact 27 (f := .int "MAX_MEMORY" 4000) rfl)
  g_SUPERVISOR := He.int_ok X G (c.fact 28 (f := .int "SUPERVISOR" 0) rfl)
  g_USER := He.int_ok X G (c.fact 29 (f := .int "USER" 1) rfl)
  g_BYTE := He.int_ok X G (c.fact 30 (f := .int "BYTE" 256) rfl)
  g_DIGITS := He.str_ok X G (c.fact 31 (f := .str "DIGITS" "0123456789abcdef") rfl)
  g_ValueError := He.free_ok X G (c.fact 32 (f := .free "ValueError") rfl)
  g_all := He.free_ok X G (c.fact 33 (f := .free "all") rfl)
  g_bool := He.free_ok X G (c.fact 34 (f := .free "bool") rfl)
  g_bytes := He.free_ok X G (c.fact 35 (f := .free "bytes") rfl)
  g_enumerate := He.free_ok X G (c.fact 36 (f := .free "enumerate") rfl)
  g_int := He.free_ok X G (c.fact 37 (f := .free "int") rfl)
  g_isinstance := He.free_ok X G (c.fact 38 (f := .free "isinstance") rfl)
  g_len := He.free_ok X G (c.fact 39 (f := .free "len") rfl)
  g_list := He.free_ok X G (c.fact 40 (f := .free "list") rfl)
  g_range := He.free_ok X G (c.fact 41 (f := .free "range") rfl)
  g_str := He.free_ok X G (c.fact 42 (f := .free "str") rfl)
  g_tuple := He.free_ok X G (c.fact 43 (f := .free "tuple") rfl)
  x_InvalidState := (let z := He.exc_ok (c.fact 44 (f := .exc "InvalidState") rfl); ⟨⟨_, _, _, _, PySem.F.excBase_ValueError, z.1, He.glo_ok X G (c.fact 22 (f := .glo "InvalidState") rfl), z.2.1, z.2.2.1, z.2.2.2⟩⟩)
  c_Decoder := He.cls_ok (c.fact 45 (f := .cls "Decoder") rfl)
  k_Decoder := He.mkr_ok (c.fact 46 (f := .mkr "Decoder") rfl)
  m_Decoder_read_byte := He.meth_ok (c.fact 47 (f := .meth "Decoder" "read_byte") rfl)
  m_Decoder_read_word := He.meth_ok (c.fact 48 (f := .meth "Decoder" "read_word") rfl)
  n_Decoder_data := He.noat_ok (c.fact 49 (f := .noat "Decoder" "data") rfl)
  n_Decoder_offset := He.noat_ok (c.fact 50 (f := .noat "Decoder" "offset") rfl)
  e_VirtError_DecodeError := He.exm_ok (c.fact 51 (f := .exm "VirtError" "DecodeError" false) rfl)
  e_InvalidState_DecodeError := He.exm_ok (c.fact 52 (f := .exm "InvalidState" "DecodeError" false) rfl)
  e_DecodeError_DecodeError := He.exm_ok (c.fact 53 (f := .exm "DecodeError" "DecodeError" true) rfl)
  e_VirtError_InvalidState := He.exm_ok (c.fact 54 (f := .exm "VirtError" "InvalidState" false) rfl)
  e_InvalidState_InvalidState := He.exm_ok (c.fact 55 (f := .exm "InvalidState" "InvalidState" true) rfl)
  e_DecodeError_InvalidState := He.exm_ok (c.fact 56 (f := .exm "DecodeError" "InvalidState" false) rfl)
  xf_DecodeError := xfB_ok (exs K e 0 rfl)
  xn_DecodeError_offset := He.noat_ok (c.fact 57 (f := .noat "DecodeError" "offset") rfl)
  ox_DecodeError := oexB_ok (exs K e 1 rfl)
  oi_DecodeError := (exs K e 2 rfl)
  ob_DecodeError := ownB_ok (exs K e 3 rfl)
theorem one_cls {K : PySem.W.Frag} {C : Addr} {a : Str} (h : Cls K C) (n : NoAttr K C a) : ∀ D ∈ [C], Cls K D ∧ NoAttr K D a := fun D hD => by
  have : D = C := by simpa using hD
  subst this; exact ⟨h, n⟩
theorem no_cls {K : PySem.W.Frag} {a : Str} : ∀ D ∈ ([] : List Addr), Cls K D ∧ NoAttr K D a := fun D hD => by simp at hD
theorem cons_cls {K : PySem.W.Frag} {C : Addr} {l : List Addr} {a : Str} (h : Cls K C) (n : NoAttr K C a) (r : ∀ D ∈ l, Cls K D ∧ NoAttr K D a) : ∀ D ∈ C :: l, Cls K D ∧ NoAttr K D a := fun D hD => by
  rcases List.mem_cons.mp hD with e | e
  · subst e; exact ⟨h, n⟩
  · exact r D e
def ans_DecodeError (K : PySem.W.Frag) : Value → Option Bool := fun c => if c = .ref (He.ga K "VirtError") then some false else if c = .ref (He.ga K "InvalidState") then some false else if c = .ref (He.ga K "DecodeError") then some true else none
theorem ans_DecodeError_ok {K : PySem.W.Frag} {mg : Str → Option Value} (hy : Hy K mg) : ∀ c b, ans_DecodeError K c = some b → PySem.W.exmOne K c (.ref (He.ga K "DecodeError")) = some b := by
  intro c b h
  unfold ans_DecodeError at h
  split at h
  · rename_i e; subst e; rw [hy.e_VirtError_DecodeError]; exact h
  split at h
  · rename_i e; subst e; rw [hy.e_InvalidState_DecodeError]; exact h
  split at h
  · rename_i e; subst e; rw [hy.e_DecodeError_DecodeError]; exact h
  cases h
def ans_InvalidState (K : PySem.W.Frag) : Value → Option Bool := fun c => if c = .ref (He.ga K "VirtError") then some false else if c = .ref (He.ga K "InvalidState") then some true else if c = .ref (He.ga K "DecodeError") then some false else none
theorem ans_InvalidState_ok {K : PySem.W.Frag} {mg : Str → Option Value} (hy : Hy K mg) : ∀ c b, ans_InvalidState K c = some b → PySem.W.exmOne K c (.ref (He.ga K "InvalidState")) = some b := by
  intro c b h
  unfold ans_InvalidState at h
  split at h
  · rename_i e; subst e; rw [hy.e_VirtError_InvalidState]; exact h
  split at h
  · rename_i e; subst e; rw [hy.e_InvalidState_InvalidState]; exact h
  split at h
  · rename_i e; subst e; rw [hy.e_DecodeError_InvalidState]; exact h
  cases h
section
variable {P : Program} {w : World} {K : PySem.W.Frag} {mg : Str → Option Value} {base : Heap}
theorem sc_DecodeError___init__ : FnScope ["self", "offset"] ["self", "offset"] (defScope st_DecodeError___init__) := ⟨rfl, rfl, rfl, by decide +kernel, rfl, by decide +kernel, by decide +kernel⟩
theorem rox_DecodeError (hy : Hy K mg) : RaiseOx P w K mg base 1 "DecodeError" (He.ga K "DecodeError") "offset" := by
  obtain ⟨fd, F⟩ := hy.f_DecodeError___init__
  obtain ⟨i1, i2⟩ := He.ba hy.oi_DecodeError
  obtain ⟨i3, i4⟩ := He.ba i2
  refine ⟨_, fd, ["self", "offset"], ?_, hy.ox_DecodeError, He.eqO_ok i4, He.eqO_ok i1, of_decide_eq_true i3, hy.g_DecodeError, F.bindsN fun _ _ _ _ _ _ us hl => match us, hl with | [_, _], _ => rfl⟩
  refine F.ok sc_DecodeError___init__ (fun vs H Q E h => ?_) (fun cdv A outer s H vs Q E hr h => ⟨tOxI K "invalid encoded state" "offset", ?_, ox_pure vs H Q E h⟩)
  · obtain ⟨_, _, _, rfl, _⟩ := h
    rfl
  · exact pss_cons (ps_expr (pe_oinit rfl hy.g_VirtError hy.ob_DecodeError (pa_cons (pv 0) (pa_cons pe_str pa_nil)))) (pss_one (ps_ost (pv 0) (pv 1)))
/-! is_integer -/
def b_is_integer (K : PySem.W.Frag) : Sm :=
    (sRet (eAnd (eCall cIsi (aCons (eVar 0) (aCons (eC (.ty "int")) aNil))) (eAnd (eNot (eCall cIsi (aCons (eVar 0) (aCons (eC (.ty "bool")) aNil)))) (eCh opLe opLe (eVar 1) (eVar 0) (eVar 2)))))
def m_is_integer (K : PySem.W.Frag) : M1.Fn := mkFn 3 3 (b_is_integer K)
theorem sc_is_integer : FnScope ["value", "low", "high"] ["value", "low", "high"] (defScope st_is_integer) := ⟨rfl, rfl, rfl, by decide +kernel, rfl, by decide +kernel, by decide +kernel⟩
theorem ok_is_integer (hy : Hy K mg) {f : Addr} {fd : FuncData} (F : FunD K "is_integer" "is_integer" (defArgs st_is_integer) (defBody st_is_integer) (defScope st_is_integer) [] [] f fd) : FnOk P w K mg base (L2.CX P w) 1 f fd ["value", "low", "high"] (spM K 3 (m_is_integer K)) := by
  have h := fn_mk (P := P) (w := w) (mg := mg) (base := base) (k := 0) (b := b_is_integer K) F sc_is_integer (fun cdv A outer s H E hr => by
    have hu := hr.units
    refine mss_one ?_
    refine ms_ret ?_
    refine me_and ?_ ?_
    refine me_callB cr_isi rfl hy.g_isinstance bt_isinstance ?_
    refine ma_cons ?_ ?_
    exact me_var (pv 0)
    refine ma_cons ?_ ?_
    exact me_ty rfl hy.g_int bt_int
    exact ma_nil
    refine me_and ?_ ?_
    refine me_not ?_
    refine me_callB cr_isi rfl hy.g_isinstance bt_isinstance ?_
    refine ma_cons ?_ ?_
    exact me_var (pv 0)
    refine ma_cons ?_ ?_
    exact me_ty rfl hy.g_bool bt_bool
    exact ma_nil
    refine me_one ?_
    refine me_chain opp_le opp_le ?_ ?_ ?_
    exact me_var (pv 1)
    exact me_var (pv 0)
    exact me_var (pv 2))
  exact h
theorem cal_is_integer (hy : Hy K mg) : Cal P w K mg base 1 "is_integer" (m_is_integer K) [] := by
  obtain ⟨fd, F⟩ := hy.f_is_integer
  exact cal_mk F rfl lenOk_mk (ok_is_integer hy F) hy.g_is_integer (F.bindsN fun _ _ _ _ _ _ us hl => match us, hl with | [_, _, _], _ => rfl)
/-! Decoder.__init__ -/
def b_Decoder___init__ (K : PySem.W.Frag) : Sm :=
    (sSeq (sFld [He.ga K "Decoder"] (eVar 0) "data" (eVar 1))
    (sFld [He.ga K "Decoder"] (eVar 0) "offset" (eC (.int 0))))
def m_Decoder___init__ (K : PySem.W.Frag) : M1.Fn := mkFn 2 2 (b_Decoder___init__ K)
theorem sc_Decoder___init__ : FnScope ["self", "data"] ["self", "data"] (defScope st_Decoder___init__) := ⟨rfl, rfl, rfl, by decide +kernel, rfl, by decide +kernel, by decide +kernel⟩
theorem ok_Decoder___init__ (hy : Hy K mg) {f : Addr} {fd : FuncData} (F : FunD K "__init__" "Decoder.__init__" (defArgs st_Decoder___init__) (defBody st_Decoder___init__) (defScope st_Decoder___init__) [] [] f fd) : FnOk P w K mg base (L2.CX P w) 1 f fd ["self", "data"] (spM K 2 (m_Decoder___init__ K)) := by
  have h := fn_mk (P := P) (w := w) (mg := mg) (base := base) (k := 0) (b := b_Decoder___init__ K) F sc_Decoder___init__ (fun cdv A outer s H E hr => by
    have hu := hr.units
    refine mss_cons ?_ ?_
    refine ms_fld ?_ ?_ (one_cls hy.c_Decoder hy.n_Decoder_data)
    exact me_var (pv 0)
    exact me_var (pv 1)
    refine mss_one ?_
    refine ms_fld ?_ ?_ (one_cls hy.c_Decoder hy.n_Decoder_offset)
    exact me_var (pv 0)
    exact me_int)
  exact h
theorem mak_Decoder (hy : Hy K mg) : Mak P w K mg base 1 "Decoder" (He.ga K "Decoder") (m_Decoder___init__ K) [] := by
  obtain ⟨fd, F⟩ := hy.f_Decoder___init__
  exact mak_mk F lenOk_mk (ok_Decoder___init__ hy F) hy.g_Decoder hy.k_Decoder (F.bindsN fun _ _ _ _ _ _ us hl => match us, hl with | [_, _], _ => rfl)
/-! _law_mix -/
def b_law_mix (K : PySem.W.Frag) : Sm :=
    (sSeq (sAsg (eOp opMod (eCall cInt (aCons (eOp opIxA (eVar 0) (eOp opMod (eCall cInt (aCons (eVar 1) aNil)) (eCall cLen (aCons (eVar 0) aNil)))) aNil)) (eOp opPow (eC (.int 10)) (eC (.int 18)))) (gN 2))
    (sSeq (sAsg (eOp opAdd (eVar 2) (eOp opMulA (eC (.int 13)) (eOp opFdiv (eVar 1) (eCall cLen (aCons (eVar 0) aNil))))) (gN 2))
    (sSeq (sAsg (eOp opMod (eOp opAdd (eOp opMulA (eOp opAdd (eVar 2) (eOp opMulA (eC (.int 977)) (eVar 1))) (eC (.int 48271))) (eOp opMulA (eC (.int 7919)) (eCall cLen (aCons (eVar 0) aNil)))) (eC (.int 2147483647))) (gN 3))
    (sRet (eOp opFdiv (eOp opMulA (eOp opMulA (eVar 3) (eOp opAdd (eOp opAdd (eVar 3) (eOp opMulA (eC (.int 31)) (eVar 1))) (eC (.int 7)))) (eOp opAdd (eVar 3) (eC (.int 5)))) (eC (.int 1009)))))))
def m_law_mix (K : PySem.W.Frag) : M1.Fn := mkFn 2 4 (b_law_mix K)
theorem sc_law_mix : FnScope ["_law_values", "_law_index", "_law_value_here", "_law_mixed"] ["_law_values", "_law_index"] (defScope st_law_mix) := ⟨rfl, rfl, rfl, by decide +kernel, rfl, by decide +kernel, by decide +kernel⟩
theorem ok_law_mix (hy : Hy K mg) {f : Addr} {fd : FuncData} (F : FunD K "_law_mix" "_law_mix" (defArgs st_law_mix) (defBody st_law_mix) (defScope st_law_mix) [] [] f fd) : FnOk P w K mg base (L2.CX P w) 1 f fd ["_law_values", "_law_index"] (spM K 2 (m_law_mix K)) := by
  have h := fn_mk (P := P) (w := w) (mg := mg) (base := base) (k := 0) (b := b_law_mix K) F sc_law_mix (fun cdv A outer s H E hr => by
    have hu := hr.units
    refine mss_cons ?_ ?_
    refine ms_asg ?_ ?_
    refine me_op opp_mod ?_ ?_
    refine me_callTy cr_int rfl hy.g_int bt_int ?_
    refine ma_cons ?_ ?_
    refine me_ixA ?_ ?_
    exact me_var (pv 0)
    refine me_op opp_mod ?_ ?_
    refine me_callTy cr_int rfl hy.g_int bt_int ?_
    refine ma_cons ?_ ?_
    exact me_var (pv 1)
    exact ma_nil
    refine me_callB cr_len rfl hy.g_len bt_len ?_
    refine ma_cons ?_ ?_
    exact me_var (pv 0)
    exact ma_nil
    exact ma_nil
    refine me_op opp_pow ?_ ?_
    exact me_int
    exact me_int
    exact mg_name (pg_name sc_law_mix.nd (i := 2) rfl (by first | exact .inl rfl | exact .inr rfl))
    refine mss_cons ?_ ?_
    refine ms_asg ?_ ?_
    refine me_op opp_add ?_ ?_
    exact me_var (pv 2)
    refine me_op opp_mulA ?_ ?_
    exact me_int
    refine me_op opp_fdiv ?_ ?_
    exact me_var (pv 1)
    refine me_callB cr_len rfl hy.g_len bt_len ?_
    refine ma_cons ?_ ?_
    exact me_var (pv 0)
    exact ma_nil
    exact mg_name (pg_name sc_law_mix.nd (i := 2) rfl (by first | exact .inl rfl | exact .inr rfl))
    refine mss_cons ?_ ?_
    refine ms_asg ?_ ?_
    refine me_op opp_mod ?_ ?_
    refine me_op opp_add ?_ ?_
    refine me_op opp_mulA ?_ ?_
    refine me_op opp_add ?_ ?_
    exact me_var (pv 2)
    refine me_op opp_mulA ?_ ?_
    exact me_int
    exact me_var (pv 1)
    exact me_int
    refine me_op opp_mulA ?_ ?_
    exact me_int
    refine me_callB cr_len rfl hy.g_len bt_len ?_
    refine ma_cons ?_ ?_
    exact me_var (pv 0)
    exact ma_nil
    exact me_int
    exact mg_name (pg_name sc_law_mix.nd (i := 3) rfl (by first | exact .inl rfl | exact .inr rfl))
    refine mss_one ?_
    refine ms_ret ?_
    refine me_op opp_fdiv ?_ ?_
    refine me_op opp_mulA ?_ ?_
    refine me_op opp_mulA ?_ ?_
    exact me_var (pv 3)
    refine me_op opp_add ?_ ?_
    refine me_op opp_add ?_ ?_
    exact me_var (pv 3)
    refine me_op opp_mulA ?_ ?_
    exact me_int
    exact me_var (pv 1)
    exact me_int
    refine me_op opp_add ?_ ?_
    exact me_var (pv 3)
    exact me_int
    exact me_int)
  exact h
theorem cal_law_mix (hy : Hy K mg) : Cal P w K mg base 1 "_law_mix" (m_law_mix K) [] := by
  obtain ⟨fd, F⟩ := hy.f_law_mix
  exact cal_mk F rfl lenOk_mk (ok_law_mix hy F) hy.g_law_mix (F.bindsN fun _ _ _ _ _ _ us hl => match us, hl with | [_, _], _ => rfl)
/-! _law_moves -/
def b_law_moves (K : PySem.W.Frag) : Sm :=
    (sSeq (sAsg (eTup (aCons (eC (.str "acc")) (aCons (eC (.str "pc")) (aCons (eC (.str "mode")) (aCons (eC (.str "base")) (aCons (eC (.str "bound")) (aCons (eC (.str "timer")) (aCons (eC (.str "mem")) (aCons (eC (.str "phys")) (aCons (eC (.str "acc")) (aCons (eC (.str "mem")) aNil))))))))))) (gN 2))
    (sSeq (sAsg (eTup (aCons (eC (.str "acc")) (aCons (eC (.str "mode")) (aCons (eC (.str "base")) (aCons (eC (.str "bound")) (aCons (eC (.str "timer")) (aCons (eC (.str "mem")) (aCons (eC (.str "phys")) (aCons (eC (.str "operand")) (aCons (eC (.str "zero")) aNil)))))))))) (gN 3))
    (sSeq (sAsg (eLst aNil) (gN 4))
    (sSeq (sFor (iRng1 (aCons (eVar 1) aNil)) (gN 5) (sSeq (sExpr (eMb isLst gApp (eVar 4) (aCons (eTup (aCons (eOp opIxA (eVar 2) (eOp opMod (eOp opFdiv (eVar 0) (eC (.int 7))) (eC (.int 10)))) (aCons (eOp opIxA (eVar 3) (eOp opMod (eOp opFdiv (eVar 0) (eC (.int 90))) (eC (.int 9)))) aNil))) aNil)))
    (sAsg (eOp opAdd (eOp opFdiv (eVar 0) (eC (.int 90))) (eOp opMulA (eC (.int 31)) (eVar 5))) (gN 0))))
    (sRet (eCall cTup (aCons (eVar 4) aNil)))))))
def m_law_moves (K : PySem.W.Frag) : M1.Fn := mkFn 2 6 (b_law_moves K)
theorem sc_law_moves : FnScope ["_law_seed", "_law_count", "_law_targets", "_law_sources", "_law_moves_here", "_law_number"] ["_law_seed", "_law_count"] (defScope st_law_moves) := ⟨rfl, rfl, rfl, by decide +kernel, rfl, by decide +kernel, by decide +kernel⟩
theorem ok_law_moves (hy : Hy K mg) {f : Addr} {fd : FuncData} (F : FunD K "_law_moves" "_law_moves" (defArgs st_law_moves) (defBody st_law_moves) (defScope st_law_moves) [] [] f fd) : FnOk P w K mg base (L2.CX P w) 1 f fd ["_law_seed", "_law_count"] (spM K 2 (m_law_moves K)) := by
  have h := fn_mk (P := P) (w := w) (mg := mg) (base := base) (k := 0) (b := b_law_moves K) F sc_law_moves (fun cdv A outer s H E hr => by
    have hu := hr.units
    refine mss_cons ?_ ?_
    refine ms_asg ?_ ?_
    refine me_tup ?_
    refine ma_cons ?_ ?_
    exact me_str
    refine ma_cons ?_ ?_
    exact me_str
    refine ma_cons ?_ ?_
    exact me_str
    refine ma_cons ?_ ?_
    exact me_str
    refine ma_cons ?_ ?_
    exact me_str
    refine ma_cons ?_ ?_
    exact me_str
    refine ma_cons ?_ ?_
    exact me_str
    refine ma_cons ?_ ?_
    exact me_str
    refine ma_cons ?_ ?_
    exact me_str
    refine ma_cons ?_ ?_
    exact me_str
    exact ma_nil
    exact mg_name (pg_name sc_law_moves.nd (i := 2) rfl (by first | exact .inl rfl | exact .inr rfl))
    refine mss_cons ?_ ?_
    refine ms_asg ?_ ?_
    refine me_tup ?_
    refine ma_cons ?_ ?_
    exact me_str
    refine ma_cons ?_ ?_
    exact me_str
    refine ma_cons ?_ ?_
    exact me_str
    refine ma_cons ?_ ?_
    exact me_str
    refine ma_cons ?_ ?_
    exact me_str
    refine ma_cons ?_ ?_
    exact me_str
    refine ma_cons ?_ ?_
    exact me_str
    refine ma_cons ?_ ?_
    exact me_str
    refine ma_cons ?_ ?_
    exact me_str
    exact ma_nil
    exact mg_name (pg_name sc_law_moves.nd (i := 3) rfl (by first | exact .inl rfl | exact .inr rfl))
    refine mss_cons ?_ ?_
    refine ms_asg ?_ ?_
    refine me_lst ?_
    exact ma_nil
    exact mg_name (pg_name sc_law_moves.nd (i := 4) rfl (by first | exact .inl rfl | exact .inr rfl))
    refine mss_cons ?_ ?_
    refine ms_for hp0 rfl ?_ ?_ ?_
    refine mi_rng1 rfl hy.g_range ?_
    refine ma_cons ?_ ?_
    exact me_var (pv 1)
    exact ma_nil
    exact mg_name (pg_name sc_law_moves.nd (i := 5) rfl (by first | exact .inl rfl | exact .inr rfl))
    refine mss_cons ?_ ?_
    refine ms_expr ?_
    refine me_bmL PySem.F.slot_list_append PySem.F.type_list_append mt_app ?_ ?_
    exact me_var (pv 4)
    refine ma_cons ?_ ?_
    refine me_tup ?_
    refine ma_cons ?_ ?_
    refine me_ixA ?_ ?_
    exact me_var (pv 2)
    refine me_op opp_mod ?_ ?_
    refine me_op opp_fdiv ?_ ?_
    exact me_var (pv 0)
    exact me_int
    exact me_int
    refine ma_cons ?_ ?_
    refine me_ixA ?_ ?_
    exact me_var (pv 3)
    refine me_op opp_mod ?_ ?_
    refine me_op opp_fdiv ?_ ?_
    exact me_var (pv 0)
    exact me_int
    exact me_int
    exact ma_nil
    exact ma_nil
    refine mss_one ?_
    refine ms_asg ?_ ?_
    refine me_op opp_add ?_ ?_
    refine me_op opp_fdiv ?_ ?_
    exact me_var (pv 0)
    exact me_int
    refine me_op opp_mulA ?_ ?_
    exact me_int
    exact me_var (pv 5)
    exact mg_name (pg_name sc_law_moves.nd (i := 0) rfl (by first | exact .inl rfl | exact .inr rfl))
    refine mss_one ?_
    refine ms_ret ?_
    refine me_callTy cr_tup rfl hy.g_tuple bt_tuple ?_
    refine ma_cons ?_ ?_
    exact me_var (pv 4)
    exact ma_nil)
  exact h
theorem cal_law_moves (hy : Hy K mg) : Cal P w K mg base 1 "_law_moves" (m_law_moves K) [] := by
  obtain ⟨fd, F⟩ := hy.f_law_moves
  exact cal_mk F rfl lenOk_mk (ok_law_moves hy F) hy.g_law_moves (F.bindsN fun _ _ _ _ _ _ us hl => match us, hl with | [_, _], _ => rfl)
/-! _law_instruction -/
def b_law_instruction (K : PySem.W.Frag) : Sm :=
    (sSeq (sAsg (eIf (tBl (eOp opLt (eOp opMod (eVar 0) (eC (.int 8))) (eC (.int 5)))) (eOp opAdd (eC (.int 1)) (eOp opMod (eOp opFdiv (eVar 0) (eC (.int 8))) (eC (.int 15)))) (eIf (tBl (eOp opGt (eVar 2) (eC (.int 15)))) (eOp opAdd (eC (.int 16)) (eOp opMod (eOp opFdiv (eVar 0) (eC (.int 8))) (eC (.int 5)))) (eOp opAdd (eC (.int 2)) (eOp opMod (eOp opFdiv (eVar 0) (eC (.int 8))) (eC (.int 9)))))) (gN 3))
    (sSeq (sAsg (eIf (tOrM (tBl (eOp opNin (eVar 3) (eTup (aCons (eC (.int 11)) (aCons (eC (.int 14)) aNil))))) (tBl (eOp opEq (eOp opMod (eOp opFdiv (eVar 0) (eC (.int 200))) (eC (.int 4))) (eC (.int 0))))) (eVar 3) (eC (.int 3))) (gN 3))
    (sSeq (sAsg (eIf (tBl (eOp opGt (eOp opMod (eOp opFdiv (eVar 0) (eC (.int 40))) (eC (.int 7))) (eC (.int 0)))) (eOp opMod (eOp opFdiv (eVar 0) (eC (.int 300))) (eOp opAdd (eVar 1) (eC (.int 2)))) (eOp opIxA (eTup (aCons (eC (.int 9999)) (aCons (eOp opSub (eC (.int 10000)) (eVar 1)) (aCons (eC (.int 0)) aNil)))) (eOp opMod (eOp opFdiv (eVar 0) (eC (.int 300))) (eC (.int 3))))) (gN 4))
    (sRet (eLst (aCons (eIf (tBl (eOp opGt (eOp opMod (eOp opFdiv (eVar 0) (eC (.int 800))) (eC (.int 23))) (eC (.int 0)))) (eVar 3) (eOp opMod (eOp opFdiv (eVar 0) (eC (.int 900))) (eC (.int 30)))) (aCons (eVar 4) aNil)))))))
def m_law_instruction (K : PySem.W.Frag) : M1.Fn := mkFn 3 5 (b_law_instruction K)
theorem sc_law_instruction : FnScope ["_law_seed", "_law_size", "_law_last", "_law_code", "_law_operand"] ["_law_seed", "_law_size", "_law_last"] (defScope st_law_instruction) := ⟨rfl, rfl, rfl, by decide +kernel, rfl, by decide +kernel, by decide +kernel⟩
theorem ok_law_instruction (hy : Hy K mg) {f : Addr} {fd : FuncData} (F : FunD K "_law_instruction" "_law_instruction" (defArgs st_law_instruction) (defBody st_law_instruction) (defScope st_law_instruction) [] [] f fd) : FnOk P w K mg base (L2.CX P w) 1 f fd ["_law_seed", "_law_size", "_law_last"] (spM K 3 (m_law_instruction K)) := by
  have h := fn_mk (P := P) (w := w) (mg := mg) (base := base) (k := 0) (b := b_law_instruction K) F sc_law_instruction (fun cdv A outer s H E hr => by
    have hu := hr.units
    refine mss_cons ?_ ?_
    refine ms_asg ?_ ?_
    refine me_if ?_ ?_ ?_
    refine mt_cmp opp_lt ?_ ?_ (by first | exact nomark _ | with_unfolding_all rfl)
    refine me_op opp_mod ?_ ?_
    exact me_var (pv 0)
    exact me_int
    exact me_int
    refine me_op opp_add ?_ ?_
    exact me_int
    refine me_op opp_mod ?_ ?_
    refine me_op opp_fdiv ?_ ?_
    exact me_var (pv 0)
    exact me_int
    exact me_int
    refine me_if ?_ ?_ ?_
    refine mt_cmp opp_gt ?_ ?_ (by first | exact nomark _ | with_unfolding_all rfl)
    exact me_var (pv 2)
    exact me_int
    refine me_op opp_add ?_ ?_
    exact me_int
    refine me_op opp_mod ?_ ?_
    refine me_op opp_fdiv ?_ ?_
    exact me_var (pv 0)
    exact me_int
    exact me_int
    refine me_op opp_add ?_ ?_
    exact me_int
    refine me_op opp_mod ?_ ?_
    refine me_op opp_fdiv ?_ ?_
    exact me_var (pv 0)
    exact me_int
    exact me_int
    exact mg_name (pg_name sc_law_instruction.nd (i := 3) rfl (by first | exact .inl rfl | exact .inr rfl))
    refine mss_cons ?_ ?_
    refine ms_asg ?_ ?_
    refine me_if ?_ ?_ ?_
    refine mw_pt ?_
    refine mw_or ?_ ?_
    refine mt_cmp opp_nin ?_ ?_ (by first | exact nomark _ | with_unfolding_all rfl)
    exact me_var (pv 3)
    refine me_tup ?_
    refine ma_cons ?_ ?_
    exact me_int
    refine ma_cons ?_ ?_
    exact me_int
    exact ma_nil
    refine mw_or1 ?_
    refine mt_cmp (opp_eq hu) ?_ ?_ (by first | exact nomark _ | with_unfolding_all rfl)
    refine me_op opp_mod ?_ ?_
    refine me_op opp_fdiv ?_ ?_
    exact me_var (pv 0)
    exact me_int
    exact me_int
    exact me_int
    exact me_var (pv 3)
    exact me_int
    exact mg_name (pg_name sc_law_instruction.nd (i := 3) rfl (by first | exact .inl rfl | exact .inr rfl))
    refine mss_cons ?_ ?_
    refine ms_asg ?_ ?_
    refine me_if ?_ ?_ ?_
    refine mt_cmp opp_gt ?_ ?_ (by first | exact nomark _ | with_unfolding_all rfl)
    refine me_op opp_mod ?_ ?_
    refine me_op opp_fdiv ?_ ?_
    exact me_var (pv 0)
    exact me_int
    exact me_int
    exact me_int
    refine me_op opp_mod ?_ ?_
    refine me_op opp_fdiv ?_ ?_
    exact me_var (pv 0)
    exact me_int
    refine me_op opp_add ?_ ?_
    exact me_var (pv 1)
    exact me_int
    refine me_ixA ?_ ?_
    refine me_tup ?_
    refine ma_cons ?_ ?_
    exact me_int
    refine ma_cons ?_ ?_
    refine me_op opp_sub ?_ ?_
    exact me_int
    exact me_var (pv 1)
    refine ma_cons ?_ ?_
    exact me_int
    exact ma_nil
    refine me_op opp_mod ?_ ?_
    refine me_op opp_fdiv ?_ ?_
    exact me_var (pv 0)
    exact me_int
    exact me_int
    exact mg_name (pg_name sc_law_instruction.nd (i := 4) rfl (by first | exact .inl rfl | exact .inr rfl))
    refine mss_one ?_
    refine ms_ret ?_
    refine me_lst ?_
    refine ma_cons ?_ ?_
    refine me_if ?_ ?_ ?_
    refine mt_cmp opp_gt ?_ ?_ (by first | exact nomark _ | with_unfolding_all rfl)
    refine me_op opp_mod ?_ ?_
    refine me_op opp_fdiv ?_ ?_
    exact me_var (pv 0)
    exact me_int
    exact me_int
    exact me_int
    exact me_var (pv 3)
    refine me_op opp_mod ?_ ?_
    refine me_op opp_fdiv ?_ ?_
    exact me_var (pv 0)
    exact me_int
    exact me_int
    refine ma_cons ?_ ?_
    exact me_var (pv 4)
    exact ma_nil)
  exact h
theorem cal_law_instruction (hy : Hy K mg) : Cal P w K mg base 1 "_law_instruction" (m_law_instruction K) [] := by
  obtain ⟨fd, F⟩ := hy.f_law_instruction
  exact cal_mk F rfl lenOk_mk (ok_law_instruction hy F) hy.g_law_instruction (F.bindsN fun _ _ _ _ _ _ us hl => match us, hl with | [_, _, _], _ => rfl)
/-! _law_bytes -/
def b_law_bytes (K : PySem.W.Frag) : Sm :=
    (sSeq (sAsg (eLst (aCons (eOp opIxA (eVar 0) (eC (.int 3))) aNil)) (gN 1))
    (sSeq (sFor (iAny (eOp opAdd (eOp opAdd (eOp opAdd (eTup (aCons (eOp opIxA (eVar 0) (eC (.int 1))) (aCons (eOp opIxA (eVar 0) (eC (.int 2))) aNil))) (eSl (eVar 0) (pAt (eC (.int 4))) pNo)) (eTup (aCons (eCall cLen (aCons (eOp opIxA (eVar 0) (eC (.int 0))) aNil)) aNil))) (eOp opIxA (eVar 0) (eC (.int 0))))) (gN 2) (sAsg (eOp opAdd (eVar 1) (eLst (aCons (eOp opFdiv (eVar 2) (eC (.int 256))) (aCons (eOp opMod (eCall cInt (aCons (eVar 2) aNil)) (eC (.int 256))) aNil)))) (gN 1)))
    (sRet (eVar 1))))
def m_law_bytes (K : PySem.W.Frag) : M1.Fn := mkFn 1 3 (b_law_bytes K)
theorem sc_law_bytes : FnScope ["_law_state_here", "_law_found", "_law_word"] ["_law_state_here"] (defScope st_law_bytes) := ⟨rfl, rfl, rfl, by decide +kernel, rfl, by decide +kernel, by decide +kernel⟩
theorem ok_law_bytes (hy : Hy K mg) {f : Addr} {fd : FuncData} (F : FunD K "_law_bytes" "_law_bytes" (defArgs st_law_bytes) (defBody st_law_bytes) (defScope st_law_bytes) [] [] f fd) : FnOk P w K mg base (L2.CX P w) 1 f fd ["_law_state_here"] (spM K 1 (m_law_bytes K)) := by
  have h := fn_mk (P := P) (w := w) (mg := mg) (base := base) (k := 0) (b := b_law_bytes K) F sc_law_bytes (fun cdv A outer s H E hr => by
    have hu := hr.units
    refine mss_cons ?_ ?_
    refine ms_asg ?_ ?_
    refine me_lst ?_
    refine ma_cons ?_ ?_
    refine me_ixA ?_ ?_
    exact me_var (pv 0)
    exact me_int
    exact ma_nil
    exact mg_name (pg_name sc_law_bytes.nd (i := 1) rfl (by first | exact .inl rfl | exact .inr rfl))
    refine mss_cons ?_ ?_
    refine ms_for hp0 rfl ?_ ?_ ?_
    refine mi_any ?_
    refine me_op opp_add ?_ ?_
    refine me_op opp_add ?_ ?_
    refine me_op opp_add ?_ ?_
    refine me_tup ?_
    refine ma_cons ?_ ?_
    refine me_ixA ?_ ?_
    exact me_var (pv 0)
    exact me_int
    refine ma_cons ?_ ?_
    refine me_ixA ?_ ?_
    exact me_var (pv 0)
    exact me_int
    exact ma_nil
    refine me_sl ?_ ?_ ?_
    exact me_var (pv 0)
    refine mp_at ?_
    exact me_int
    exact mp_no
    refine me_tup ?_
    refine ma_cons ?_ ?_
    refine me_callB cr_len rfl hy.g_len bt_len ?_
    refine ma_cons ?_ ?_
    refine me_ixA ?_ ?_
    exact me_var (pv 0)
    exact me_int
    exact ma_nil
    exact ma_nil
    refine me_ixA ?_ ?_
    exact me_var (pv 0)
    exact me_int
    exact mg_name (pg_name sc_law_bytes.nd (i := 2) rfl (by first | exact .inl rfl | exact .inr rfl))
    refine mss_one ?_
    refine ms_asg ?_ ?_
    refine me_op opp_add ?_ ?_
    exact me_var (pv 1)
    refine me_lst ?_
    refine ma_cons ?_ ?_
    refine me_op opp_fdiv ?_ ?_
    exact me_var (pv 2)
    exact me_int
    refine ma_cons ?_ ?_
    refine me_op opp_mod ?_ ?_
    refine me_callTy cr_int rfl hy.g_int bt_int ?_
    refine ma_cons ?_ ?_
    exact me_var (pv 2)
    exact ma_nil
    exact me_int
    exact ma_nil
    exact mg_name (pg_name sc_law_bytes.nd (i := 1) rfl (by first | exact .inl rfl | exact .inr rfl))
    refine mss_one ?_
    refine ms_ret ?_
    exact me_var (pv 1))
  exact h
theorem cal_law_bytes (hy : Hy K mg) : Cal P w K mg base 1 "_law_bytes" (m_law_bytes K) [] := by
  obtain ⟨fd, F⟩ := hy.f_law_bytes
  exact cal_mk F rfl lenOk_mk (ok_law_bytes hy F) hy.g_law_bytes (F.bindsN fun _ _ _ _ _ _ us hl => match us, hl with | [_], _ => rfl)
/-! _law_decode -/
def b_law_decode (K : PySem.W.Frag) : Sm :=
    (sSeq (sPar2 1 2 (aCons (eLst aNil) (aCons (eC (.int 1)) aNil)))
    (sSeq (sIf (tOrM (tBl (eOp opEq (eVar 0) (eLst aNil))) (tBl (eOp opGt (eOp opIxA (eVar 0) (eC (.int 0))) (eC (.int 1))))) (sRet (eC (.int 0))) sNil)
    (sSeq (whileN (tOrM (tBl (eOp opLt (eCall cLen (aCons (eVar 1) aNil)) (eC (.int 6)))) (tBl (eOp opLt (eCall cLen (aCons (eVar 1) aNil)) (eOp opAdd (eC (.int 6)) (eOp opIxA (eVar 1) (eC (.int 5))))))) (sSeq (sAsg (eIf (tBl (eOp opEq (eCall cLen (aCons (eVar 1) aNil)) (eC (.int 5)))) (eTup (aCons (eC (.int 16)) (aCons (eC (.int 4000)) aNil))) (eTup (aCons (eC (.int 0)) (aCons (eC (.int 9999)) aNil)))) (gT 2 (gsCons (gN 3) (gsCons (gN 4) gsNil))))
    (sSeq (sIf (tOrM (tBl (eOp opGe (eVar 2) (eCall cLen (aCons (eVar 0) aNil)))) (tNotM (tBl (eCh opLe opLe (eOp opFdiv (eVar 3) (eC (.int 256))) (eOp opIxA (eVar 0) (eVar 2)) (eOp opFdiv (eVar 4) (eC (.int 256))))))) (sRet (eVar 2)) sNil)
    (sSeq (sIf (tOrM (tBl (eOp opGe (eOp opAdd (eVar 2) (eC (.int 1))) (eCall cLen (aCons (eVar 0) aNil)))) (tNotM (tBl (eCh opLe opLe (eVar 3) (eOp opAdd (eOp opMulA (eC (.int 256)) (eOp opIxA (eVar 0) (eVar 2))) (eOp opIxA (eVar 0) (eOp opAdd (eVar 2) (eC (.int 1))))) (eVar 4))))) (sRet (eOp opAdd (eVar 2) (eC (.int 1)))) sNil)
    (sSeq (sExpr (eMb isLst gApp (eVar 1) (aCons (eOp opAdd (eOp opMulA (eC (.int 256)) (eOp opIxA (eVar 0) (eVar 2))) (eOp opIxA (eVar 0) (eOp opAdd (eVar 2) (eC (.int 1))))) aNil)))
    (sAsg (eOp opAdd (eVar 2) (eC (.int 2))) (gN 2)))))) 10000)
    (sSeq (sIf (tBl (eOp opLt (eVar 2) (eCall cLen (aCons (eVar 0) aNil)))) (sRet (eVar 2)) sNil)
    (sSeq (sAsg (eSl (eVar 1) pNo (pAt (eC (.int 5)))) (gA 5 (gsCons (gN 5) (gsCons (gN 6) (gsCons (gN 7) (gsCons (gN 8) (gsCons (gN 9) gsNil)))))))
    (sRet (eTup (aCons (eCall cTup (aCons (eSl (eVar 1) (pAt (eC (.int 6))) pNo) aNil)) (aCons (eVar 5) (aCons (eVar 6) (aCons (eOp opIxA (eVar 0) (eC (.int 0))) (aCons (eVar 7) (aCons (eVar 8) (aCons (eVar 9) aNil))))))))))))))
def m_law_decode (K : PySem.W.Frag) : M1.Fn := mkFn 1 10 (b_law_decode K)
theorem sc_law_decode : FnScope ["_law_values", "_law_words", "_law_offset", "_law_low", "_law_high", "_law_acc", "_law_pc", "_law_base", "_law_bound", "_law_timer"] ["_law_values"] (defScope st_law_decode) := ⟨rfl, rfl, rfl, by decide +kernel, rfl, by decide +kernel, by decide +kernel⟩
theorem ok_law_decode (hy : Hy K mg) {f : Addr} {fd : FuncData} (F : FunD K "_law_decode" "_law_decode" (defArgs st_law_decode) (defBody st_law_decode) (defScope st_law_decode) [] [] f fd) : FnOk P w K mg base (L2.CX P w) 1 f fd ["_law_values"] (spM K 1 (m_law_decode K)) := by
  have h := fn_mk (P := P) (w := w) (mg := mg) (base := base) (k := 0) (b := b_law_decode K) F sc_law_decode (fun cdv A outer s H E hr => by
    have hu := hr.units
    refine mss_cons ?_ ?_
    refine ms_par2 rfl sc_law_decode.nd (i := 1) (j := 2) rfl rfl (by decide) rfl rfl ?_ (by rfl)
    refine ma_cons ?_ ?_
    refine me_lst ?_
    exact ma_nil
    refine ma_cons ?_ ?_
    exact me_int
    exact ma_nil
    refine mss_cons ?_ ?_
    refine ms_if ?_ ?_ ?_
    refine mw_pt ?_
    refine mw_or ?_ ?_
    refine mt_cmp (opp_eq hu) ?_ ?_ (by first | exact nomark _ | with_unfolding_all rfl)
    exact me_var (pv 0)
    refine me_lst ?_
    exact ma_nil
    refine mw_or1 ?_
    refine mt_cmp opp_gt ?_ ?_ (by first | exact nomark _ | with_unfolding_all rfl)
    refine me_ixA ?_ ?_
    exact me_var (pv 0)
    exact me_int
    exact me_int
    refine mss_one ?_
    refine ms_ret ?_
    exact me_int
    exact mss_nil
    refine mss_cons ?_ ?_
    refine ms_while 10000 hp0 ?_ ?_
    refine mw_pt ?_
    refine mw_or ?_ ?_
    refine mt_cmp opp_lt ?_ ?_ (by first | exact nomark _ | with_unfolding_all rfl)
    refine me_callB cr_len rfl hy.g_len bt_len ?_
    refine ma_cons ?_ ?_
    exact me_var (pv 1)
    exact ma_nil
    exact me_int
    refine mw_or1 ?_
    refine mt_cmp opp_lt ?_ ?_ (by first | exact nomark _ | with_unfolding_all rfl)
    refine me_callB cr_len rfl hy.g_len bt_len ?_
    refine ma_cons ?_ ?_
    exact me_var (pv 1)
    exact ma_nil
    refine me_op opp_add ?_ ?_
    exact me_int
    refine me_ixA ?_ ?_
    exact me_var (pv 1)
    exact me_int
    refine mss_cons ?_ ?_
    refine ms_asg ?_ ?_
    refine me_if ?_ ?_ ?_
    refine mt_cmp (opp_eq hu) ?_ ?_ (by first | exact nomark _ | with_unfolding_all rfl)
    refine me_callB cr_len rfl hy.g_len bt_len ?_
    refine ma_cons ?_ ?_
    exact me_var (pv 1)
    exact ma_nil
    exact me_int
    refine me_tup ?_
    refine ma_cons ?_ ?_
    exact me_int
    refine ma_cons ?_ ?_
    exact me_int
    exact ma_nil
    refine me_tup ?_
    refine ma_cons ?_ ?_
    exact me_int
    refine ma_cons ?_ ?_
    exact me_int
    exact ma_nil
    refine mg_tup rfl ?_
    refine mgs_cons ?_ ?_
    exact mg_name (pg_name sc_law_decode.nd (i := 3) rfl (by first | exact .inl rfl | exact .inr rfl))
    refine mgs_cons ?_ ?_
    exact mg_name (pg_name sc_law_decode.nd (i := 4) rfl (by first | exact .inl rfl | exact .inr rfl))
    exact mgs_nil
    refine mss_cons ?_ ?_
    refine ms_if ?_ ?_ ?_
    refine mw_pt ?_
    refine mw_or ?_ ?_
    refine mt_cmp opp_ge ?_ ?_ (by first | exact nomark _ | with_unfolding_all rfl)
    exact me_var (pv 2)
    refine me_callB cr_len rfl hy.g_len bt_len ?_
    refine ma_cons ?_ ?_
    exact me_var (pv 0)
    exact ma_nil
    refine mw_or1 ?_
    refine mt_not ?_
    refine mt_chain opp_le opp_le ?_ ?_ ?_
    refine me_op opp_fdiv ?_ ?_
    exact me_var (pv 3)
    exact me_int
    refine me_ixA ?_ ?_
    exact me_var (pv 0)
    exact me_var (pv 2)
    refine me_op opp_fdiv ?_ ?_
    exact me_var (pv 4)
    exact me_int
    refine mss_one ?_
    refine ms_ret ?_
    exact me_var (pv 2)
    exact mss_nil
    refine mss_cons ?_ ?_
    refine ms_if ?_ ?_ ?_
    refine mw_pt ?_
    refine mw_or ?_ ?_
    refine mt_cmp opp_ge ?_ ?_ (by first | exact nomark _ | with_unfolding_all rfl)
    refine me_op opp_add ?_ ?_
    exact me_var (pv 2)
    exact me_int
    refine me_callB cr_len rfl hy.g_len bt_len ?_
    refine ma_cons ?_ ?_
    exact me_var (pv 0)
    exact ma_nil
    refine mw_or1 ?_
    refine mt_not ?_
    refine mt_chain opp_le opp_le ?_ ?_ ?_
    exact me_var (pv 3)
    refine me_op opp_add ?_ ?_
    refine me_op opp_mulA ?_ ?_
    exact me_int
    refine me_ixA ?_ ?_
    exact me_var (pv 0)
    exact me_var (pv 2)
    refine me_ixA ?_ ?_
    exact me_var (pv 0)
    refine me_op opp_add ?_ ?_
    exact me_var (pv 2)
    exact me_int
    exact me_var (pv 4)
    refine mss_one ?_
    refine ms_ret ?_
    refine me_op opp_add ?_ ?_
    exact me_var (pv 2)
    exact me_int
    exact mss_nil
    refine mss_cons ?_ ?_
    refine ms_expr ?_
    refine me_bmL PySem.F.slot_list_append PySem.F.type_list_append mt_app ?_ ?_
    exact me_var (pv 1)
    refine ma_cons ?_ ?_
    refine me_op opp_add ?_ ?_
    refine me_op opp_mulA ?_ ?_
    exact me_int
    refine me_ixA ?_ ?_
    exact me_var (pv 0)
    exact me_var (pv 2)
    refine me_ixA ?_ ?_
    exact me_var (pv 0)
    refine me_op opp_add ?_ ?_
    exact me_var (pv 2)
    exact me_int
    exact ma_nil
    refine mss_one ?_
    refine ms_asg ?_ ?_
    refine me_op opp_add ?_ ?_
    exact me_var (pv 2)
    exact me_int
    exact mg_name (pg_name sc_law_decode.nd (i := 2) rfl (by first | exact .inl rfl | exact .inr rfl))
    refine mss_cons ?_ ?_
    refine ms_if ?_ ?_ ?_
    refine mt_cmp opp_lt ?_ ?_ (by first | exact nomark _ | with_unfolding_all rfl)
    exact me_var (pv 2)
    refine me_callB cr_len rfl hy.g_len bt_len ?_
    refine ma_cons ?_ ?_
    exact me_var (pv 0)
    exact ma_nil
    refine mss_one ?_
    refine ms_ret ?_
    exact me_var (pv 2)
    exact mss_nil
    refine mss_cons ?_ ?_
    refine ms_asg ?_ ?_
    refine me_sl ?_ ?_ ?_
    exact me_var (pv 1)
    exact mp_no
    refine mp_at ?_
    exact me_int
    refine mg_any rfl ?_
    refine mgs_cons ?_ ?_
    exact mg_name (pg_name sc_law_decode.nd (i := 5) rfl (by first | exact .inl rfl | exact .inr rfl))
    refine mgs_cons ?_ ?_
    exact mg_name (pg_name sc_law_decode.nd (i := 6) rfl (by first | exact .inl rfl | exact .inr rfl))
    refine mgs_cons ?_ ?_
    exact mg_name (pg_name sc_law_decode.nd (i := 7) rfl (by first | exact .inl rfl | exact .inr rfl))
    refine mgs_cons ?_ ?_
    exact mg_name (pg_name sc_law_decode.nd (i := 8) rfl (by first | exact .inl rfl | exact .inr rfl))
    refine mgs_cons ?_ ?_
    exact mg_name (pg_name sc_law_decode.nd (i := 9) rfl (by first | exact .inl rfl | exact .inr rfl))
    exact mgs_nil
    refine mss_one ?_
    refine ms_ret ?_
    refine me_tup ?_
    refine ma_cons ?_ ?_
    refine me_callTy cr_tup rfl hy.g_tuple bt_tuple ?_
    refine ma_cons ?_ ?_
    refine me_sl ?_ ?_ ?_
    exact me_var (pv 1)
    refine mp_at ?_
    exact me_int
    exact mp_no
    exact ma_nil
    refine ma_cons ?_ ?_
    exact me_var (pv 5)
    refine ma_cons ?_ ?_
    exact me_var (pv 6)
    refine ma_cons ?_ ?_
    refine me_ixA ?_ ?_
    exact me_var (pv 0)
    exact me_int
    refine ma_cons ?_ ?_
    exact me_var (pv 7)
    refine ma_cons ?_ ?_
    exact me_var (pv 8)
    refine ma_cons ?_ ?_
    exact me_var (pv 9)
    exact ma_nil)
  exact h
theorem cal_law_decode (hy : Hy K mg) : Cal P w K mg base 1 "_law_decode" (m_law_decode K) [] := by
  obtain ⟨fd, F⟩ := hy.f_law_decode
  exact cal_mk F rfl lenOk_mk (ok_law_decode hy F) hy.g_law_decode (F.bindsN fun _ _ _ _ _ _ us hl => match us, hl with | [_], _ => rfl)
/-! _law_hex -/
def b_law_hex (K : PySem.W.Frag) : Sm :=
    (sSeq (sAsg (eC (.str "0123456789abcdef")) (gN 1))
    (sRet (eMb isStr gJoin (eC (.str "")) (aCons (eLc 3 [2] (iAny (eVar 0)) (gN 2) tYesM (eOp opAdd (eOp opIxA (eVar 1) (eOp opFdiv (eVar 2) (eC (.int 16)))) (eOp opIxA (eVar 1) (eOp opMod (eCall cInt (aCons (eVar 2) aNil)) (eC (.int 16)))))) aNil))))
def m_law_hex (K : PySem.W.Frag) : M1.Fn := mkFn 1 3 (b_law_hex K)
theorem sc_law_hex : FnScope ["_law_values", "_law_digits", "_law_value_here"] ["_law_values"] (defScope st_law_hex) := ⟨rfl, rfl, rfl, by decide +kernel, rfl, by decide +kernel, by decide +kernel⟩
theorem ok_law_hex (hy : Hy K mg) {f : Addr} {fd : FuncData} (F : FunD K "_law_hex" "_law_hex" (defArgs st_law_hex) (defBody st_law_hex) (defScope st_law_hex) [] [] f fd) : FnOk P w K mg base (L2.CX P w) 1 f fd ["_law_values"] (spM K 1 (m_law_hex K)) := by
  have h := fn_mk (P := P) (w := w) (mg := mg) (base := base) (k := 0) (b := b_law_hex K) F sc_law_hex (fun cdv A outer s H E hr => by
    have hu := hr.units
    refine mss_cons ?_ ?_
    refine ms_asg ?_ ?_
    exact me_str
    exact mg_name (pg_name sc_law_hex.nd (i := 1) rfl (by first | exact .inl rfl | exact .inr rfl))
    refine mss_one ?_
    refine ms_ret ?_
    refine me_join ?_ ?_
    exact me_str
    refine me_lc rfl rfl tk0 rfl sc_law_hex.nd rfl ?_ (own := [("_law_value_here", 2)]) (blkOk_by (by kernel_rfl)) ?_ ?_ ?_
    refine mi_any ?_
    exact me_var (pv 0)
    intro s H C cl fp xe
    exact mc_name (pg_name sc_law_hex.nd (i := 2) rfl (by first | exact .inl rfl | exact .inr rfl)) (by decide)
    intro s H C cl fp xe Wb tb
    exact mts_nil
    intro s H C cl fp xe Wb tb
    refine me_op opp_add ?_ ?_
    refine me_ixA ?_ ?_
    exact me_var (pv 1)
    refine me_op opp_fdiv ?_ ?_
    exact me_var (pv 2)
    exact me_int
    refine me_ixA ?_ ?_
    exact me_var (pv 1)
    refine me_op opp_mod ?_ ?_
    refine me_callTy cr_int rfl hy.g_int bt_int ?_
    refine ma_cons ?_ ?_
    exact me_var (pv 2)
    exact ma_nil
    exact me_int)
  exact h
theorem cal_law_hex (hy : Hy K mg) : Cal P w K mg base 1 "_law_hex" (m_law_hex K) [] := by
  obtain ⟨fd, F⟩ := hy.f_law_hex
  exact cal_mk F rfl lenOk_mk (ok_law_hex hy F) hy.g_law_hex (F.bindsN fun _ _ _ _ _ _ us hl => match us, hl with | [_], _ => rfl)
/-! _law_changed -/
def b_law_changed (K : PySem.W.Frag) : Sm :=
    (sSeq (sPar2 2 3 (aCons (eOp opMod (eVar 1) (eCall cLen (aCons (eVar 0) aNil))) (aCons (eOp opMod (eOp opFdiv (eVar 1) (eC (.int 4096))) (eC (.int 4))) aNil)))
    (sSeq (sAsg (eOp opFdiv (eVar 1) (eC (.int 16384))) (gN 4))
    (sSeq (sAsg (eIf (tBl (eOp opEq (eOp opMod (eCall cInt (aCons (eVar 1) aNil)) (eC (.int 3))) (eC (.int 0)))) (eOp opMod (eCall cInt (aCons (eVar 2) aNil)) (eC (.int 15))) (eVar 2)) (gN 2))
    (sSeq (sIf (tBl (eOp opEq (eVar 3) (eC (.int 0)))) (sRet (eSl (eVar 0) pNo (pAt (eVar 2)))) sNil)
    (sSeq (sIf (tBl (eOp opEq (eVar 3) (eC (.int 1)))) (sRet (eOp opAdd (eVar 0) (eLst (aCons (eOp opMod (eVar 4) (eC (.int 256))) aNil)))) sNil)
    (sSeq (sAsg (eOp opIxA (eTup (aCons (eC (.int 0)) (aCons (eC (.int 1)) (aCons (eC (.int 2)) (aCons (eC (.int 15)) (aCons (eC (.int 16)) (aCons (eC (.int 39)) (aCons (eC (.int 15)) (aCons (eC (.int 160)) aNil))))))))) (eOp opMod (eVar 4) (eC (.int 8)))) (gN 5))
    (sRet (eOp opAdd (eOp opAdd (eSl (eVar 0) pNo (pAt (eVar 2))) (eLst (aCons (eIf (tBl (eOp opEq (eVar 3) (eC (.int 2)))) (eOp opMod (eVar 4) (eC (.int 256))) (eVar 5)) aNil))) (eSl (eVar 0) (pAt (eOp opAdd (eVar 2) (eC (.int 1)))) pNo)))))))))
def m_law_changed (K : PySem.W.Frag) : M1.Fn := mkFn 2 6 (b_law_changed K)
theorem sc_law_changed : FnScope ["_law_values", "_law_seed", "_law_position", "_law_choice", "_law_rest", "_law_boundary"] ["_law_values", "_law_seed"] (defScope st_law_changed) := ⟨rfl, rfl, rfl, by decide +kernel, rfl, by decide +kernel, by decide +kernel⟩
theorem ok_law_changed (hy : Hy K mg) {f : Addr} {fd : FuncData} (F : FunD K "_law_changed" "_law_changed" (defArgs st_law_changed) (defBody st_law_changed) (defScope st_law_changed) [] [] f fd) : FnOk P w K mg base (L2.CX P w) 1 f fd ["_law_values", "_law_seed"] (spM K 2 (m_law_changed K)) := by
  have h := fn_mk (P := P) (w := w) (mg := mg) (base := base) (k := 0) (b := b_law_changed K) F sc_law_changed (fun cdv A outer s H E hr => by
    have hu := hr.units
    refine mss_cons ?_ ?_
    refine ms_par2 rfl sc_law_changed.nd (i := 2) (j := 3) rfl rfl (by decide) rfl rfl ?_ (by rfl)
    refine ma_cons ?_ ?_
    refine me_op opp_mod ?_ ?_
    exact me_var (pv 1)
    refine me_callB cr_len rfl hy.g_len bt_len ?_
    refine ma_cons ?_ ?_
    exact me_var (pv 0)
    exact ma_nil
    refine ma_cons ?_ ?_
    refine me_op opp_mod ?_ ?_
    refine me_op opp_fdiv ?_ ?_
    exact me_var (pv 1)
    exact me_int
    exact me_int
    exact ma_nil
    refine mss_cons ?_ ?_
    refine ms_asg ?_ ?_
    refine me_op opp_fdiv ?_ ?_
    exact me_var (pv 1)
    exact me_int
    exact mg_name (pg_name sc_law_changed.nd (i := 4) rfl (by first | exact .inl rfl | exact .inr rfl))
    refine mss_cons ?_ ?_
    refine ms_asg ?_ ?_
    refine me_if ?_ ?_ ?_
    refine mt_cmp (opp_eq hu) ?_ ?_ (by first | exact nomark _ | with_unfolding_all rfl)
    refine me_op opp_mod ?_ ?_
    refine me_callTy cr_int rfl hy.g_int bt_int ?_
    refine ma_cons ?_ ?_
    exact me_var (pv 1)
    exact ma_nil
    exact me_int
    exact me_int
    refine me_op opp_mod ?_ ?_
    refine me_callTy cr_int rfl hy.g_int bt_int ?_
    refine ma_cons ?_ ?_
    exact me_var (pv 2)
    exact ma_nil
    exact me_int
    exact me_var (pv 2)
    exact mg_name (pg_name sc_law_changed.nd (i := 2) rfl (by first | exact .inl rfl | exact .inr rfl))
    refine mss_cons ?_ ?_
    refine ms_if ?_ ?_ ?_
    refine mt_cmp (opp_eq hu) ?_ ?_ (by first | exact nomark _ | with_unfolding_all rfl)
    exact me_var (pv 3)
    exact me_int
    refine mss_one ?_
    refine ms_ret ?_
    refine me_sl ?_ ?_ ?_
    exact me_var (pv 0)
    exact mp_no
    refine mp_at ?_
    exact me_var (pv 2)
    exact mss_nil
    refine mss_cons ?_ ?_
    refine ms_if ?_ ?_ ?_
    refine mt_cmp (opp_eq hu) ?_ ?_ (by first | exact nomark _ | with_unfolding_all rfl)
    exact me_var (pv 3)
    exact me_int
    refine mss_one ?_
    refine ms_ret ?_
    refine me_op opp_add ?_ ?_
    exact me_var (pv 0)
    refine me_lst ?_
    refine ma_cons ?_ ?_
    refine me_op opp_mod ?_ ?_
    exact me_var (pv 4)
    exact me_int
    exact ma_nil
    exact mss_nil
    refine mss_cons ?_ ?_
    refine ms_asg ?_ ?_
    refine me_ixA ?_ ?_
    refine me_tup ?_
    refine ma_cons ?_ ?_
    exact me_int
    refine ma_cons ?_ ?_
    exact me_int
    refine ma_cons ?_ ?_
    exact me_int
    refine ma_cons ?_ ?_
    exact me_int
    refine ma_cons ?_ ?_
    exact me_int
    refine ma_cons ?_ ?_
    exact me_int
    refine ma_cons ?_ ?_
    exact me_int
    refine ma_cons ?_ ?_
    exact me_int
    exact ma_nil
    refine me_op opp_mod ?_ ?_
    exact me_var (pv 4)
    exact me_int
    exact mg_name (pg_name sc_law_changed.nd (i := 5) rfl (by first | exact .inl rfl | exact .inr rfl))
    refine mss_one ?_
    refine ms_ret ?_
    refine me_op opp_add ?_ ?_
    refine me_op opp_add ?_ ?_
    refine me_sl ?_ ?_ ?_
    exact me_var (pv 0)
    exact mp_no
    refine mp_at ?_
    exact me_var (pv 2)
    refine me_lst ?_
    refine ma_cons ?_ ?_
    refine me_if ?_ ?_ ?_
    refine mt_cmp (opp_eq hu) ?_ ?_ (by first | exact nomark _ | with_unfolding_all rfl)
    exact me_var (pv 3)
    exact me_int
    refine me_op opp_mod ?_ ?_
    exact me_var (pv 4)
    exact me_int
    exact me_var (pv 5)
    exact ma_nil
    refine me_sl ?_ ?_ ?_
    exact me_var (pv 0)
    refine mp_at ?_
    refine me_op opp_add ?_ ?_
    exact me_var (pv 2)
    exact me_int
    exact mp_no)
  exact h
theorem cal_law_changed (hy : Hy K mg) : Cal P w K mg base 1 "_law_changed" (m_law_changed K) [] := by
  obtain ⟨fd, F⟩ := hy.f_law_changed
  exact cal_mk F rfl lenOk_mk (ok_law_changed hy F) hy.g_law_changed (F.bindsN fun _ _ _ _ _ _ us hl => match us, hl with | [_, _], _ => rfl)
/-! is_word -/
def b_is_word (K : PySem.W.Frag) : Sm :=
    (sRet (eF (m_is_integer K) [] (aCons (eVar 0) (aCons (eC (.int 0)) (aCons (eOp opSub (eC (.int 10000)) (eC (.int 1))) aNil)))))
def m_is_word (K : PySem.W.Frag) : M1.Fn := mkFn 1 1 (b_is_word K)
theorem sc_is_word : FnScope ["value"] ["value"] (defScope st_is_word) := ⟨rfl, rfl, rfl, by decide +kernel, rfl, by decide +kernel, by decide +kernel⟩
theorem ok_is_word (hy : Hy K mg) {f : Addr} {fd : FuncData} (F : FunD K "is_word" "is_word" (defArgs st_is_word) (defBody st_is_word) (defScope st_is_word) [] [] f fd) : FnOk P w K mg base (L2.CX P w) 2 f fd ["value"] (spM K 1 (m_is_word K)) := by
  have h := fn_mk (P := P) (w := w) (mg := mg) (base := base) (k := 1) (b := b_is_word K) F sc_is_word (fun cdv A outer s H E hr => by
    have hu := hr.units
    refine mss_one ?_
    refine ms_ret ?_
    refine me_call (cal_is_integer hy) hr (by decide) tk0 rfl ?_
    refine ma_cons ?_ ?_
    exact me_var (pv 0)
    refine ma_cons ?_ ?_
    exact me_int
    refine ma_cons ?_ ?_
    refine me_op opp_sub ?_ ?_
    exact me_gint rfl hy.g_WORD_LIMIT
    exact me_int
    exact ma_nil)
  exact h
theorem cal_is_word (hy : Hy K mg) : Cal P w K mg base 2 "is_word" (m_is_word K) [] := by
  obtain ⟨fd, F⟩ := hy.f_is_word
  exact cal_mk F rfl lenOk_mk (ok_is_word hy F) hy.g_is_word (F.bindsN fun _ _ _ _ _ _ us hl => match us, hl with | [_], _ => rfl)
/-! _law_value -/
def b_law_value (K : PySem.W.Frag) : Sm :=
    (sRet (eF (m_law_mix K) [] (aCons (eIf (tBl (eOp opNe (eVar 0) (eLst aNil))) (eVar 0) (eLst (aCons (eC (.int 9)) aNil))) (aCons (eVar 1) aNil))))
def m_law_value (K : PySem.W.Frag) : M1.Fn := mkFn 2 2 (b_law_value K)
theorem sc_law_value : FnScope ["_law_script", "_law_index"] ["_law_script", "_law_index"] (defScope st_law_value) := ⟨rfl, rfl, rfl, by decide +kernel, rfl, by decide +kernel, by decide +kernel⟩
theorem ok_law_value (hy : Hy K mg) {f : Addr} {fd : FuncData} (F : FunD K "_law_value" "_law_value" (defArgs st_law_value) (defBody st_law_value) (defScope st_law_value) [] [] f fd) : FnOk P w K mg base (L2.CX P w) 2 f fd ["_law_script", "_law_index"] (spM K 2 (m_law_value K)) := by
  have h := fn_mk (P := P) (w := w) (mg := mg) (base := base) (k := 1) (b := b_law_value K) F sc_law_value (fun cdv A outer s H E hr => by
    have hu := hr.units
    refine mss_one ?_
    refine ms_ret ?_
    refine me_call (cal_law_mix hy) hr (by decide) tk0 rfl ?_
    refine ma_cons ?_ ?_
    refine me_if ?_ ?_ ?_
    refine mt_cmp (opp_ne hu) ?_ ?_ (by first | exact nomark _ | with_unfolding_all rfl)
    exact me_var (pv 0)
    refine me_lst ?_
    exact ma_nil
    exact me_var (pv 0)
    refine me_lst ?_
    refine ma_cons ?_ ?_
    exact me_int
    exact ma_nil
    refine ma_cons ?_ ?_
    exact me_var (pv 1)
    exact ma_nil)
  exact h
theorem cal_law_value (hy : Hy K mg) : Cal P w K mg base 2 "_law_value" (m_law_value K) [] := by
  obtain ⟨fd, F⟩ := hy.f_law_value
  exact cal_mk F rfl lenOk_mk (ok_law_value hy F) hy.g_law_value (F.bindsN fun _ _ _ _ _ _ us hl => match us, hl with | [_, _], _ => rfl)
/-! _law_custom_instruction -/
def b_law_custom_instruction (K : PySem.W.Frag) : Sm :=
    (sSeq (sPar2 1 2 (aCons (eF (m_law_moves K) [] (aCons (eOp opFdiv (eVar 0) (eC (.int 40))) (aCons (eOp opAdd (eC (.int 1)) (eOp opMod (eVar 0) (eC (.int 3)))) aNil))) (aCons (eOp opMod (eOp opFdiv (eVar 0) (eC (.int 3))) (eC (.int 10))) aNil)))
    (sSeq (sIf (tBl (eOp opLt (eVar 2) (eC (.int 5)))) (sRet (eTup (aCons (eVar 1) (aCons (eC (.str "traps")) aNil)))) sNil)
    (sSeq (sIf (tBl (eOp opLt (eVar 2) (eC (.int 7)))) (sRet (eTup (aCons (eVar 1) (aCons (eVar 1) aNil)))) sNil)
    (sSeq (sIf (tBl (eOp opEq (eVar 2) (eC (.int 7)))) (sRet (eTup (aCons (eTup (aCons (eTup (aCons (eC (.str "acc")) (aCons (eC (.str "acc")) aNil))) aNil)) (aCons (eOp opIxA (eTup (aCons (eTup aNil) (aCons (eTup (aCons (eTup (aCons (eC (.str "timer")) (aCons (eC (.str "timer")) aNil))) aNil)) (aCons (eTup (aCons (eTup (aCons (eC (.str "mode")) (aCons (eC (.str "bound")) aNil))) aNil)) aNil)))) (eOp opMod (eOp opFdiv (eVar 0) (eC (.int 30))) (eC (.int 3)))) aNil)))) sNil)
    (sRet (eTup (aCons (eVar 1) (aCons (eF (m_law_moves K) [] (aCons (eOp opFdiv (eVar 0) (eC (.int 5000))) (aCons (eOp opMod (eOp opFdiv (eVar 0) (eC (.int 30))) (eC (.int 3))) aNil))) aNil))))))))
def m_law_custom_instruction (K : PySem.W.Frag) : M1.Fn := mkFn 1 3 (b_law_custom_instruction K)
theorem sc_law_custom_instruction : FnScope ["_law_seed", "_law_moves_here", "_law_choice"] ["_law_seed"] (defScope st_law_custom_instruction) := ⟨rfl, rfl, rfl, by decide +kernel, rfl, by decide +kernel, by decide +kernel⟩
theorem ok_law_custom_instruction (hy : Hy K mg) {f : Addr} {fd : FuncData} (F : FunD K "_law_custom_instruction" "_law_custom_instruction" (defArgs st_law_custom_instruction) (defBody st_law_custom_instruction) (defScope st_law_custom_instruction) [] [] f fd) : FnOk P w K mg base (L2.CX P w) 2 f fd ["_law_seed"] (spM K 1 (m_law_custom_instruction K)) := by
  have h := fn_mk (P := P) (w := w) (mg := mg) (base := base) (k := 1) (b := b_law_custom_instruction K) F sc_law_custom_instruction (fun cdv A outer s H E hr => by
    have hu := hr.units
    refine mss_cons ?_ ?_
    refine ms_par2 rfl sc_law_custom_instruction.nd (i := 1) (j := 2) rfl rfl (by decide) rfl rfl ?_ (by rfl)
    refine ma_cons ?_ ?_
    refine me_call (cal_law_moves hy) hr (by decide) tk0 rfl ?_
    refine ma_cons ?_ ?_
    refine me_op opp_fdiv ?_ ?_
    exact me_var (pv 0)
    exact me_int
    refine ma_cons ?_ ?_
    refine me_op opp_add ?_ ?_
    exact me_int
    refine me_op opp_mod ?_ ?_
    exact me_var (pv 0)
    exact me_int
    exact ma_nil
    refine ma_cons ?_ ?_
    refine me_op opp_mod ?_ ?_
    refine me_op opp_fdiv ?_ ?_
    exact me_var (pv 0)
    exact me_int
    exact me_int
    exact ma_nil
    refine mss_cons ?_ ?_
    refine ms_if ?_ ?_ ?_
    refine mt_cmp opp_lt ?_ ?_ (by first | exact nomark _ | with_unfolding_all rfl)
    exact me_var (pv 2)
    exact me_int
    refine mss_one ?_
    refine ms_ret ?_
    refine me_tup ?_
    refine ma_cons ?_ ?_
    exact me_var (pv 1)
    refine ma_cons ?_ ?_
    exact me_str
    exact ma_nil
    exact mss_nil
    refine mss_cons ?_ ?_
    refine ms_if ?_ ?_ ?_
    refine mt_cmp opp_lt ?_ ?_ (by first | exact nomark _ | with_unfolding_all rfl)
    exact me_var (pv 2)
    exact me_int
    refine mss_one ?_
    refine ms_ret ?_
    refine me_tup ?_
    refine ma_cons ?_ ?_
    exact me_var (pv 1)
    refine ma_cons ?_ ?_
    exact me_var (pv 1)
    exact ma_nil
    exact mss_nil
    refine mss_cons ?_ ?_
    refine ms_if ?_ ?_ ?_
    refine mt_cmp (opp_eq hu) ?_ ?_ (by first | exact nomark _ | with_unfolding_all rfl)
    exact me_var (pv 2)
    exact me_int
    refine mss_one ?_
    refine ms_ret ?_
    refine me_tup ?_
    refine ma_cons ?_ ?_
    refine me_tup ?_
    refine ma_cons ?_ ?_
    refine me_tup ?_
    refine ma_cons ?_ ?_
    exact me_str
    refine ma_cons ?_ ?_
    exact me_str
    exact ma_nil
    exact ma_nil
    refine ma_cons ?_ ?_
    refine me_ixA ?_ ?_
    refine me_tup ?_
    refine ma_cons ?_ ?_
    refine me_tup ?_
    exact ma_nil
    refine ma_cons ?_ ?_
    refine me_tup ?_
    refine ma_cons ?_ ?_
    refine me_tup ?_
    refine ma_cons ?_ ?_
    exact me_str
    refine ma_cons ?_ ?_
    exact me_str
    exact ma_nil
    exact ma_nil
    refine ma_cons ?_ ?_
    refine me_tup ?_
    refine ma_cons ?_ ?_
    refine me_tup ?_
    refine ma_cons ?_ ?_
    exact me_str
    refine ma_cons ?_ ?_
    exact me_str
    exact ma_nil
    exact ma_nil
    exact ma_nil
    refine me_op opp_mod ?_ ?_
    refine me_op opp_fdiv ?_ ?_
    exact me_var (pv 0)
    exact me_int
    exact me_int
    exact ma_nil
    exact mss_nil
    refine mss_one ?_
    refine ms_ret ?_
    refine me_tup ?_
    refine ma_cons ?_ ?_
    exact me_var (pv 1)
    refine ma_cons ?_ ?_
    refine me_call (cal_law_moves hy) hr (by decide) tk0 rfl ?_
    refine ma_cons ?_ ?_
    refine me_op opp_fdiv ?_ ?_
    exact me_var (pv 0)
    exact me_int
    refine ma_cons ?_ ?_
    refine me_op opp_mod ?_ ?_
    refine me_op opp_fdiv ?_ ?_
    exact me_var (pv 0)
    exact me_int
    exact me_int
    exact ma_nil
    exact ma_nil)
  exact h
theorem cal_law_custom_instruction (hy : Hy K mg) : Cal P w K mg base 2 "_law_custom_instruction" (m_law_custom_instruction K) [] := by
  obtain ⟨fd, F⟩ := hy.f_law_custom_instruction
  exact cal_mk F rfl lenOk_mk (ok_law_custom_instruction hy F) hy.g_law_custom_instruction (F.bindsN fun _ _ _ _ _ _ us hl => match us, hl with | [_], _ => rfl)
/-! is_words -/
def b_is_words (K : PySem.W.Frag) : Sm :=
    (sRet (eAnd (eCall cIsi (aCons (eVar 0) (aCons (eC (.ty "tuple")) aNil))) (eCall cAll (aCons (eLc 2 [1] (iAny (eVar 0)) (gN 1) tYesM (eF (m_is_word K) [] (aCons (eVar 1) aNil))) aNil))))
def m_is_words (K : PySem.W.Frag) : M1.Fn := mkFn 1 2 (b_is_words K)
theorem sc_is_words : FnScope ["value", "item"] ["value"] (defScope st_is_words) := ⟨rfl, rfl, rfl, by decide +kernel, rfl, by decide +kernel, by decide +kernel⟩
theorem ok_is_words (hy : Hy K mg) {f : Addr} {fd : FuncData} (F : FunD K "is_words" "is_words" (defArgs st_is_words) (defBody st_is_words) (defScope st_is_words) [] [] f fd) : FnOk P w K mg base (L2.CX P w) 3 f fd ["value"] (spM K 1 (m_is_words K)) := by
  have h := fn_mk (P := P) (w := w) (mg := mg) (base := base) (k := 2) (b := b_is_words K) F sc_is_words (fun cdv A outer s H E hr => by
    have hu := hr.units
    refine mss_one ?_
    refine ms_ret ?_
    refine me_and ?_ ?_
    refine me_callB cr_isi rfl hy.g_isinstance bt_isinstance ?_
    refine ma_cons ?_ ?_
    exact me_var (pv 0)
    refine ma_cons ?_ ?_
    exact me_ty rfl hy.g_tuple bt_tuple
    exact ma_nil
    refine me_one ?_
    refine me_callB (cr_allM rfl) rfl hy.g_all bt_all ?_
    refine ma_cons ?_ ?_
    refine me_lc rfl rfl tk0 rfl sc_is_words.nd rfl ?_ (own := [("item", 1)]) (blkOk_by (by kernel_rfl)) ?_ ?_ ?_
    refine mi_any ?_
    exact me_var (pv 0)
    intro s H C cl fp xe
    exact mc_name (pg_name sc_is_words.nd (i := 1) rfl (by first | exact .inl rfl | exact .inr rfl)) (by decide)
    intro s H C cl fp xe Wb tb
    exact mts_nil
    intro s H C cl fp xe Wb tb
    refine me_call (cal_is_word hy) hr (by decide) tb rfl ?_
    refine ma_cons ?_ ?_
    exact me_var (pv 1)
    exact ma_nil
    exact ma_nil)
  exact h
theorem cal_is_words (hy : Hy K mg) : Cal P w K mg base 3 "is_words" (m_is_words K) [] := by
  obtain ⟨fd, F⟩ := hy.f_is_words
  exact cal_mk F rfl lenOk_mk (ok_is_words hy F) hy.g_is_words (F.bindsN fun _ _ _ _ _ _ us hl => match us, hl with | [_], _ => rfl)
/-! _law_machine -/
def b_law_machine (K : PySem.W.Frag) : Sm :=
    (sSeq (sAsg (eF (m_law_value K) [] (aCons (eVar 0) (aCons (eVar 1) aNil))) (gN 2))
    (sSeq (sAsg (eLc 5 [4] (iRng1 (aCons (eOp opMod (eVar 2) (eC (.int 5))) aNil)) (gN 4) tYesM (eF (m_law_custom_instruction K) [] (aCons (eF (m_law_value K) [] (aCons (eVar 0) (aCons (eOp opAdd (eOp opAdd (eVar 1) (eC (.int 1))) (eVar 4)) aNil))) aNil))) (gN 3))
    (sRet (eTup (aCons (eCall cTup (aCons (eVar 3) aNil)) (aCons (eOp opEq (eOp opMod (eOp opFdiv (eVar 2) (eC (.int 5))) (eC (.int 2))) (eC (.int 0))) (aCons (eOp opEq (eOp opMod (eOp opFdiv (eVar 2) (eC (.int 10))) (eC (.int 2))) (eC (.int 0))) aNil)))))))
def m_law_machine (K : PySem.W.Frag) : M1.Fn := mkFn 2 5 (b_law_machine K)
theorem sc_law_machine : FnScope ["_law_script", "_law_index", "_law_seed", "_law_custom", "_law_number"] ["_law_script", "_law_index"] (defScope st_law_machine) := ⟨rfl, rfl, rfl, by decide +kernel, rfl, by decide +kernel, by decide +kernel⟩
theorem ok_law_machine (hy : Hy K mg) {f : Addr} {fd : FuncData} (F : FunD K "_law_machine" "_law_machine" (defArgs st_law_machine) (defBody st_law_machine) (defScope st_law_machine) [] [] f fd) : FnOk P w K mg base (L2.CX P w) 3 f fd ["_law_script", "_law_index"] (spM K 2 (m_law_machine K)) := by
  have h := fn_mk (P := P) (w := w) (mg := mg) (base := base) (k := 2) (b := b_law_machine K) F sc_law_machine (fun cdv A outer s H E hr => by
    have hu := hr.units
    refine mss_cons ?_ ?_
    refine ms_asg ?_ ?_
    refine me_call (cal_law_value hy) hr (by decide) tk0 rfl ?_
    refine ma_cons ?_ ?_
    exact me_var (pv 0)
    refine ma_cons ?_ ?_
    exact me_var (pv 1)
    exact ma_nil
    exact mg_name (pg_name sc_law_machine.nd (i := 2) rfl (by first | exact .inl rfl | exact .inr rfl))
    refine mss_cons ?_ ?_
    refine ms_lc rfl rfl tk0 rfl sc_law_machine.nd rfl (i := 3) rfl rfl (sw_true rfl rfl rfl (by kernel_rfl)) ?_ (own := [("_law_number", 4)]) (blkOk_by (by kernel_rfl)) ?_ ?_ ?_
    refine mi_rng1 rfl hy.g_range ?_
    refine ma_cons ?_ ?_
    refine me_op opp_mod ?_ ?_
    exact me_var (pv 2)
    exact me_int
    exact ma_nil
    intro s H C cl fp xe
    exact mc_name (pg_name sc_law_machine.nd (i := 4) rfl (by first | exact .inl rfl | exact .inr rfl)) (by decide)
    intro s H C cl fp xe Wb tb
    exact mts_nil
    intro s H C cl fp xe Wb tb
    refine me_call (cal_law_custom_instruction hy) hr (by decide) tb rfl ?_
    refine ma_cons ?_ ?_
    refine me_call (cal_law_value hy) hr (by decide) tb rfl ?_
    refine ma_cons ?_ ?_
    exact me_var (pv 0)
    refine ma_cons ?_ ?_
    refine me_op opp_add ?_ ?_
    refine me_op opp_add ?_ ?_
    exact me_var (pv 1)
    exact me_int
    exact me_var (pv 4)
    exact ma_nil
    exact ma_nil
    refine mss_one ?_
    refine ms_ret ?_
    refine me_tup ?_
    refine ma_cons ?_ ?_
    refine me_callTy cr_tup rfl hy.g_tuple bt_tuple ?_
    refine ma_cons ?_ ?_
    exact me_var (pv 3)
    exact ma_nil
    refine ma_cons ?_ ?_
    refine me_cmp (opp_eq hu) ?_ ?_ (by first | exact nomark _ | with_unfolding_all rfl)
    refine me_op opp_mod ?_ ?_
    refine me_op opp_fdiv ?_ ?_
    exact me_var (pv 2)
    exact me_int
    exact me_int
    exact me_int
    refine ma_cons ?_ ?_
    refine me_cmp (opp_eq hu) ?_ ?_ (by first | exact nomark _ | with_unfolding_all rfl)
    refine me_op opp_mod ?_ ?_
    refine me_op opp_fdiv ?_ ?_
    exact me_var (pv 2)
    exact me_int
    exact me_int
    exact me_int
    exact ma_nil)
  exact h
theorem cal_law_machine (hy : Hy K mg) : Cal P w K mg base 3 "_law_machine" (m_law_machine K) [] := by
  obtain ⟨fd, F⟩ := hy.f_law_machine
  exact cal_mk F rfl lenOk_mk (ok_law_machine hy F) hy.g_law_machine (F.bindsN fun _ _ _ _ _ _ us hl => match us, hl with | [_, _], _ => rfl)
/-! _law_state -/
def b_law_state (K : PySem.W.Frag) : Sm :=
    (sSeq (sAsg (eLst aNil) (gN 4))
    (sSeq (sFor (iRng1 (aCons (eOp opFdiv (eVar 3) (eC (.int 2))) aNil)) (gN 5) (sAsg (eOp opAdd (eVar 4) (eF (m_law_instruction K) [] (aCons (eF (m_law_value K) [] (aCons (eVar 0) (aCons (eOp opAdd (eOp opAdd (eVar 1) (eC (.int 6))) (eVar 5)) aNil))) (aCons (eVar 3) (aCons (eOp opAdd (eC (.int 15)) (eCall cLen (aCons (eOp opIxA (eVar 2) (eC (.int 0))) aNil))) aNil))))) (gN 4)))
    (sSeq (sAsg (eOp opAdd (eVar 4) (eOp opMulA (eLst (aCons (eC (.int 3)) aNil)) (eOp opSub (eVar 3) (eCall cLen (aCons (eVar 4) aNil))))) (gN 4))
    (sSeq (sAsg (eF (m_law_value K) [] (aCons (eVar 0) (aCons (eVar 1) aNil))) (gN 6))
    (sSeq (sAsgX (eOp opMulA (eC (.int 2)) (eOp opMod (eVar 6) (eC (.int 9)))) (xSub (eVar 4) (eC (.int 7)) stL))
    (sSeq (sAsg (eOp opIxA (eTup (aCons (eC (.int 0)) (aCons (eC (.int 0)) (aCons (eC (.int 2)) (aCons (eC (.int 5)) (aCons (eOp opSub (eVar 3) (eC (.int 1))) (aCons (eC (.int 9990)) aNil))))))) (eOp opMod (eOp opFdiv (eVar 6) (eC (.int 9))) (eC (.int 6)))) (gN 7))
    (sSeq (sAsg (eOp opIxA (eTup (aCons (eVar 3) (aCons (eVar 3) (aCons (eC (.int 9999)) (aCons (eC (.int 8)) (aCons (eOp opSub (eVar 3) (eC (.int 3))) (aCons (eC (.int 0)) aNil))))))) (eOp opMod (eOp opFdiv (eVar 6) (eC (.int 54))) (eC (.int 6)))) (gN 8))
    (sSeq (sAsg (eOp opIxA (eTup (aCons (eC (.int 0)) (aCons (eC (.int 1)) (aCons (eC (.int 2)) (aCons (eC (.int 9)) (aCons (eC (.int 0)) (aCons (eC (.int 5)) aNil))))))) (eOp opMod (eOp opFdiv (eVar 6) (eC (.int 324))) (eC (.int 6)))) (gN 9))
    (sSeq (sPar2 10 11 (aCons (eOp opMulA (eC (.int 2)) (eOp opMod (eOp opFdiv (eVar 6) (eC (.int 1944))) (eC (.int 7)))) (aCons (eOp opMod (eOp opFdiv (eVar 6) (eC (.int 13608))) (eC (.int 2))) aNil)))
    (sRet (eTup (aCons (eCall cTup (aCons (eVar 4) aNil)) (aCons (eOp opMod (eOp opFdiv (eVar 6) (eC (.int 2000))) (eC (.int 60))) (aCons (eVar 10) (aCons (eVar 11) (aCons (eVar 7) (aCons (eVar 8) (aCons (eVar 9) aNil))))))))))))))))))
def m_law_state (K : PySem.W.Frag) : M1.Fn := mkFn 4 12 (b_law_state K)
theorem sc_law_state : FnScope ["_law_script", "_law_index", "_law_machine_here", "_law_size", "_law_memory", "_law_number", "_law_seed", "_law_base", "_law_bound", "_law_timer", "_law_pc", "_law_mode"] ["_law_script", "_law_index", "_law_machine_here", "_law_size"] (defScope st_law_state) := ⟨rfl, rfl, rfl, by decide +kernel, rfl, by decide +kernel, by decide +kernel⟩
theorem ok_law_state (hy : Hy K mg) {f : Addr} {fd : FuncData} (F : FunD K "_law_state" "_law_state" (defArgs st_law_state) (defBody st_law_state) (defScope st_law_state) [] [] f fd) : FnOk P w K mg base (L2.CX P w) 3 f fd ["_law_script", "_law_index", "_law_machine_here", "_law_size"] (spM K 4 (m_law_state K)) := by
  have h := fn_mk (P := P) (w := w) (mg := mg) (base := base) (k := 2) (b := b_law_state K) F sc_law_state (fun cdv A outer s H E hr => by
    have hu := hr.units
    refine mss_cons ?_ ?_
    refine ms_asg ?_ ?_
    refine me_lst ?_
    exact ma_nil
    exact mg_name (pg_name sc_law_state.nd (i := 4) rfl (by first | exact .inl rfl | exact .inr rfl))
    refine mss_cons ?_ ?_
    refine ms_for hp0 rfl ?_ ?_ ?_
    refine mi_rng1 rfl hy.g_range ?_
    refine ma_cons ?_ ?_
    refine me_op opp_fdiv ?_ ?_
    exact me_var (pv 3)
    exact me_int
    exact ma_nil
    exact mg_name (pg_name sc_law_state.nd (i := 5) rfl (by first | exact .inl rfl | exact .inr rfl))
    refine mss_one ?_
    refine ms_asg ?_ ?_
    refine me_op opp_add ?_ ?_
    exact me_var (pv 4)
    refine me_call (cal_law_instruction hy) hr (by decide) tk0 rfl ?_
    refine ma_cons ?_ ?_
    refine me_call (cal_law_value hy) hr (by decide) tk0 rfl ?_
    refine ma_cons ?_ ?_
    exact me_var (pv 0)
    refine ma_cons ?_ ?_
    refine me_op opp_add ?_ ?_
    refine me_op opp_add ?_ ?_
    exact me_var (pv 1)
    exact me_int
    exact me_var (pv 5)
    exact ma_nil
    refine ma_cons ?_ ?_
    exact me_var (pv 3)
    refine ma_cons ?_ ?_
    refine me_op opp_add ?_ ?_
    exact me_int
    refine me_callB cr_len rfl hy.g_len bt_len ?_
    refine ma_cons ?_ ?_
    refine me_ixA ?_ ?_
    exact me_var (pv 2)
    exact me_int
    exact ma_nil
    exact ma_nil
    exact mg_name (pg_name sc_law_state.nd (i := 4) rfl (by first | exact .inl rfl | exact .inr rfl))
    refine mss_cons ?_ ?_
    refine ms_asg ?_ ?_
    refine me_op opp_add ?_ ?_
    exact me_var (pv 4)
    refine me_op opp_mulA ?_ ?_
    refine me_lst ?_
    refine ma_cons ?_ ?_
    exact me_int
    exact ma_nil
    refine me_op opp_sub ?_ ?_
    exact me_var (pv 3)
    refine me_callB cr_len rfl hy.g_len bt_len ?_
    refine ma_cons ?_ ?_
    exact me_var (pv 4)
    exact ma_nil
    exact mg_name (pg_name sc_law_state.nd (i := 4) rfl (by first | exact .inl rfl | exact .inr rfl))
    refine mss_cons ?_ ?_
    refine ms_asg ?_ ?_
    refine me_call (cal_law_value hy) hr (by decide) tk0 rfl ?_
    refine ma_cons ?_ ?_
    exact me_var (pv 0)
    refine ma_cons ?_ ?_
    exact me_var (pv 1)
    exact ma_nil
    exact mg_name (pg_name sc_law_state.nd (i := 6) rfl (by first | exact .inl rfl | exact .inr rfl))
    refine mss_cons ?_ ?_
    refine ms_asgX ?_ ?_
    refine me_op opp_mulA ?_ ?_
    exact me_int
    refine me_op opp_mod ?_ ?_
    exact me_var (pv 6)
    exact me_int
    refine mx_sub ?_ ?_ set_lst
    exact me_var (pv 4)
    exact me_int
    refine mss_cons ?_ ?_
    refine ms_asg ?_ ?_
    refine me_ixA ?_ ?_
    refine me_tup ?_
    refine ma_cons ?_ ?_
    exact me_int
    refine ma_cons ?_ ?_
    exact me_int
    refine ma_cons ?_ ?_
    exact me_int
    refine ma_cons ?_ ?_
    exact me_int
    refine ma_cons ?_ ?_
    refine me_op opp_sub ?_ ?_
    exact me_var (pv 3)
    exact me_int
    refine ma_cons ?_ ?_
    exact me_int
    exact ma_nil
    refine me_op opp_mod ?_ ?_
    refine me_op opp_fdiv ?_ ?_
    exact me_var (pv 6)
    exact me_int
    exact me_int
    exact mg_name (pg_name sc_law_state.nd (i := 7) rfl (by first | exact .inl rfl | exact .inr rfl))
    refine mss_cons ?_ ?_
    refine ms_asg ?_ ?_
    refine me_ixA ?_ ?_
    refine me_tup ?_
    refine ma_cons ?_ ?_
    exact me_var (pv 3)
    refine ma_cons ?_ ?_
    exact me_var (pv 3)
    refine ma_cons ?_ ?_
    exact me_int
    refine ma_cons ?_ ?_
    exact me_int
    refine ma_cons ?_ ?_
    refine me_op opp_sub ?_ ?_
    exact me_var (pv 3)
    exact me_int
    refine ma_cons ?_ ?_
    exact me_int
    exact ma_nil
    refine me_op opp_mod ?_ ?_
    refine me_op opp_fdiv ?_ ?_
    exact me_var (pv 6)
    exact me_int
    exact me_int
    exact mg_name (pg_name sc_law_state.nd (i := 8) rfl (by first | exact .inl rfl | exact .inr rfl))
    refine mss_cons ?_ ?_
    refine ms_asg ?_ ?_
    refine me_ixA ?_ ?_
    refine me_tup ?_
    refine ma_cons ?_ ?_
    exact me_int
    refine ma_cons ?_ ?_
    exact me_int
    refine ma_cons ?_ ?_
    exact me_int
    refine ma_cons ?_ ?_
    exact me_int
    refine ma_cons ?_ ?_
    exact me_int
    refine ma_cons ?_ ?_
    exact me_int
    exact ma_nil
    refine me_op opp_mod ?_ ?_
    refine me_op opp_fdiv ?_ ?_
    exact me_var (pv 6)
    exact me_int
    exact me_int
    exact mg_name (pg_name sc_law_state.nd (i := 9) rfl (by first | exact .inl rfl | exact .inr rfl))
    refine mss_cons ?_ ?_
    refine ms_par2 rfl sc_law_state.nd (i := 10) (j := 11) rfl rfl (by decide) rfl rfl ?_ (by rfl)
    refine ma_cons ?_ ?_
    refine me_op opp_mulA ?_ ?_
    exact me_int
    refine me_op opp_mod ?_ ?_
    refine me_op opp_fdiv ?_ ?_
    exact me_var (pv 6)
    exact me_int
    exact me_int
    refine ma_cons ?_ ?_
    refine me_op opp_mod ?_ ?_
    refine me_op opp_fdiv ?_ ?_
    exact me_var (pv 6)
    exact me_int
    exact me_int
    exact ma_nil
    refine mss_one ?_
    refine ms_ret ?_
    refine me_tup ?_
    refine ma_cons ?_ ?_
    refine me_callTy cr_tup rfl hy.g_tuple bt_tuple ?_
    refine ma_cons ?_ ?_
    exact me_var (pv 4)
    exact ma_nil
    refine ma_cons ?_ ?_
    refine me_op opp_mod ?_ ?_
    refine me_op opp_fdiv ?_ ?_
    exact me_var (pv 6)
    exact me_int
    exact me_int
    refine ma_cons ?_ ?_
    exact me_var (pv 10)
    refine ma_cons ?_ ?_
    exact me_var (pv 11)
    refine ma_cons ?_ ?_
    exact me_var (pv 7)
    refine ma_cons ?_ ?_
    exact me_var (pv 8)
    refine ma_cons ?_ ?_
    exact me_var (pv 9)
    exact ma_nil)
  exact h
theorem cal_law_state (hy : Hy K mg) : Cal P w K mg base 3 "_law_state" (m_law_state K) [] := by
  obtain ⟨fd, F⟩ := hy.f_law_state
  exact cal_mk F rfl lenOk_mk (ok_law_state hy F) hy.g_law_state (F.bindsN fun _ _ _ _ _ _ us hl => match us, hl with | [_, _, _, _], _ => rfl)
/-! is_state -/
def b_is_state (K : PySem.W.Frag) : Sm :=
    (sSeq (sIf (tOrM (tNotM (tTru (eCall cIsi (aCons (eVar 0) (aCons (eC (.ty "tuple")) aNil))))) (tOrM (tBl (eOp opNe (eCall cLen (aCons (eVar 0) aNil)) (eC (.int 7)))) (tOrM (tNotM (tTru (eF (m_is_words K) [] (aCons (eOp opIxA (eVar 0) (eC (.int 0))) aNil)))) (tNotM (tTru (eF (m_is_words K) [] (aCons (eSl (eVar 0) (pAt (eC (.int 1))) pNo) aNil))))))) (sRet (eC (.bl false))) sNil)
    (sRet (eAnd (eCh opLe opLe (eC (.int 16)) (eCall cLen (aCons (eOp opIxA (eVar 0) (eC (.int 0))) aNil)) (eC (.int 4000))) (eOp opInA (eOp opIxA (eVar 0) (eC (.int 3))) (eTup (aCons (eC (.int 0)) (aCons (eC (.int 1)) aNil)))))))
def m_is_state (K : PySem.W.Frag) : M1.Fn := mkFn 1 1 (b_is_state K)
theorem sc_is_state : FnScope ["value"] ["value"] (defScope st_is_state) := ⟨rfl, rfl, rfl, by decide +kernel, rfl, by decide +kernel, by decide +kernel⟩
theorem ok_is_state (hy : Hy K mg) {f : Addr} {fd : FuncData} (F : FunD K "is_state" "is_state" (defArgs st_is_state) (defBody st_is_state) (defScope st_is_state) [] [] f fd) : FnOk P w K mg base (L2.CX P w) 4 f fd ["value"] (spM K 1 (m_is_state K)) := by
  have h := fn_mk (P := P) (w := w) (mg := mg) (base := base) (k := 3) (b := b_is_state K) F sc_is_state (fun cdv A outer s H E hr => by
    have hu := hr.units
    refine mss_cons ?_ ?_
    refine ms_if ?_ ?_ ?_
    refine mw_pt ?_
    refine mw_or ?_ ?_
    refine mt_not ?_
    refine mt_tru ?_
    refine me_callB cr_isi rfl hy.g_isinstance bt_isinstance ?_
    refine ma_cons ?_ ?_
    exact me_var (pv 0)
    refine ma_cons ?_ ?_
    exact me_ty rfl hy.g_tuple bt_tuple
    exact ma_nil
    refine mw_or ?_ ?_
    refine mt_cmp (opp_ne hu) ?_ ?_ (by first | exact nomark _ | with_unfolding_all rfl)
    refine me_callB cr_len rfl hy.g_len bt_len ?_
    refine ma_cons ?_ ?_
    exact me_var (pv 0)
    exact ma_nil
    exact me_int
    refine mw_or ?_ ?_
    refine mt_not ?_
    refine mt_tru ?_
    refine me_call (cal_is_words hy) hr (by decide) tk0 rfl ?_
    refine ma_cons ?_ ?_
    refine me_ixA ?_ ?_
    exact me_var (pv 0)
    exact me_int
    exact ma_nil
    refine mw_or1 ?_
    refine mt_not ?_
    refine mt_tru ?_
    refine me_call (cal_is_words hy) hr (by decide) tk0 rfl ?_
    refine ma_cons ?_ ?_
    refine me_sl ?_ ?_ ?_
    exact me_var (pv 0)
    refine mp_at ?_
    exact me_int
    exact mp_no
    exact ma_nil
    refine mss_one ?_
    refine ms_ret ?_
    exact me_bl
    exact mss_nil
    refine mss_one ?_
    refine ms_ret ?_
    refine me_and ?_ ?_
    refine me_chain opp_le opp_le ?_ ?_ ?_
    exact me_gint rfl hy.g_MIN_MEMORY
    refine me_callB cr_len rfl hy.g_len bt_len ?_
    refine ma_cons ?_ ?_
    refine me_ixA ?_ ?_
    exact me_var (pv 0)
    exact me_int
    exact ma_nil
    exact me_gint rfl hy.g_MAX_MEMORY
    refine me_one ?_
    refine me_cmp opp_inA ?_ ?_ (by first | exact nomark _ | with_unfolding_all rfl)
    refine me_ixA ?_ ?_
    exact me_var (pv 0)
    exact me_int
    refine me_tup ?_
    refine ma_cons ?_ ?_
    exact me_gint rfl hy.g_SUPERVISOR
    refine ma_cons ?_ ?_
    exact me_gint rfl hy.g_USER
    exact ma_nil)
  exact h
theorem cal_is_state (hy : Hy K mg) : Cal P w K mg base 4 "is_state" (m_is_state K) [] := by
  obtain ⟨fd, F⟩ := hy.f_is_state
  exact cal_mk F rfl lenOk_mk (ok_is_state hy F) hy.g_is_state (F.bindsN fun _ _ _ _ _ _ us hl => match us, hl with | [_], _ => rfl)
/-! Decoder.read_byte -/
def b_Decoder_read_byte (K : PySem.W.Frag) : Sm :=
    (sSeq (sIf (tOrM (tBl (eOp opGe (eFld [He.ga K "Decoder"] (eVar 0) "offset") (eCall cLen (aCons (eFld [He.ga K "Decoder"] (eVar 0) "data") aNil)))) (tNotM (tBl (eCh opLe opLe (eVar 1) (eOp opIxA (eFld [He.ga K "Decoder"] (eVar 0) "data") (eFld [He.ga K "Decoder"] (eVar 0) "offset")) (eVar 2))))) (sRaise1 (He.ga K "DecodeError") "offset" (aCons (eFld [He.ga K "Decoder"] (eVar 0) "offset") aNil)) sNil)
    (sSeq (sFldAugM [He.ga K "Decoder"] (eVar 0) "offset" (eC (.int 1)) opIAdd)
    (sRet (eOp opIxA (eFld [He.ga K "Decoder"] (eVar 0) "data") (eOp opSub (eFld [He.ga K "Decoder"] (eVar 0) "offset") (eC (.int 1)))))))
def m_Decoder_read_byte (K : PySem.W.Frag) : M1.Fn := mkFn 3 3 (b_Decoder_read_byte K)
theorem sc_Decoder_read_byte : FnScope ["self", "low", "high"] ["self", "low", "high"] (defScope st_Decoder_read_byte) := ⟨rfl, rfl, rfl, by decide +kernel, rfl, by decide +kernel, by decide +kernel⟩
theorem ok_Decoder_read_byte (hy : Hy K mg) {f : Addr} {fd : FuncData} (F : FunD K "read_byte" "Decoder.read_byte" (defArgs st_Decoder_read_byte) (defBody st_Decoder_read_byte) (defScope st_Decoder_read_byte) [] [] f fd) : FnOk P w K mg base (L2.CX P w) 4 f fd ["self", "low", "high"] (spM K 3 (m_Decoder_read_byte K)) := by
  have h := fn_mk (P := P) (w := w) (mg := mg) (base := base) (k := 3) (b := b_Decoder_read_byte K) F sc_Decoder_read_byte (fun cdv A outer s H E hr => by
    have hu := hr.units
    refine mss_cons ?_ ?_
    refine ms_if ?_ ?_ ?_
    refine mw_pt ?_
    refine mw_or ?_ ?_
    refine mt_cmp opp_ge ?_ ?_ (by first | exact nomark _ | with_unfolding_all rfl)
    refine me_fld ?_ (one_cls hy.c_Decoder hy.n_Decoder_offset) rfl
    exact me_var (pv 0)
    refine me_callB cr_len rfl hy.g_len bt_len ?_
    refine ma_cons ?_ ?_
    refine me_fld ?_ (one_cls hy.c_Decoder hy.n_Decoder_data) rfl
    exact me_var (pv 0)
    exact ma_nil
    refine mw_or1 ?_
    refine mt_not ?_
    refine mt_chain opp_le opp_le ?_ ?_ ?_
    exact me_var (pv 1)
    refine me_ixA ?_ ?_
    refine me_fld ?_ (one_cls hy.c_Decoder hy.n_Decoder_data) rfl
    exact me_var (pv 0)
    refine me_fld ?_ (one_cls hy.c_Decoder hy.n_Decoder_offset) rfl
    exact me_var (pv 0)
    exact me_var (pv 2)
    refine mss_one ?_
    refine ms_raise1 (rox_DecodeError hy) hr (by decide) rfl tk0 rfl ?_
    refine ma_cons ?_ ?_
    refine me_fld ?_ (one_cls hy.c_Decoder hy.n_Decoder_offset) rfl
    exact me_var (pv 0)
    exact ma_nil
    exact mss_nil
    refine mss_cons ?_ ?_
    refine ms_fldaug ?_ ?_ inp_add (one_cls hy.c_Decoder hy.n_Decoder_offset)
    exact me_var (pv 0)
    exact me_int
    refine mss_one ?_
    refine ms_ret ?_
    refine me_ixA ?_ ?_
    refine me_fld ?_ (one_cls hy.c_Decoder hy.n_Decoder_data) rfl
    exact me_var (pv 0)
    refine me_op opp_sub ?_ ?_
    refine me_fld ?_ (one_cls hy.c_Decoder hy.n_Decoder_offset) rfl
    exact me_var (pv 0)
    exact me_int)
  exact h
theorem met_Decoder_read_byte (hy : Hy K mg) : Met P w K mg base 4 (He.ga K "Decoder") "read_byte" (m_Decoder_read_byte K) [] := by
  obtain ⟨fd, F⟩ := hy.f_Decoder_read_byte
  exact met_mk F lenOk_mk (ok_Decoder_read_byte hy F) hy.c_Decoder hy.m_Decoder_read_byte (F.bindsN fun _ _ _ _ _ _ us hl => match us, hl with | [_, _, _], _ => rfl)
/-! check_state -/
def b_check_state (K : PySem.W.Frag) : Sm :=
    (sIf (tNotM (tTru (eF (m_is_state K) [] (aCons (eVar 0) aNil)))) (sRaise0 (He.ga K "InvalidState")) sNil)
def m_check_state (K : PySem.W.Frag) : M1.Fn := mkFn 1 1 (b_check_state K)
theorem sc_check_state : FnScope ["state"] ["state"] (defScope st_check_state) := ⟨rfl, rfl, rfl, by decide +kernel, rfl, by decide +kernel, by decide +kernel⟩
theorem ok_check_state (hy : Hy K mg) {f : Addr} {fd : FuncData} (F : FunD K "check_state" "check_state" (defArgs st_check_state) (defBody st_check_state) (defScope st_check_state) [] [] f fd) : FnOk P w K mg base (L2.CX P w) 5 f fd ["state"] (spM K 1 (m_check_state K)) := by
  have h := fn_mk (P := P) (w := w) (mg := mg) (base := base) (k := 4) (b := b_check_state K) F sc_check_state (fun cdv A outer s H E hr => by
    have hu := hr.units
    refine mss_one ?_
    refine ms_if ?_ ?_ ?_
    refine mt_not ?_
    refine mt_tru ?_
    refine me_call (cal_is_state hy) hr (by decide) tk0 rfl ?_
    refine ma_cons ?_ ?_
    exact me_var (pv 0)
    exact ma_nil
    refine mss_one ?_
    exact ms_raise0 hy.x_InvalidState rfl tk0 rfl
    exact mss_nil)
  exact h
theorem cal_check_state (hy : Hy K mg) : Cal P w K mg base 5 "check_state" (m_check_state K) [] := by
  obtain ⟨fd, F⟩ := hy.f_check_state
  exact cal_mk F rfl lenOk_mk (ok_check_state hy F) hy.g_check_state (F.bindsN fun _ _ _ _ _ _ us hl => match us, hl with | [_], _ => rfl)
/-! Decoder.read_word -/
def b_Decoder_read_word (K : PySem.W.Frag) : Sm :=
    (sSeq (sAsg (eM (He.ga K "Decoder") "read_byte" (m_Decoder_read_byte K) [] (eVar 0) (aCons (eOp opFdiv (eVar 1) (eC (.int 256))) (aCons (eOp opFdiv (eVar 2) (eC (.int 256))) aNil))) (gN 3))
    (sSeq (sAsg (eIf (tBl (eOp opEq (eVar 3) (eOp opFdiv (eVar 1) (eC (.int 256))))) (eOp opSub (eVar 1) (eOp opMulA (eVar 3) (eC (.int 256)))) (eC (.int 0))) (gN 4))
    (sSeq (sAsg (eIf (tBl (eOp opEq (eVar 3) (eOp opFdiv (eVar 2) (eC (.int 256))))) (eOp opSub (eVar 2) (eOp opMulA (eVar 3) (eC (.int 256)))) (eOp opSub (eC (.int 256)) (eC (.int 1)))) (gN 5))
    (sRet (eOp opAdd (eOp opMulA (eVar 3) (eC (.int 256))) (eM (He.ga K "Decoder") "read_byte" (m_Decoder_read_byte K) [] (eVar 0) (aCons (eVar 4) (aCons (eVar 5) aNil))))))))
def m_Decoder_read_word (K : PySem.W.Frag) : M1.Fn := mkFn 3 6 (b_Decoder_read_word K)
theorem sc_Decoder_read_word : FnScope ["self", "low", "high", "first", "minimum", "maximum"] ["self", "low", "high"] (defScope st_Decoder_read_word) := ⟨rfl, rfl, rfl, by decide +kernel, rfl, by decide +kernel, by decide +kernel⟩
theorem ok_Decoder_read_word (hy : Hy K mg) {f : Addr} {fd : FuncData} (F : FunD K "read_word" "Decoder.read_word" (defArgs st_Decoder_read_word) (defBody st_Decoder_read_word) (defScope st_Decoder_read_word) [] [] f fd) : FnOk P w K mg base (L2.CX P w) 5 f fd ["self", "low", "high"] (spM K 3 (m_Decoder_read_word K)) := by
  have h := fn_mk (P := P) (w := w) (mg := mg) (base := base) (k := 4) (b := b_Decoder_read_word K) F sc_Decoder_read_word (fun cdv A outer s H E hr => by
    have hu := hr.units
    refine mss_cons ?_ ?_
    refine ms_asg ?_ ?_
    refine me_meth (met_Decoder_read_byte hy) hr (by decide) tk0 ?_ ?_
    exact me_var (pv 0)
    refine ma_cons ?_ ?_
    refine me_op opp_fdiv ?_ ?_
    exact me_var (pv 1)
    exact me_gint rfl hy.g_BYTE
    refine ma_cons ?_ ?_
    refine me_op opp_fdiv ?_ ?_
    exact me_var (pv 2)
    exact me_gint rfl hy.g_BYTE
    exact ma_nil
    exact mg_name (pg_name sc_Decoder_read_word.nd (i := 3) rfl (by first | exact .inl rfl | exact .inr rfl))
    refine mss_cons ?_ ?_
    refine ms_asg ?_ ?_
    refine me_if ?_ ?_ ?_
    refine mt_cmp (opp_eq hu) ?_ ?_ (by first | exact nomark _ | with_unfolding_all rfl)
    exact me_var (pv 3)
    refine me_op opp_fdiv ?_ ?_
    exact me_var (pv 1)
    exact me_gint rfl hy.g_BYTE
    refine me_op opp_sub ?_ ?_
    exact me_var (pv 1)
    refine me_op opp_mulA ?_ ?_
    exact me_var (pv 3)
    exact me_gint rfl hy.g_BYTE
    exact me_int
    exact mg_name (pg_name sc_Decoder_read_word.nd (i := 4) rfl (by first | exact .inl rfl | exact .inr rfl))
    refine mss_cons ?_ ?_
    refine ms_asg ?_ ?_
    refine me_if ?_ ?_ ?_
    refine mt_cmp (opp_eq hu) ?_ ?_ (by first | exact nomark _ | with_unfolding_all rfl)
    exact me_var (pv 3)
    refine me_op opp_fdiv ?_ ?_
    exact me_var (pv 2)
    exact me_gint rfl hy.g_BYTE
    refine me_op opp_sub ?_ ?_
    exact me_var (pv 2)
    refine me_op opp_mulA ?_ ?_
    exact me_var (pv 3)
    exact me_gint rfl hy.g_BYTE
    refine me_op opp_sub ?_ ?_
    exact me_gint rfl hy.g_BYTE
    exact me_int
    exact mg_name (pg_name sc_Decoder_read_word.nd (i := 5) rfl (by first | exact .inl rfl | exact .inr rfl))
    refine mss_one ?_
    refine ms_ret ?_
    refine me_op opp_add ?_ ?_
    refine me_op opp_mulA ?_ ?_
    exact me_var (pv 3)
    exact me_gint rfl hy.g_BYTE
    refine me_meth (met_Decoder_read_byte hy) hr (by decide) tk0 ?_ ?_
    exact me_var (pv 0)
    refine ma_cons ?_ ?_
    exact me_var (pv 4)
    refine ma_cons ?_ ?_
    exact me_var (pv 5)
    exact ma_nil)
  exact h
theorem met_Decoder_read_word (hy : Hy K mg) : Met P w K mg base 5 (He.ga K "Decoder") "read_word" (m_Decoder_read_word K) [] := by
  obtain ⟨fd, F⟩ := hy.f_Decoder_read_word
  exact met_mk F lenOk_mk (ok_Decoder_read_word hy F) hy.c_Decoder hy.m_Decoder_read_word (F.bindsN fun _ _ _ _ _ _ us hl => match us, hl with | [_, _, _], _ => rfl)
/-! encode -/
def b_encode (K : PySem.W.Frag) : Sm :=
    (sSeq (sExpr (eF (m_check_state K) [] (aCons (eVar 0) aNil)))
    (sSeq (sAsg (eVar 0) (gT 7 (gsCons (gN 1) (gsCons (gN 2) (gsCons (gN 3) (gsCons (gN 4) (gsCons (gN 5) (gsCons (gN 6) (gsCons (gN 7) gsNil)))))))))
    (sSeq (sAsg (eLst (aCons (eVar 4) aNil)) (gN 8))
    (sSeq (sFor (iAny (eOp opAdd (eTup (aCons (eVar 2) (aCons (eVar 3) (aCons (eVar 5) (aCons (eVar 6) (aCons (eVar 7) (aCons (eCall cLen (aCons (eVar 1) aNil)) aNil))))))) (eVar 1))) (gN 9) (sExpr (eMb isLst gExt (eVar 8) (aCons (eLst (aCons (eOp opFdiv (eVar 9) (eC (.int 256))) (aCons (eOp opSub (eVar 9) (eOp opMulA (eOp opFdiv (eVar 9) (eC (.int 256))) (eC (.int 256)))) aNil))) aNil))))
    (sRet (eHex (eCall cByt (aCons (eVar 8) aNil))))))))
def m_encode (K : PySem.W.Frag) : M1.Fn := mkFn 1 10 (b_encode K)
theorem sc_encode : FnScope ["state", "memory", "acc", "pc", "mode", "base", "bound", "timer", "data", "word"] ["state"] (defScope st_encode) := ⟨rfl, rfl, rfl, by decide +kernel, rfl, by decide +kernel, by decide +kernel⟩
theorem ok_encode (hy : Hy K mg) {f : Addr} {fd : FuncData} (F : FunD K "encode" "encode" (defArgs st_encode) (defBody st_encode) (defScope st_encode) [] [] f fd) : FnOk P w K mg base (L2.CX P w) 6 f fd ["state"] (spM K 1 (m_encode K)) := by
  have h := fn_mk (P := P) (w := w) (mg := mg) (base := base) (k := 5) (b := b_encode K) F sc_encode (fun cdv A outer s H E hr => by
    have hu := hr.units
    refine mss_cons ?_ ?_
    refine ms_expr ?_
    refine me_call (cal_check_state hy) hr (by decide) tk0 rfl ?_
    refine ma_cons ?_ ?_
    exact me_var (pv 0)
    exact ma_nil
    refine mss_cons ?_ ?_
    refine ms_asg ?_ ?_
    exact me_var (pv 0)
    refine mg_tup rfl ?_
    refine mgs_cons ?_ ?_
    exact mg_name (pg_name sc_encode.nd (i := 1) rfl (by first | exact .inl rfl | exact .inr rfl))
    refine mgs_cons ?_ ?_
    exact mg_name (pg_name sc_encode.nd (i := 2) rfl (by first | exact .inl rfl | exact .inr rfl))
    refine mgs_cons ?_ ?_
    exact mg_name (pg_name sc_encode.nd (i := 3) rfl (by first | exact .inl rfl | exact .inr rfl))
    refine mgs_cons ?_ ?_
    exact mg_name (pg_name sc_encode.nd (i := 4) rfl (by first | exact .inl rfl | exact .inr rfl))
    refine mgs_cons ?_ ?_
    exact mg_name (pg_name sc_encode.nd (i := 5) rfl (by first | exact .inl rfl | exact .inr rfl))
    refine mgs_cons ?_ ?_
    exact mg_name (pg_name sc_encode.nd (i := 6) rfl (by first | exact .inl rfl | exact .inr rfl))
    refine mgs_cons ?_ ?_
    exact mg_name (pg_name sc_encode.nd (i := 7) rfl (by first | exact .inl rfl | exact .inr rfl))
    exact mgs_nil
    refine mss_cons ?_ ?_
    refine ms_asg ?_ ?_
    refine me_lst ?_
    refine ma_cons ?_ ?_
    exact me_var (pv 4)
    exact ma_nil
    exact mg_name (pg_name sc_encode.nd (i := 8) rfl (by first | exact .inl rfl | exact .inr rfl))
    refine mss_cons ?_ ?_
    refine ms_for hp0 rfl ?_ ?_ ?_
    refine mi_any ?_
    refine me_op opp_add ?_ ?_
    refine me_tup ?_
    refine ma_cons ?_ ?_
    exact me_var (pv 2)
    refine ma_cons ?_ ?_
    exact me_var (pv 3)
    refine ma_cons ?_ ?_
    exact me_var (pv 5)
    refine ma_cons ?_ ?_
    exact me_var (pv 6)
    refine ma_cons ?_ ?_
    exact me_var (pv 7)
    refine ma_cons ?_ ?_
    refine me_callB cr_len rfl hy.g_len bt_len ?_
    refine ma_cons ?_ ?_
    exact me_var (pv 1)
    exact ma_nil
    exact ma_nil
    exact me_var (pv 1)
    exact mg_name (pg_name sc_encode.nd (i := 9) rfl (by first | exact .inl rfl | exact .inr rfl))
    refine mss_one ?_
    refine ms_expr ?_
    refine me_bmL PySem.F.slot_list_extend PySem.F.type_list_extend mt_ext ?_ ?_
    exact me_var (pv 8)
    refine ma_cons ?_ ?_
    refine me_lst ?_
    refine ma_cons ?_ ?_
    refine me_op opp_fdiv ?_ ?_
    exact me_var (pv 9)
    exact me_gint rfl hy.g_BYTE
    refine ma_cons ?_ ?_
    refine me_op opp_sub ?_ ?_
    exact me_var (pv 9)
    refine me_op opp_mulA ?_ ?_
    refine me_op opp_fdiv ?_ ?_
    exact me_var (pv 9)
    exact me_gint rfl hy.g_BYTE
    exact me_gint rfl hy.g_BYTE
    exact ma_nil
    exact ma_nil
    refine mss_one ?_
    refine ms_ret ?_
    refine me_hex ?_
    refine me_callTy (cr_byt rfl) rfl hy.g_bytes bt_bytes ?_
    refine ma_cons ?_ ?_
    exact me_var (pv 8)
    exact ma_nil)
  exact h
theorem cal_encode (hy : Hy K mg) : Cal P w K mg base 6 "encode" (m_encode K) [] := by
  obtain ⟨fd, F⟩ := hy.f_encode
  exact cal_mk F rfl lenOk_mk (ok_encode hy F) hy.g_encode (F.bindsN fun _ _ _ _ _ _ us hl => match us, hl with | [_], _ => rfl)
/-! decode -/
def b_decode (K : PySem.W.Frag) : Sm :=
    (sSeq (sIf (tOrM (tNotM (tTru (eCall cIsi (aCons (eVar 0) (aCons (eC (.ty "str")) aNil))))) (tOrM (tBl (eOp opEq (eOp opAnd (eCall cLen (aCons (eVar 0) aNil)) (eC (.int 1))) (eC (.int 1)))) (tNotM (tTru (eCall cAll (aCons (eLc 12 [11] (iAny (eVar 0)) (gN 11) tYesM (eOp opInA (eVar 11) (eC (.str "0123456789abcdef")))) aNil)))))) (sRaise1 (He.ga K "DecodeError") "offset" (aCons (eC .non) aNil)) sNil)
    (sSeq (sAsg (eMk (He.ga K "Decoder") (m_Decoder___init__ K) [] (aCons (eFH 0) aNil)) (gN 1))
    (sSeq (sAsg (eM (He.ga K "Decoder") "read_byte" (m_Decoder_read_byte K) [] (eVar 1) (aCons (eC (.int 0)) (aCons (eC (.int 1)) aNil))) (gN 2))
    (sSeq (sAsg (eLc 12 [10] (iRng1 (aCons (eC (.int 5)) aNil)) (gN 10) tYesM (eM (He.ga K "Decoder") "read_word" (m_Decoder_read_word K) [] (eVar 1) (aCons (eC (.int 0)) (aCons (eOp opSub (eC (.int 10000)) (eC (.int 1))) aNil)))) (gL 5 (gsCons (gN 3) (gsCons (gN 4) (gsCons (gN 5) (gsCons (gN 6) (gsCons (gN 7) gsNil)))))))
    (sSeq (sAsg (eM (He.ga K "Decoder") "read_word" (m_Decoder_read_word K) [] (eVar 1) (aCons (eC (.int 16)) (aCons (eC (.int 4000)) aNil))) (gN 8))
    (sSeq (sAsg (eCall cTup (aCons (eLc 12 [10] (iRng1 (aCons (eVar 8) aNil)) (gN 10) tYesM (eM (He.ga K "Decoder") "read_word" (m_Decoder_read_word K) [] (eVar 1) (aCons (eC (.int 0)) (aCons (eOp opSub (eC (.int 10000)) (eC (.int 1))) aNil)))) aNil)) (gN 9))
    (sSeq (sIf (tBl (eOp opLt (eFld [He.ga K "Decoder"] (eVar 1) "offset") (eCall cLen (aCons (eFld [He.ga K "Decoder"] (eVar 1) "data") aNil)))) (sRaise1 (He.ga K "DecodeError") "offset" (aCons (eFld [He.ga K "Decoder"] (eVar 1) "offset") aNil)) sNil)
    (sRet (eTup (aCons (eVar 9) (aCons (eVar 3) (aCons (eVar 4) (aCons (eVar 2) (aCons (eVar 5) (aCons (eVar 6) (aCons (eVar 7) aNil))))))))))))))))
def m_decode (K : PySem.W.Frag) : M1.Fn := mkFn 1 12 (b_decode K)
theorem sc_decode : FnScope ["text", "decoder", "mode", "acc", "pc", "base", "bound", "timer", "size", "memory", "count", "sign"] ["text"] (defScope st_decode) := ⟨rfl, rfl, rfl, by decide +kernel, rfl, by decide +kernel, by decide +kernel⟩
theorem ok_decode (hy : Hy K mg) {f : Addr} {fd : FuncData} (F : FunD K "decode" "decode" (defArgs st_decode) (defBody st_decode) (defScope st_decode) [] [] f fd) : FnOk P w K mg base (L2.CX P w) 6 f fd ["text"] (spM K 1 (m_decode K)) := by
  have h := fn_mk (P := P) (w := w) (mg := mg) (base := base) (k := 5) (b := b_decode K) F sc_decode (fun cdv A outer s H E hr => by
    have hu := hr.units
    refine mss_cons ?_ ?_
    refine ms_if ?_ ?_ ?_
    refine mw_pt ?_
    refine mw_or ?_ ?_
    refine mt_not ?_
    refine mt_tru ?_
    refine me_callB cr_isi rfl hy.g_isinstance bt_isinstance ?_
    refine ma_cons ?_ ?_
    exact me_var (pv 0)
    refine ma_cons ?_ ?_
    exact me_ty rfl hy.g_str bt_str
    exact ma_nil
    refine mw_or ?_ ?_
    refine mt_cmp (opp_eq hu) ?_ ?_ (by first | exact nomark _ | with_unfolding_all rfl)
    refine me_op opp_and ?_ ?_
    refine me_callB cr_len rfl hy.g_len bt_len ?_
    refine ma_cons ?_ ?_
    exact me_var (pv 0)
    exact ma_nil
    exact me_int
    exact me_int
    refine mw_or1 ?_
    refine mt_not ?_
    refine mt_tru ?_
    refine me_callB (cr_allM rfl) rfl hy.g_all bt_all ?_
    refine ma_cons ?_ ?_
    refine me_lc rfl rfl tk0 rfl sc_decode.nd rfl ?_ (own := [("sign", 11)]) (blkOk_by (by kernel_rfl)) ?_ ?_ ?_
    refine mi_any ?_
    exact me_var (pv 0)
    intro s H C cl fp xe
    exact mc_name (pg_name sc_decode.nd (i := 11) rfl (by first | exact .inl rfl | exact .inr rfl)) (by decide)
    intro s H C cl fp xe Wb tb
    exact mts_nil
    intro s H C cl fp xe Wb tb
    refine me_cmp opp_inA ?_ ?_ (by first | exact nomark _ | with_unfolding_all rfl)
    exact me_var (pv 11)
    exact me_gstr rfl hy.g_DIGITS
    exact ma_nil
    refine mss_one ?_
    refine ms_raise1 (rox_DecodeError hy) hr (by decide) rfl tk0 rfl ?_
    refine ma_cons ?_ ?_
    exact me_non
    exact ma_nil
    exact mss_nil
    refine mss_cons ?_ ?_
    refine ms_asg ?_ ?_
    refine me_make (mak_Decoder hy) hr (by decide) tk0 rfl ?_
    refine ma_cons ?_ ?_
    exact me_fromhex rfl hy.g_bytes (pv 0)
    exact ma_nil
    exact mg_name (pg_name sc_decode.nd (i := 1) rfl (by first | exact .inl rfl | exact .inr rfl))
    refine mss_cons ?_ ?_
    refine ms_asg ?_ ?_
    refine me_meth (met_Decoder_read_byte hy) hr (by decide) tk0 ?_ ?_
    exact me_var (pv 1)
    refine ma_cons ?_ ?_
    exact me_int
    refine ma_cons ?_ ?_
    exact me_gint rfl hy.g_USER
    exact ma_nil
    exact mg_name (pg_name sc_decode.nd (i := 2) rfl (by first | exact .inl rfl | exact .inr rfl))
    refine mss_cons ?_ ?_
    refine ms_asg ?_ ?_
    refine me_lc rfl rfl tk0 rfl sc_decode.nd rfl ?_ (own := [("count", 10)]) (blkOk_by (by kernel_rfl)) ?_ ?_ ?_
    refine mi_rng1 rfl hy.g_range ?_
    refine ma_cons ?_ ?_
    exact me_int
    exact ma_nil
    intro s H C cl fp xe
    exact mc_name (pg_name sc_decode.nd (i := 10) rfl (by first | exact .inl rfl | exact .inr rfl)) (by decide)
    intro s H C cl fp xe Wb tb
    exact mts_nil
    intro s H C cl fp xe Wb tb
    refine me_meth (met_Decoder_read_word hy) hr (by decide) tb ?_ ?_
    exact me_var (pv 1)
    refine ma_cons ?_ ?_
    exact me_int
    refine ma_cons ?_ ?_
    refine me_op opp_sub ?_ ?_
    exact me_gint rfl hy.g_WORD_LIMIT
    exact me_int
    exact ma_nil
    refine mg_lst rfl ?_
    refine mgs_cons ?_ ?_
    exact mg_name (pg_name sc_decode.nd (i := 3) rfl (by first | exact .inl rfl | exact .inr rfl))
    refine mgs_cons ?_ ?_
    exact mg_name (pg_name sc_decode.nd (i := 4) rfl (by first | exact .inl rfl | exact .inr rfl))
    refine mgs_cons ?_ ?_
    exact mg_name (pg_name sc_decode.nd (i := 5) rfl (by first | exact .inl rfl | exact .inr rfl))
    refine mgs_cons ?_ ?_
    exact mg_name (pg_name sc_decode.nd (i := 6) rfl (by first | exact .inl rfl | exact .inr rfl))
    refine mgs_cons ?_ ?_
    exact mg_name (pg_name sc_decode.nd (i := 7) rfl (by first | exact .inl rfl | exact .inr rfl))
    exact mgs_nil
    refine mss_cons ?_ ?_
    refine ms_asg ?_ ?_
    refine me_meth (met_Decoder_read_word hy) hr (by decide) tk0 ?_ ?_
    exact me_var (pv 1)
    refine ma_cons ?_ ?_
    exact me_gint rfl hy.g_MIN_MEMORY
    refine ma_cons ?_ ?_
    exact me_gint rfl hy.g_MAX_MEMORY
    exact ma_nil
    exact mg_name (pg_name sc_decode.nd (i := 8) rfl (by first | exact .inl rfl | exact .inr rfl))
    refine mss_cons ?_ ?_
    refine ms_asg ?_ ?_
    refine me_callTy cr_tup rfl hy.g_tuple bt_tuple ?_
    refine ma_cons ?_ ?_
    refine me_lc rfl rfl tk0 rfl sc_decode.nd rfl ?_ (own := [("count", 10)]) (blkOk_by (by kernel_rfl)) ?_ ?_ ?_
    refine mi_rng1 rfl hy.g_range ?_
    refine ma_cons ?_ ?_
    exact me_var (pv 8)
    exact ma_nil
    intro s H C cl fp xe
    exact mc_name (pg_name sc_decode.nd (i := 10) rfl (by first | exact .inl rfl | exact .inr rfl)) (by decide)
    intro s H C cl fp xe Wb tb
    exact mts_nil
    intro s H C cl fp xe Wb tb
    refine me_meth (met_Decoder_read_word hy) hr (by decide) tb ?_ ?_
    exact me_var (pv 1)
    refine ma_cons ?_ ?_
    exact me_int
    refine ma_cons ?_ ?_
    refine me_op opp_sub ?_ ?_
    exact me_gint rfl hy.g_WORD_LIMIT
    exact me_int
    exact ma_nil
    exact ma_nil
    exact mg_name (pg_name sc_decode.nd (i := 9) rfl (by first | exact .inl rfl | exact .inr rfl))
    refine mss_cons ?_ ?_
    refine ms_if ?_ ?_ ?_
    refine mt_cmp opp_lt ?_ ?_ (by first | exact nomark _ | with_unfolding_all rfl)
    refine me_fld ?_ (one_cls hy.c_Decoder hy.n_Decoder_offset) rfl
    exact me_var (pv 1)
    refine me_callB cr_len rfl hy.g_len bt_len ?_
    refine ma_cons ?_ ?_
    refine me_fld ?_ (one_cls hy.c_Decoder hy.n_Decoder_data) rfl
    exact me_var (pv 1)
    exact ma_nil
    refine mss_one ?_
    refine ms_raise1 (rox_DecodeError hy) hr (by decide) rfl tk0 rfl ?_
    refine ma_cons ?_ ?_
    refine me_fld ?_ (one_cls hy.c_Decoder hy.n_Decoder_offset) rfl
    exact me_var (pv 1)
    exact ma_nil
    exact mss_nil
    refine mss_one ?_
    refine ms_ret ?_
    refine me_tup ?_
    refine ma_cons ?_ ?_
    exact me_var (pv 9)
    refine ma_cons ?_ ?_
    exact me_var (pv 3)
    refine ma_cons ?_ ?_
    exact me_var (pv 4)
    refine ma_cons ?_ ?_
    exact me_var (pv 2)
    refine ma_cons ?_ ?_
    exact me_var (pv 5)
    refine ma_cons ?_ ?_
    exact me_var (pv 6)
    refine ma_cons ?_ ?_
    exact me_var (pv 7)
    exact ma_nil)
  exact h
theorem cal_decode (hy : Hy K mg) : Cal P w K mg base 6 "decode" (m_decode K) [] := by
  obtain ⟨fd, F⟩ := hy.f_decode
  exact cal_mk F rfl lenOk_mk (ok_decode hy F) hy.g_decode (F.bindsN fun _ _ _ _ _ _ us hl => match us, hl with | [_], _ => rfl)
/-! _law_result -/
def b_law_result (K : PySem.W.Frag) : Sm :=
    (sTryF 1 (sRet (eF (m_decode K) [] (aCons (eVar 0) aNil))) (ans_DecodeError K) (He.ga K "DecodeError") "offset")
def m_law_result (K : PySem.W.Frag) : M1.Fn := mkFn 1 2 (b_law_result K)
theorem sc_law_result : FnScope ["_law_text", "error"] ["_law_text"] (defScope st_law_result) := ⟨rfl, rfl, rfl, by decide +kernel, rfl, by decide +kernel, by decide +kernel⟩
theorem ok_law_result (hy : Hy K mg) {f : Addr} {fd : FuncData} (F : FunD K "_law_result" "_law_result" (defArgs st_law_result) (defBody st_law_result) (defScope st_law_result) [] [] f fd) : FnOk P w K mg base (L2.CX P w) 7 f fd ["_law_text"] (spM K 1 (m_law_result K)) := by
  have h := fn_mk (P := P) (w := w) (mg := mg) (base := base) (k := 6) (b := b_law_result K) F sc_law_result (fun cdv A outer s H E hr => by
    have hu := hr.units
    refine mss_one ?_
    refine ms_try_f rfl rfl sc_law_result.nd (i := 1) rfl rfl ⟨rfl, by decide, .inl hy.g_DecodeError⟩ tk0 (ans_DecodeError_ok hy) hy.xf_DecodeError hy.xn_DecodeError_offset ?_ (fun a oe pn => pv 1)
    intro W pn xe tw hw
    refine mss_one ?_
    refine ms_ret ?_
    refine me_call (cal_decode hy) hr (by decide) tw rfl ?_
    refine ma_cons ?_ ?_
    exact me_var (pv 0)
    exact ma_nil)
  exact h
theorem cal_law_result (hy : Hy K mg) : Cal P w K mg base 7 "_law_result" (m_law_result K) [] := by
  obtain ⟨fd, F⟩ := hy.f_law_result
  exact cal_mk F rfl lenOk_mk (ok_law_result hy F) hy.g_law_result (F.bindsN fun _ _ _ _ _ _ us hl => match us, hl with | [_], _ => rfl)
/-! _law_limits_right -/
def b_law_limits_right (K : PySem.W.Frag) : Sm :=
    (sSeq (sAsg (eTup (aCons (eOp opMulA (eTup (aCons (eC (.int 9999)) aNil)) (eC (.int 4000))) (aCons (eC (.int 0)) (aCons (eC (.int 9999)) (aCons (eC (.int 1)) (aCons (eC (.int 9999)) (aCons (eC (.int 0)) (aCons (eC (.int 9999)) aNil)))))))) (gN 0))
    (sSeq (sAsg (eF (m_encode K) [] (aCons (eVar 0) aNil)) (gN 1))
    (sSeq (sAsg (eOp opFdiv (eCall cLen (aCons (eVar 1) aNil)) (eC (.int 2))) (gN 2))
    (sSeq (sIf (tOrM (tBl (eOp opNe (eF (m_decode K) [] (aCons (eVar 1) aNil)) (eVar 0))) (tOrM (tBl (eOp opNe (eF (m_law_result K) [] (aCons (eOp opAdd (eVar 1) (eC (.str "00"))) aNil)) (eVar 2))) (tBl (eOp opNe (eF (m_law_result K) [] (aCons (eSl (eVar 1) pNo (pAt (eNeg (eC (.int 2))))) aNil)) (eOp opSub (eVar 2) (eC (.int 1))))))) (sRet (eC (.bl false))) sNil)
    (sSeq (sAsg (eLst (aCons (eC .non) (aCons (eC (.int 5)) (aCons (eC (.str "0")) (aCons (eLst (aCons (eC (.int 0)) aNil)) (aCons (eC (.str "0G")) (aCons (eOp opAdd (eMb isStr gUp (eVar 1) aNil) (eC (.str "AA"))) (aCons (eC (.str " 0")) (aCons (eC (.str "")) aNil))))))))) (gN 3))
    (sSeq (sIf (tBl (eOp opNe (eLc 6 [5] (iAny (eVar 3)) (gN 5) tYesM (eF (m_law_result K) [] (aCons (eVar 5) aNil))) (eOp opAdd (eOp opMulA (eLst (aCons (eC .non) aNil)) (eC (.int 7))) (eLst (aCons (eC (.int 0)) aNil))))) (sRet (eC (.bl false))) sNil)
    (sSeq (sAsg (eOp opIxA (eVar 0) (eC (.int 0))) (gN 4))
    (sSeq (sAsg (eLst (aCons (eC .non) (aCons (eSl (eVar 0) pNo (pAt (eC (.int 6)))) (aCons (eCall cLst (aCons (eVar 0) aNil)) (aCons (eTup (aCons (eVar 4) (aCons (eC (.int 0)) (aCons (eC (.int 0)) (aCons (eC (.int 2)) (aCons (eC (.int 0)) (aCons (eC (.int 0)) (aCons (eC (.int 0)) aNil)))))))) (aCons (eTup (aCons (eSl (eVar 4) pNo (pAt (eC (.int 15)))) (aCons (eC (.int 0)) (aCons (eC (.int 0)) (aCons (eC (.int 0)) (aCons (eC (.int 0)) (aCons (eC (.int 0)) (aCons (eC (.int 0)) aNil)))))))) aNil)))))) (gN 3))
    (sSeq (sAsg (eOp opAdd (eVar 3) (eLst (aCons (eTup (aCons (eOp opAdd (eVar 4) (eTup (aCons (eC (.int 1)) aNil))) (aCons (eC (.int 0)) (aCons (eC (.int 0)) (aCons (eC (.int 0)) (aCons (eC (.int 0)) (aCons (eC (.int 0)) (aCons (eC (.int 0)) aNil)))))))) (aCons (eTup (aCons (eVar 4) (aCons (eC (.int 0)) (aCons (eC (.bl true)) (aCons (eC (.int 0)) (aCons (eC (.int 0)) (aCons (eC (.int 0)) (aCons (eC (.int 0)) aNil)))))))) aNil)))) (gN 3))
    (sSeq (sFor (iAny (eOp opAdd (eVar 3) (eLst (aCons (eTup (aCons (eVar 4) (aCons (eC (.int 10000)) (aCons (eC (.int 0)) (aCons (eC (.int 0)) (aCons (eC (.int 0)) (aCons (eC (.int 0)) (aCons (eC (.int 0)) aNil)))))))) aNil)))) (gN 5) (sTry (sSeq (sExpr (eF (m_encode K) [] (aCons (eVar 5) aNil)))
    (sRet (eC (.bl false)))) (ans_InvalidState K) (sAsg (eC (.int 0)) (gN 2))))
    (sRet (eC (.bl true)))))))))))))
def m_law_limits_right (K : PySem.W.Frag) : M1.Fn := mkFn 0 6 (b_law_limits_right K)
theorem sc_law_limits_right : FnScope ["_law_largest", "_law_text", "_law_count", "_law_values", "_law_memory", "_law_value_here"] [] (defScope st_law_limits_right) := ⟨rfl, rfl, rfl, by decide +kernel, rfl, by decide +kernel, by decide +kernel⟩
theorem ok_law_limits_right (hy : Hy K mg) {f : Addr} {fd : FuncData} (F : FunD K "_law_limits_right" "_law_limits_right" (defArgs st_law_limits_right) (defBody st_law_limits_right) (defScope st_law_limits_right) [] [] f fd) : FnOk P w K mg base (L2.CX P w) 8 f fd [] (spM K 0 (m_law_limits_right K)) := by
  have h := fn_mk (P := P) (w := w) (mg := mg) (base := base) (k := 7) (b := b_law_limits_right K) F sc_law_limits_right (fun cdv A outer s H E hr => by
    have hu := hr.units
    refine mss_cons ?_ ?_
    refine ms_asg ?_ ?_
    refine me_tup ?_
    refine ma_cons ?_ ?_
    refine me_op opp_mulA ?_ ?_
    refine me_tup ?_
    refine ma_cons ?_ ?_
    exact me_int
    exact ma_nil
    exact me_int
    refine ma_cons ?_ ?_
    exact me_int
    refine ma_cons ?_ ?_
    exact me_int
    refine ma_cons ?_ ?_
    exact me_int
    refine ma_cons ?_ ?_
    exact me_int
    refine ma_cons ?_ ?_
    exact me_int
    refine ma_cons ?_ ?_
    exact me_int
    exact ma_nil
    exact mg_name (pg_name sc_law_limits_right.nd (i := 0) rfl (by first | exact .inl rfl | exact .inr rfl))
    refine mss_cons ?_ ?_
    refine ms_asg ?_ ?_
    refine me_call (cal_encode hy) hr (by decide) tk0 rfl ?_
    refine ma_cons ?_ ?_
    exact me_var (pv 0)
    exact ma_nil
    exact mg_name (pg_name sc_law_limits_right.nd (i := 1) rfl (by first | exact .inl rfl | exact .inr rfl))
    refine mss_cons ?_ ?_
    refine ms_asg ?_ ?_
    refine me_op opp_fdiv ?_ ?_
    refine me_callB cr_len rfl hy.g_len bt_len ?_
    refine ma_cons ?_ ?_
    exact me_var (pv 1)
    exact ma_nil
    exact me_int
    exact mg_name (pg_name sc_law_limits_right.nd (i := 2) rfl (by first | exact .inl rfl | exact .inr rfl))
    refine mss_cons ?_ ?_
    refine ms_if ?_ ?_ ?_
    refine mw_pt ?_
    refine mw_or ?_ ?_
    refine mt_cmp (opp_ne hu) ?_ ?_ (by first | exact nomark _ | with_unfolding_all rfl)
    refine me_call (cal_decode hy) hr (by decide) tk0 rfl ?_
    refine ma_cons ?_ ?_
    exact me_var (pv 1)
    exact ma_nil
    exact me_var (pv 0)
    refine mw_or ?_ ?_
    refine mt_cmp (opp_ne hu) ?_ ?_ (by first | exact nomark _ | with_unfolding_all rfl)
    refine me_call (cal_law_result hy) hr (by decide) tk0 rfl ?_
    refine ma_cons ?_ ?_
    refine me_op opp_add ?_ ?_
    exact me_var (pv 1)
    exact me_str
    exact ma_nil
    exact me_var (pv 2)
    refine mw_or1 ?_
    refine mt_cmp (opp_ne hu) ?_ ?_ (by first | exact nomark _ | with_unfolding_all rfl)
    refine me_call (cal_law_result hy) hr (by decide) tk0 rfl ?_
    refine ma_cons ?_ ?_
    refine me_sl ?_ ?_ ?_
    exact me_var (pv 1)
    exact mp_no
    refine mp_at ?_
    refine me_neg ?_
    exact me_int
    exact ma_nil
    refine me_op opp_sub ?_ ?_
    exact me_var (pv 2)
    exact me_int
    refine mss_one ?_
    refine ms_ret ?_
    exact me_bl
    exact mss_nil
    refine mss_cons ?_ ?_
    refine ms_asg ?_ ?_
    refine me_lst ?_
    refine ma_cons ?_ ?_
    exact me_non
    refine ma_cons ?_ ?_
    exact me_int
    refine ma_cons ?_ ?_
    exact me_str
    refine ma_cons ?_ ?_
    refine me_lst ?_
    refine ma_cons ?_ ?_
    exact me_int
    exact ma_nil
    refine ma_cons ?_ ?_
    exact me_str
    refine ma_cons ?_ ?_
    refine me_op opp_add ?_ ?_
    refine me_upper ?_
    exact me_var (pv 1)
    exact me_str
    refine ma_cons ?_ ?_
    exact me_str
    refine ma_cons ?_ ?_
    exact me_str
    exact ma_nil
    exact mg_name (pg_name sc_law_limits_right.nd (i := 3) rfl (by first | exact .inl rfl | exact .inr rfl))
    refine mss_cons ?_ ?_
    refine ms_if ?_ ?_ ?_
    refine mt_cmp (opp_ne hu) ?_ ?_ (by first | exact nomark _ | with_unfolding_all rfl)
    refine me_lc rfl rfl tk0 rfl sc_law_limits_right.nd rfl ?_ (own := [("_law_value_here", 5)]) (blkOk_by (by kernel_rfl)) ?_ ?_ ?_
    refine mi_any ?_
    exact me_var (pv 3)
    intro s H C cl fp xe
    exact mc_name (pg_name sc_law_limits_right.nd (i := 5) rfl (by first | exact .inl rfl | exact .inr rfl)) (by decide)
    intro s H C cl fp xe Wb tb
    exact mts_nil
    intro s H C cl fp xe Wb tb
    refine me_call (cal_law_result hy) hr (by decide) tb rfl ?_
    refine ma_cons ?_ ?_
    exact me_var (pv 5)
    exact ma_nil
    refine me_op opp_add ?_ ?_
    refine me_op opp_mulA ?_ ?_
    refine me_lst ?_
    refine ma_cons ?_ ?_
    exact me_non
    exact ma_nil
    exact me_int
    refine me_lst ?_
    refine ma_cons ?_ ?_
    exact me_int
    exact ma_nil
    refine mss_one ?_
    refine ms_ret ?_
    exact me_bl
    exact mss_nil
    refine mss_cons ?_ ?_
    refine ms_asg ?_ ?_
    refine me_ixA ?_ ?_
    exact me_var (pv 0)
    exact me_int
    exact mg_name (pg_name sc_law_limits_right.nd (i := 4) rfl (by first | exact .inl rfl | exact .inr rfl))
    refine mss_cons ?_ ?_
    refine ms_asg ?_ ?_
    refine me_lst ?_
    refine ma_cons ?_ ?_
    exact me_non
    refine ma_cons ?_ ?_
    refine me_sl ?_ ?_ ?_
    exact me_var (pv 0)
    exact mp_no
    refine mp_at ?_
    exact me_int
    refine ma_cons ?_ ?_
    refine me_callTy cr_lst rfl hy.g_list bt_list ?_
    refine ma_cons ?_ ?_
    exact me_var (pv 0)
    exact ma_nil
    refine ma_cons ?_ ?_
    refine me_tup ?_
    refine ma_cons ?_ ?_
    exact me_var (pv 4)
    refine ma_cons ?_ ?_
    exact me_int
    refine ma_cons ?_ ?_
    exact me_int
    refine ma_cons ?_ ?_
    exact me_int
    refine ma_cons ?_ ?_
    exact me_int
    refine ma_cons ?_ ?_
    exact me_int
    refine ma_cons ?_ ?_
    exact me_int
    exact ma_nil
    refine ma_cons ?_ ?_
    refine me_tup ?_
    refine ma_cons ?_ ?_
    refine me_sl ?_ ?_ ?_
    exact me_var (pv 4)
    exact mp_no
    refine mp_at ?_
    exact me_int
    refine ma_cons ?_ ?_
    exact me_int
    refine ma_cons ?_ ?_
    exact me_int
    refine ma_cons ?_ ?_
    exact me_int
    refine ma_cons ?_ ?_
    exact me_int
    refine ma_cons ?_ ?_
    exact me_int
    refine ma_cons ?_ ?_
    exact me_int
    exact ma_nil
    exact ma_nil
    exact mg_name (pg_name sc_law_limits_right.nd (i := 3) rfl (by first | exact .inl rfl | exact .inr rfl))
    refine mss_cons ?_ ?_
    refine ms_asg ?_ ?_
    refine me_op opp_add ?_ ?_
    exact me_var (pv 3)
    refine me_lst ?_
    refine ma_cons ?_ ?_
    refine me_tup ?_
    refine ma_cons ?_ ?_
    refine me_op opp_add ?_ ?_
    exact me_var (pv 4)
    refine me_tup ?_
    refine ma_cons ?_ ?_
    exact me_int
    exact ma_nil
    refine ma_cons ?_ ?_
    exact me_int
    refine ma_cons ?_ ?_
    exact me_int
    refine ma_cons ?_ ?_
    exact me_int
    refine ma_cons ?_ ?_
    exact me_int
    refine ma_cons ?_ ?_
    exact me_int
    refine ma_cons ?_ ?_
    exact me_int
    exact ma_nil
    refine ma_cons ?_ ?_
    refine me_tup ?_
    refine ma_cons ?_ ?_
    exact me_var (pv 4)
    refine ma_cons ?_ ?_
    exact me_int
    refine ma_cons ?_ ?_
    exact me_bl
    refine ma_cons ?_ ?_
    exact me_int
    refine ma_cons ?_ ?_
    exact me_int
    refine ma_cons ?_ ?_
    exact me_int
    refine ma_cons ?_ ?_
    exact me_int
    exact ma_nil
    exact ma_nil
    exact mg_name (pg_name sc_law_limits_right.nd (i := 3) rfl (by first | exact .inl rfl | exact .inr rfl))
    refine mss_cons ?_ ?_
    refine ms_for hp0 rfl ?_ ?_ ?_
    refine mi_any ?_
    refine me_op opp_add ?_ ?_
    exact me_var (pv 3)
    refine me_lst ?_
    refine ma_cons ?_ ?_
    refine me_tup ?_
    refine ma_cons ?_ ?_
    exact me_var (pv 4)
    refine ma_cons ?_ ?_
    exact me_int
    refine ma_cons ?_ ?_
    exact me_int
    refine ma_cons ?_ ?_
    exact me_int
    refine ma_cons ?_ ?_
    exact me_int
    refine ma_cons ?_ ?_
    exact me_int
    refine ma_cons ?_ ?_
    exact me_int
    exact ma_nil
    exact ma_nil
    exact mg_name (pg_name sc_law_limits_right.nd (i := 5) rfl (by first | exact .inl rfl | exact .inr rfl))
    refine mss_one ?_
    refine ms_try rfl rfl ⟨rfl, by decide, .inl hy.g_InvalidState⟩ tk0 (ans_InvalidState_ok hy) ?_ ?_
    intro W pn xe tw hw
    refine mss_cons ?_ ?_
    refine ms_expr ?_
    refine me_call (cal_encode hy) hr (by decide) tw rfl ?_
    refine ma_cons ?_ ?_
    exact me_var (pv 5)
    exact ma_nil
    refine mss_one ?_
    refine ms_ret ?_
    exact me_bl
    intro a oe pn
    refine mss_one ?_
    refine ms_asg ?_ ?_
    exact me_int
    exact mg_name (pg_name sc_law_limits_right.nd (i := 2) rfl (by first | exact .inl rfl | exact .inr rfl))
    refine mss_one ?_
    refine ms_ret ?_
    exact me_bl)
  exact h
theorem cal_law_limits_right (hy : Hy K mg) : Cal P w K mg base 8 "_law_limits_right" (m_law_limits_right K) [] := by
  obtain ⟨fd, F⟩ := hy.f_law_limits_right
  exact cal_mk F rfl lenOk_mk (ok_law_limits_right hy F) hy.g_law_limits_right (F.bindsN fun _ _ _ _ _ _ us hl => match us, hl with | [], _ => rfl)
/-! law -/
def b_law (K : PySem.W.Frag) : Sm :=
    (sSeq (sFor (iRng1 (aCons (eC (.int 6)) aNil)) (gN 1) (sSeq (sAsg (eF (m_law_machine K) [] (aCons (eVar 0) (aCons (eOp opAdd (eC (.int 20)) (eOp opMulA (eC (.int 6)) (eVar 1))) aNil))) (gN 2))
    (sSeq (sAsg (eF (m_law_state K) [] (aCons (eVar 0) (aCons (eOp opAdd (eC (.int 100)) (eOp opMulA (eC (.int 60)) (eVar 1))) (aCons (eVar 2) (aCons (eOp opIxA (eTup (aCons (eC (.int 16)) (aCons (eC (.int 17)) (aCons (eC (.int 24)) (aCons (eC (.int 40)) aNil))))) (eOp opMod (eVar 1) (eC (.int 4)))) aNil))))) (gN 3))
    (sSeq (sAsg (eVar 3) (gT 7 (gsCons (gN 4) (gsCons (gN 5) (gsCons (gN 6) (gsCons (gN 7) (gsCons (gN 8) (gsCons (gN 9) (gsCons (gN 10) gsNil)))))))))
    (sSeq (sAsg (eCall cTup (aCons (eLc 17 [15, 16] (iEnumM (aCons (eVar 4) aNil)) (gT 2 (gsCons (gN 15) (gsCons (gN 16) gsNil))) tYesM (eOp opIxA (eTup (aCons (eVar 16) (aCons (eOp opSub (eC (.int 9999)) (eOp opMod (eCall cInt (aCons (eVar 16) aNil)) (eC (.int 9)))) (aCons (eVar 16) aNil)))) (eOp opMod (eCall cInt (aCons (eVar 15) aNil)) (eC (.int 3))))) aNil)) (gN 4))
    (sSeq (sAsg (eTup (aCons (eVar 4) (aCons (eOp opSub (eC (.int 9999)) (eVar 5)) (aCons (eVar 6) (aCons (eVar 7) (aCons (eVar 8) (aCons (eOp opSub (eC (.int 9999)) (eVar 9)) (aCons (eVar 10) aNil)))))))) (gN 3))
    (sSeq (sAsg (eF (m_law_bytes K) [] (aCons (eVar 3) aNil)) (gN 11))
    (sSeq (sAsg (eF (m_law_hex K) [] (aCons (eVar 11) aNil)) (gN 12))
    (sSeq (sIf (tOrM (tBl (eOp opNe (eF (m_encode K) [] (aCons (eVar 3) aNil)) (eVar 12))) (tOrM (tBl (eOp opNe (eF (m_decode K) [] (aCons (eVar 12) aNil)) (eVar 3))) (tBl (eOp opNe (eF (m_law_decode K) [] (aCons (eVar 11) aNil)) (eVar 3))))) (sRet (eC (.bl false))) sNil)
    (sFor (iRng1 (aCons (eC (.int 8)) aNil)) (gN 13) (sSeq (sAsg (eF (m_law_changed K) [] (aCons (eVar 11) (aCons (eF (m_law_value K) [] (aCons (eVar 0) (aCons (eOp opAdd (eOp opAdd (eC (.int 600)) (eOp opMulA (eC (.int 8)) (eVar 1))) (eVar 13)) aNil))) aNil))) (gN 14))
    (sIf (tBl (eOp opNe (eF (m_law_result K) [] (aCons (eF (m_law_hex K) [] (aCons (eVar 14) aNil)) aNil)) (eF (m_law_decode K) [] (aCons (eVar 14) aNil)))) (sRet (eC (.bl false))) sNil))))))))))))
    (sRet (eOr (eOp opGt (eOp opMod (eF (m_law_value K) [] (aCons (eVar 0) (aCons (eC (.int 5)) aNil))) (eC (.int 4))) (eC (.int 0))) (eF0 (m_law_limits_right K) []))))
def m_law (K : PySem.W.Frag) : M1.Fn := mkFn 1 17 (b_law K)
theorem sc_law : FnScope ["_law_script", "_law_number", "_law_machine_here", "_law_state_here", "_law_memory", "_law_acc", "_law_pc", "_law_mode", "_law_base", "_law_bound", "_law_timer", "_law_values", "_law_text", "_law_variant", "_law_changed_here", "_law_index", "_law_word"] ["_law_script"] (defScope st_law) := ⟨rfl, rfl, rfl, by decide +kernel, rfl, by decide +kernel, by decide +kernel⟩
theorem ok_law (hy : Hy K mg) {f : Addr} {fd : FuncData} (F : FunD K "law" "law" (defArgs st_law) (defBody st_law) (defScope st_law) [] [] f fd) : FnOk P w K mg base (L2.CX P w) 9 f fd ["_law_script"] (spM K 1 (m_law K)) := by
  have h := fn_mk (P := P) (w := w) (mg := mg) (base := base) (k := 8) (b := b_law K) F sc_law (fun cdv A outer s H E hr => by
    have hu := hr.units
    refine mss_cons ?_ ?_
    refine ms_for hp0 rfl ?_ ?_ ?_
    refine mi_rng1 rfl hy.g_range ?_
    refine ma_cons ?_ ?_
    exact me_int
    exact ma_nil
    exact mg_name (pg_name sc_law.nd (i := 1) rfl (by first | exact .inl rfl | exact .inr rfl))
    refine mss_cons ?_ ?_
    refine ms_asg ?_ ?_
    refine me_call (cal_law_machine hy) hr (by decide) tk0 rfl ?_
    refine ma_cons ?_ ?_
    exact me_var (pv 0)
    refine ma_cons ?_ ?_
    refine me_op opp_add ?_ ?_
    exact me_int
    refine me_op opp_mulA ?_ ?_
    exact me_int
    exact me_var (pv 1)
    exact ma_nil
    exact mg_name (pg_name sc_law.nd (i := 2) rfl (by first | exact .inl rfl | exact .inr rfl))
    refine mss_cons ?_ ?_
    refine ms_asg ?_ ?_
    refine me_call (cal_law_state hy) hr (by decide) tk0 rfl ?_
    refine ma_cons ?_ ?_
    exact me_var (pv 0)
    refine ma_cons ?_ ?_
    refine me_op opp_add ?_ ?_
    exact me_int
    refine me_op opp_mulA ?_ ?_
    exact me_int
    exact me_var (pv 1)
    refine ma_cons ?_ ?_
    exact me_var (pv 2)
    refine ma_cons ?_ ?_
    refine me_ixA ?_ ?_
    refine me_tup ?_
    refine ma_cons ?_ ?_
    exact me_int
    refine ma_cons ?_ ?_
    exact me_int
    refine ma_cons ?_ ?_
    exact me_int
    refine ma_cons ?_ ?_
    exact me_int
    exact ma_nil
    refine me_op opp_mod ?_ ?_
    exact me_var (pv 1)
    exact me_int
    exact ma_nil
    exact mg_name (pg_name sc_law.nd (i := 3) rfl (by first | exact .inl rfl | exact .inr rfl))
    refine mss_cons ?_ ?_
    refine ms_asg ?_ ?_
    exact me_var (pv 3)
    refine mg_tup rfl ?_
    refine mgs_cons ?_ ?_
    exact mg_name (pg_name sc_law.nd (i := 4) rfl (by first | exact .inl rfl | exact .inr rfl))
    refine mgs_cons ?_ ?_
    exact mg_name (pg_name sc_law.nd (i := 5) rfl (by first | exact .inl rfl | exact .inr rfl))
    refine mgs_cons ?_ ?_
    exact mg_name (pg_name sc_law.nd (i := 6) rfl (by first | exact .inl rfl | exact .inr rfl))
    refine mgs_cons ?_ ?_
    exact mg_name (pg_name sc_law.nd (i := 7) rfl (by first | exact .inl rfl | exact .inr rfl))
    refine mgs_cons ?_ ?_
    exact mg_name (pg_name sc_law.nd (i := 8) rfl (by first | exact .inl rfl | exact .inr rfl))
    refine mgs_cons ?_ ?_
    exact mg_name (pg_name sc_law.nd (i := 9) rfl (by first | exact .inl rfl | exact .inr rfl))
    refine mgs_cons ?_ ?_
    exact mg_name (pg_name sc_law.nd (i := 10) rfl (by first | exact .inl rfl | exact .inr rfl))
    exact mgs_nil
    refine mss_cons ?_ ?_
    refine ms_asg ?_ ?_
    refine me_callTy cr_tup rfl hy.g_tuple bt_tuple ?_
    refine ma_cons ?_ ?_
    refine me_lc rfl rfl tk0 rfl sc_law.nd rfl ?_ (own := [("_law_index", 15), ("_law_word", 16)]) (blkOk_by (by kernel_rfl)) ?_ ?_ ?_
    refine mi_enum rfl hy.g_enumerate ?_
    refine ma_cons ?_ ?_
    exact me_var (pv 4)
    exact ma_nil
    intro s H C cl fp xe
    refine mc_tup rfl ?_
    refine mcs_cons ?_ ?_
    exact mc_name (pg_name sc_law.nd (i := 15) rfl (by first | exact .inl rfl | exact .inr rfl)) (by decide)
    refine mcs_cons ?_ ?_
    exact mc_name (pg_name sc_law.nd (i := 16) rfl (by first | exact .inl rfl | exact .inr rfl)) (by decide)
    exact mcs_nil
    intro s H C cl fp xe Wb tb
    exact mts_nil
    intro s H C cl fp xe Wb tb
    refine me_ixA ?_ ?_
    refine me_tup ?_
    refine ma_cons ?_ ?_
    exact me_var (pv 16)
    refine ma_cons ?_ ?_
    refine me_op opp_sub ?_ ?_
    exact me_int
    refine me_op opp_mod ?_ ?_
    refine me_callTy cr_int rfl hy.g_int bt_int ?_
    refine ma_cons ?_ ?_
    exact me_var (pv 16)
    exact ma_nil
    exact me_int
    refine ma_cons ?_ ?_
    exact me_var (pv 16)
    exact ma_nil
    refine me_op opp_mod ?_ ?_
    refine me_callTy cr_int rfl hy.g_int bt_int ?_
    refine ma_cons ?_ ?_
    exact me_var (pv 15)
    exact ma_nil
    exact me_int
    exact ma_nil
    exact mg_name (pg_name sc_law.nd (i := 4) rfl (by first | exact .inl rfl | exact .inr rfl))
    refine mss_cons ?_ ?_
    refine ms_asg ?_ ?_
    refine me_tup ?_
    refine ma_cons ?_ ?_
    exact me_var (pv 4)
    refine ma_cons ?_ ?_
    refine me_op opp_sub ?_ ?_
    exact me_int
    exact me_var (pv 5)
    refine ma_cons ?_ ?_
    exact me_var (pv 6)
    refine ma_cons ?_ ?_
    exact me_var (pv 7)
    refine ma_cons ?_ ?_
    exact me_var (pv 8)
    refine ma_cons ?_ ?_
    refine me_op opp_sub ?_ ?_
    exact me_int
    exact me_var (pv 9)
    refine ma_cons ?_ ?_
    exact me_var (pv 10)
    exact ma_nil
    exact mg_name (pg_name sc_law.nd (i := 3) rfl (by first | exact .inl rfl | exact .inr rfl))
    refine mss_cons ?_ ?_
    refine ms_asg ?_ ?_
    refine me_call (cal_law_bytes hy) hr (by decide) tk0 rfl ?_
    refine ma_cons ?_ ?_
    exact me_var (pv 3)
    exact ma_nil
    exact mg_name (pg_name sc_law.nd (i := 11) rfl (by first | exact .inl rfl | exact .inr rfl))
    refine mss_cons ?_ ?_
    refine ms_asg ?_ ?_
    refine me_call (cal_law_hex hy) hr (by decide) tk0 rfl ?_
    refine ma_cons ?_ ?_
    exact me_var (pv 11)
    exact ma_nil
    exact mg_name (pg_name sc_law.nd (i := 12) rfl (by first | exact .inl rfl | exact .inr rfl))
    refine mss_cons ?_ ?_
    refine ms_if ?_ ?_ ?_
    refine mw_pt ?_
    refine mw_or ?_ ?_
    refine mt_cmp (opp_ne hu) ?_ ?_ (by first | exact nomark _ | with_unfolding_all rfl)
    refine me_call (cal_encode hy) hr (by decide) tk0 rfl ?_
    refine ma_cons ?_ ?_
    exact me_var (pv 3)
    exact ma_nil
    exact me_var (pv 12)
    refine mw_or ?_ ?_
    refine mt_cmp (opp_ne hu) ?_ ?_ (by first | exact nomark _ | with_unfolding_all rfl)
    refine me_call (cal_decode hy) hr (by decide) tk0 rfl ?_
    refine ma_cons ?_ ?_
    exact me_var (pv 12)
    exact ma_nil
    exact me_var (pv 3)
    refine mw_or1 ?_
    refine mt_cmp (opp_ne hu) ?_ ?_ (by first | exact nomark _ | with_unfolding_all rfl)
    refine me_call (cal_law_decode hy) hr (by decide) tk0 rfl ?_
    refine ma_cons ?_ ?_
    exact me_var (pv 11)
    exact ma_nil
    exact me_var (pv 3)
    refine mss_one ?_
    refine ms_ret ?_
    exact me_bl
    exact mss_nil
    refine mss_one ?_
    refine ms_for hp0 rfl ?_ ?_ ?_
    refine mi_rng1 rfl hy.g_range ?_
    refine ma_cons ?_ ?_
    exact me_int
    exact ma_nil
    exact mg_name (pg_name sc_law.nd (i := 13) rfl (by first | exact .inl rfl | exact .inr rfl))
    refine mss_cons ?_ ?_
    refine ms_asg ?_ ?_
    refine me_call (cal_law_changed hy) hr (by decide) tk0 rfl ?_
    refine ma_cons ?_ ?_
    exact me_var (pv 11)
    refine ma_cons ?_ ?_
    refine me_call (cal_law_value hy) hr (by decide) tk0 rfl ?_
    refine ma_cons ?_ ?_
    exact me_var (pv 0)
    refine ma_cons ?_ ?_
    refine me_op opp_add ?_ ?_
    refine me_op opp_add ?_ ?_
    exact me_int
    refine me_op opp_mulA ?_ ?_
    exact me_int
    exact me_var (pv 1)
    exact me_var (pv 13)
    exact ma_nil
    exact ma_nil
    exact mg_name (pg_name sc_law.nd (i := 14) rfl (by first | exact .inl rfl | exact .inr rfl))
    refine mss_one ?_
    refine ms_if ?_ ?_ ?_
    refine mt_cmp (opp_ne hu) ?_ ?_ (by first | exact nomark _ | with_unfolding_all rfl)
    refine me_call (cal_law_result hy) hr (by decide) tk0 rfl ?_
    refine ma_cons ?_ ?_
    refine me_call (cal_law_hex hy) hr (by decide) tk0 rfl ?_
    refine ma_cons ?_ ?_
    exact me_var (pv 14)
    exact ma_nil
    exact ma_nil
    refine me_call (cal_law_decode hy) hr (by decide) tk0 rfl ?_
    refine ma_cons ?_ ?_
    exact me_var (pv 14)
    exact ma_nil
    refine mss_one ?_
    refine ms_ret ?_
    exact me_bl
    exact mss_nil
    refine mss_one ?_
    refine ms_ret ?_
    refine me_or ?_ ?_
    refine me_cmp opp_gt ?_ ?_ (by first | exact nomark _ | with_unfolding_all rfl)
    refine me_op opp_mod ?_ ?_
    refine me_call (cal_law_value hy) hr (by decide) tk0 rfl ?_
    refine ma_cons ?_ ?_
    exact me_var (pv 0)
    refine ma_cons ?_ ?_
    exact me_int
    exact ma_nil
    exact me_int
    exact me_int
    refine me_one ?_
    exact me_call0 (cal_law_limits_right hy) hr (by decide) rfl)
  exact h
theorem cal_law (hy : Hy K mg) : Cal P w K mg base 9 "law" (m_law K) [] := by
  obtain ⟨fd, F⟩ := hy.f_law
  exact cal_mk F rfl lenOk_mk (ok_law hy F) hy.g_law (F.bindsN fun _ _ _ _ _ _ us hl => match us, hl with | [_], _ => rfl)
end
end K04


end

section
set_option maxRecDepth 100000
set_option maxHeartbeats 2000000
namespace K04
open PySem L2 M1
/-- the plain law_mix -/
def mixP (ns : List Int) (k : Int) : Int :=
  let v := ns.getD (k % ns.length).toNat 0 % 1000000000000000000 + 13 * (k / ns.length)
  let m := ((v + 977 * k) * 48271 + 7919 * ns.length) % 2147483647
  m * (m + 31 * k + 7) * (m + 5) / 1009
theorem mix_ev {K} {ns : List Int} {n : Nat} {S : Store} {k : Int} (hS : lstOf S n = some (ns.map .int)) (h0 : ns ≠ []) (hl : ns.length ≤ 64) (hk : 0 ≤ k) (hk2 : k < 100000) :
    m_law_mix K [.loc n, .int k] S = .ok (.int (mixP ns k)) S := by
  have hlen : 0 < ns.length := List.length_pos_iff.mpr h0
  have hL : cLen [.loc n] S = some (.int ns.length, S) := by simp [cLen, hS]
  unfold m_law_mix mkFn b_law_mix startE
  have m1 : ∀ S' : Store, opMod (.int k) (.int ns.length) S' = some (.int (k % ns.length), S') := fun S' => opMod_int _ _ (by omega)
  have f1 : ∀ S' : Store, opFdiv (.int k) (.int ns.length) S' = some (.int (k / ns.length), S') := fun S' => opFdiv_int _ _ (by omega) (by omega)
  have hr : 0 ≤ k % (ns.length : Int) := Int.emod_nonneg _ (by omega)
  have hr2 : k % (ns.length : Int) < ns.length := Int.emod_lt_of_pos _ (by omega)
  have hx : opIxA (.loc n) (.int (k % ns.length)) S = some (.int (ns.getD (k % ns.length).toNat 0), S) := by
    have hi : (k % (ns.length : Int)).toNat < ns.length := by omega
    unfold opIxA orO opIx
    simp only [hS, Option.bind_some]
    unfold L2.atI L2.ixN
    simp [hr, hr2, List.getD, hi]
  have g0 : ns[(k % (ns.length : Int)).toNat]?.getD 0 = ns.getD (k % (ns.length : Int)).toNat 0 := by simp [List.getD]
  have kk : 0 ≤ k / (ns.length : Int) := Int.ediv_nonneg hk (by omega)
  generalize hv : ns.getD (k % (ns.length : Int)).toNat 0 = v at hx g0
  have s13 : small64 13 = true := by decide
  have s977 : small64 977 = true := by decide
  have s48 : small64 48271 = true := by decide
  have s79 : small64 7919 = true := by decide
  have s31 : small64 31 = true := by decide
  have key : ∀ x : Int, small64 (x % 2147483647) = true := fun x => small_of (by omega) (by omega)
  have key2 : ∀ x : Int, small64 (x % 2147483647 + 5) = true := fun x => small_of (by omega) (by omega)
  simp [hL, m1, hx, f1, s13, s977, s48, s79, s31, key, key2, mixP, g0, hv]
def valP (ns : List Int) (k : Int) : Int := mixP (if ns = [] then [9] else ns) k
theorem lstOf_new {S T : Store} {xs : List D} : lstOf (S ++ .lst xs :: T) S.length = some xs := by
  unfold lstOf
  rw [List.getElem?_append_right (Nat.le_refl _)]; simp
theorem val_ev {K} {ns : List Int} {n : Nat} {S : Store} {k : Int} (hS : lstOf S n = some (ns.map .int)) (hl : ns.length ≤ 63) (hk : 0 ≤ k) (hk2 : k < 100000) :
    ∃ T, m_law_value K [.loc n, .int k] S = .ok (.int (valP ns k)) (S ++ T) := by
  have e : opNe (.loc n) (.loc S.length) (S ++ [.lst []]) = some (.bl (!ns.isEmpty), S ++ [.lst []]) := by
    unfold opNe
    rw [pyEq_lst (lstOf_app hS) lstOf_new (gDs_ints ns) rfl (by rw [dpDs_ints]; omega) (by simp [dpDs])]
    cases ns <;> simp [pds, PyData.eqvAll]
  unfold m_law_value mkFn b_law_value startE valP
  cases ns with
  | nil =>
    have := mix_ev (K := K) (ns := [9]) (n := S.length + 1) (S := S ++ [.lst [], .lst [.int 9]]) (k := k) (by
      unfold lstOf; simp) (by simp) (by simp) hk hk2
    refine ⟨[.lst [], .lst [.int 9]], ?_⟩
    simp [e, sizeLine_eq, this]
  | cons a ns =>
    have := mix_ev (K := K) (ns := a :: ns) (n := n) (S := S ++ [.lst []]) (k := k) (lstOf_app hS) (by simp) (by omega) hk hk2
    refine ⟨[.lst []], ?_⟩
    simp [e, sizeLine_eq, this]
/-! ### words -/
theorem is_int_ev {K} (i lo hi : Int) (S : Store) : m_is_integer K [.int i, .int lo, .int hi] S = .ok (.bl (decide (lo ≤ i ∧ i ≤ hi))) S := by
  unfold m_is_integer mkFn b_is_integer startE
  simp [cIsi, isTys, tyD, isaB]
  by_cases h1 : lo ≤ i <;> by_cases h2 : i ≤ hi <;> simp [h1, h2]
/-- ints and truth values -/
def ib : D → Bool
  | .int _ => true
  | .bl _ => true
  | _ => false
def wordD : D → Bool
  | .int i => decide (0 ≤ i ∧ i ≤ 9999)
  | _ => false
theorem is_word_ev {K} {d : D} (h : ib d = true) (S : Store) : m_is_word K [d] S = .ok (.bl (wordD d)) S := by
  unfold m_is_word mkFn b_is_word startE
  cases d with
  | int i => simp [is_int_ev, wordD]
  | bl b => simp [m_is_integer, mkFn, b_is_integer, startE, cIsi, isTys, tyD, isaB, wordD]
  | _ => cases h
theorem is_words_ev {K} {ds : List D} (h : ∀ d ∈ ds, ib d = true) (hz : ds.length ≤ 100000) (S : Store) : ∃ T, m_is_words K [.tup ds] S = .ok (.bl (ds.all wordD)) (S ++ T) := by
  have hs : ds.length ≤ sizeLine := by rw [sizeLine_eq]; omega
  obtain ⟨T, e⟩ := eLc_ext (n := 2) (vs := [1]) (fi := iAny (eVar 0)) (g := gN 1) (e := eF (m_is_word K) [] (aCons (eVar 1) aNil)) (ρ := [some (.tup ds), none]) (S0 := S) (S := S) (src := seqSrc ds) (ds := ds) (f := fun d => .bl (wordD d))
    (by simp) (by simp) (by simp) hs (by simp) (fun d hd X => ⟨[some (.tup ds), some d], [], by simp, by simp [is_word_ev (h d hd)]⟩)
  refine ⟨.lst (ds.map fun d => .bl (wordD d)) :: T, ?_⟩
  unfold m_is_words mkFn b_is_words startE
  have hc : cAll [.loc S.length] (S ++ .lst (ds.map fun d => .bl (wordD d)) :: T) = some (.bl (ds.all wordD), S ++ .lst (ds.map fun d => .bl (wordD d)) :: T) := by
    simp only [cAll, lstOf_new]
    have : (ds.map fun d => D.bl (wordD d)) = (ds.map wordD).map .bl := by simp [List.map_map, Function.comp_def]
    simp only [Option.bind_some]
    rw [this, bls_map]
    simp [List.all_map, Function.comp_def]
  simp [cIsi, isTys, tyD, isaB, e, hc]


/-! ### seeds -/
theorem mixP_nn (ns : List Int) (k : Int) (hk : 0 ≤ k) : 0 ≤ mixP ns k := by
  unfold mixP
  simp only
  generalize ((ns.getD (k % ↑ns.length).toNat 0 % 1000000000000000000 + 13 * (k / ↑ns.length) + 977 * k) * 48271 + 7919 * ↑ns.length) = x
  have h : 0 ≤ x % 2147483647 := Int.emod_nonneg _ (by decide)
  generalize x % 2147483647 = m at h
  exact Int.ediv_nonneg (Int.mul_nonneg (Int.mul_nonneg h (by omega)) (by omega)) (by decide)
theorem valP_nn (ns : List Int) (k : Int) (hk : 0 ≤ k) : 0 ≤ valP ns k := mixP_nn _ _ hk
/-- the script lies at n -/
structure Scr (S : Store) (n : Nat) (ns : List Int) : Prop where
  at_ : lstOf S n = some (ns.map .int)
  len : ns.length ≤ 63
theorem Scr.app {S T : Store} {n ns} (h : Scr S n ns) : Scr (S ++ T) n ns := ⟨lstOf_app h.at_, h.len⟩
theorem val {K} {ns : List Int} {n : Nat} {S : Store} {k : Int} (h : Scr S n ns) (hk : 0 ≤ k) (hk2 : k < 100000) : ∃ T, m_law_value K [.loc n, .int k] S = .ok (.int (valP ns k)) (S ++ T) := val_ev h.at_ h.len hk hk2

end K04

end

section
set_option maxRecDepth 100000
set_option maxHeartbeats 2000000
namespace K04
open PySem L2 M1
section
variable {K : PySem.W.Frag} {S : Store}
/-! ### machines: some tuple -/
/-- names in a list of texts -/
def tgs : List D := [.str "acc", .str "pc", .str "mode", .str "base", .str "bound", .str "timer", .str "mem", .str "phys", .str "acc", .str "mem"]
def srs : List D := [.str "acc", .str "mode", .str "base", .str "bound", .str "timer", .str "mem", .str "phys", .str "operand", .str "zero"]
theorem get_some {ds : List D} {i : Nat} (h : i < ds.length) : ∃ d, ds[i]? = some d := ⟨_, List.getElem?_eq_getElem h⟩
theorem moves_ev {s c : Int} (hs : 0 ≤ s) (hc : 0 ≤ c) (hc2 : c ≤ 1000) : ∃ ds T, m_law_moves K [.int s, .int c] S = .ok (.tup ds) (S ++ T) := by
  unfold m_law_moves mkFn b_law_moves startE
  have loop := forN_inv (src := rngD 0 c.toNat) (g := gN 5) (b := (sSeq (sExpr (eMb isLst gApp (eVar 4) (aCons (eTup (aCons (eOp opIxA (eVar 2) (eOp opMod (eOp opFdiv (eVar 0) (eC (.int 7))) (eC (.int 10)))) (aCons (eOp opIxA (eVar 3) (eOp opMod (eOp opFdiv (eVar 0) (eC (.int 90))) (eC (.int 9)))) aNil))) aNil)))
    (sAsg (eOp opAdd (eOp opFdiv (eVar 0) (eC (.int 90))) (eOp opMulA (eC (.int 31)) (eVar 5))) (gN 0))))
    (fun i ρ S' => ∃ (s : Int) (ds : List D) (x : Option D), 0 ≤ s ∧ ds.length = i ∧ ρ = [some (.int s), some (.int c), some (.tup tgs), some (.tup srs), some (.loc S.length), x] ∧ S' = S ++ [.lst ds]) c.toNat
    (by
      rintro i ρ S' hi ⟨s, ds, x, hs, hl, rfl, rfl⟩
      have h1 : 0 ≤ s / 7 % 10 := Int.emod_nonneg _ (by decide)
      have h2 : s / 7 % 10 < 10 := Int.emod_lt_of_pos _ (by decide)
      have h3 : 0 ≤ s / 90 % 9 := Int.emod_nonneg _ (by decide)
      have h4 : s / 90 % 9 < 9 := Int.emod_lt_of_pos _ (by decide)
      obtain ⟨d1, e1⟩ := get_some (ds := tgs) (i := (s / 7 % 10).toNat) (by simp [tgs]; omega)
      obtain ⟨d2, e2⟩ := get_some (ds := srs) (i := (s / 90 % 9).toNat) (by simp [srs]; omega)
      have x1 : ∀ S', opIxA (.tup tgs) (.int (s / 7 % 10)) S' = some (d1, S') := fun S' => opIxA_tup h1 e1
      have x2 : ∀ S', opIxA (.tup srs) (.int (s / 90 % 9)) S' = some (d2, S') := fun S' => opIxA_tup h3 e2
      have gp : ∀ y, gApp (.loc S.length) [y] (S ++ [.lst ds]) = some (.non, S ++ [.lst (ds ++ [y])]) := fun y => by
        rw [gApp_ev (l := ds) (by simp) (by omega)]; simp
      have m31 : ∀ (j : Int) S', opMulA (.int 31) (.int j) S' = some (.int (31 * j), S') := fun j S' => opMulA_l (by decide) (by decide)
      refine ⟨.int (0 + i), _, _, _, by simp [hi], rfl, ?_, s / 90 + 31 * (0 + i), ds ++ [.tup [d1, d2]], some (.int (0 + i)), ?_, by simp [hl], rfl, rfl⟩
      · simp [x1, x2, gp, m31, sizeLine_eq]
      · have := Int.ediv_nonneg hs (show (0:Int) ≤ 90 by decide)
        omega)
    (by rintro ρ S' ⟨s, ds, x, hs, hl, rfl, rfl⟩; simp)
    (c.toNat + 1) 0 [some (.int s), some (.int c), some (.tup tgs), some (.tup srs), some (.loc S.length), none] (S ++ [.lst []]) (by omega) (by omega) ⟨s, [], none, hs, rfl, rfl, rfl⟩
  obtain ⟨ρ', S', e, s', ds, x, hs', hl, rfl, rfl⟩ := loop
  refine ⟨ds, [.lst ds], ?_⟩
  have hb : -4611686018427387904 ≤ c ∧ c < 4611686018427387904 := by omega
  simp only [tgs, srs] at e
  have ct : cTup [.loc S.length] (S ++ [.lst ds]) = some (.tup ds, S ++ [.lst ds]) := cTup_loc (by simp)
  simp [sizeLine_eq, hb, e, ct, hc]
theorem custom_ev {s : Int} (hs : 0 ≤ s) : ∃ d T, m_law_custom_instruction K [.int s] S = .ok d (S ++ T) := by
  have n40 : 0 ≤ s / 40 := Int.ediv_nonneg hs (by decide)
  have n3 : 0 ≤ s % 3 := Int.emod_nonneg _ (by decide)
  have l3 : s % 3 < 3 := Int.emod_lt_of_pos _ (by decide)
  have n5 : 0 ≤ s / 5000 := Int.ediv_nonneg hs (by decide)
  have n30 : 0 ≤ s / 30 % 3 := Int.emod_nonneg _ (by decide)
  have l30 : s / 30 % 3 < 3 := Int.emod_lt_of_pos _ (by decide)
  obtain ⟨d1, T1, e1⟩ := moves_ev (K := K) (S := S) (s := s / 40) (c := 1 + s % 3) n40 (by omega) (by omega)
  obtain ⟨d2, T2, e2⟩ := moves_ev (K := K) (S := S ++ T1) (s := s / 5000) (c := s / 30 % 3) n5 (by omega) (by omega)
  unfold m_law_custom_instruction mkFn b_law_custom_instruction startE
  by_cases h5 : s / 3 % 10 < 5
  · refine Exists.imp (fun d h => ⟨T1, h⟩) ?_
    simp [sizeLine_eq, e1, h5]
  by_cases h7 : s / 3 % 10 < 7
  · refine Exists.imp (fun d h => ⟨T1, h⟩) ?_
    simp [sizeLine_eq, e1, h5, h7]
  by_cases h8 : s / 3 % 10 = 7
  · obtain ⟨d3, e3⟩ := get_some (ds := [.tup [], .tup [.tup [.str "timer", .str "timer"]], .tup [.tup [.str "mode", .str "bound"]]]) (i := (s / 30 % 3).toNat) (by simp; omega)
    have x1 : ∀ S', opIxA (.tup [.tup [], .tup [.tup [.str "timer", .str "timer"]], .tup [.tup [.str "mode", .str "bound"]]]) (.int (s / 30 % 3)) S' = some (d3, S') := fun S' => opIxA_tup n30 e3
    refine Exists.imp (fun d h => ⟨T1, h⟩) ?_
    simp [sizeLine_eq, e1, h5, h7, h8, x1]
  · refine Exists.imp (fun d h => ⟨T1 ++ T2, h⟩) ?_
    simp [sizeLine_eq, e1, h5, h7, h8, e2]
end
end K04

end

section
set_option maxRecDepth 100000
set_option maxHeartbeats 2000000
namespace K04
open PySem L2 M1
section
variable {K : PySem.W.Frag} {S : Store} {n : Nat} {ns : List Int}
/-- a comprehension whose element only adds to the store, its values not told -/
theorem compN_some {src : Src} {g : Gm} {e : Ex} {ρ0 : M1.Env} {S : Store} {m : Nat} (hz : m ≤ 16777216) (hit : ∀ i X, ∃ o, src.item i (S ++ X) = some o ∧ (i < m → o.isSome) ∧ (m ≤ i → o = none))
    (hf : ∀ i d X, i < m → src.item i (S ++ X) = some (some d) → ∃ ρ T v, g d (S ++ X) ρ0 = some ρ ∧ e ρ (S ++ X) = .ok v (S ++ X ++ T)) :
    ∀ (k i : Nat) (X : Store) (acc : List D), acc.length = i → i ≤ m → m + 1 ≤ k + i → ∃ T acc', compN src g tYesM e ρ0 S.length k i (S ++ .lst acc :: X) = .ok () (S ++ .lst acc' :: T) ∧ acc'.length = m
  | 0, i, X, acc, h0, h1, h2 => by omega
  | k + 1, i, X, acc, h0, h1, h2 => by
    unfold compN
    obtain ⟨o, e0, a, b⟩ := hit i (.lst acc :: X)
    rw [e0]
    by_cases hi : i < m
    · cases o with
      | none => have := a hi; simp at this
      | some d =>
        obtain ⟨ρ, T, v, h3, h4⟩ := hf i d _ hi e0
        obtain ⟨T2, acc', ih, hl⟩ := compN_some (src := src) (g := g) (e := e) (ρ0 := ρ0) hz hit hf k (i + 1) (X ++ T) (acc ++ [v]) (by simp [h0]) (by omega) (by omega)
        refine ⟨T2, acc', ?_, hl⟩
        simp only [h3, h4, tYesM, bind_ok, if_true, List.append_assoc, List.cons_append]
        rw [lstW_at]
        simp only
        rw [sizeLine_eq, if_pos (by omega), set_at]
        exact ih
    · rw [b (by omega)]
      exact ⟨X, acc, rfl, by omega⟩
theorem machine_ev {k : Int} (h : Scr S n ns) (hk : 0 ≤ k) (hk2 : k < 90000) : ∃ ds b c T, m_law_machine K [.loc n, .int k] S = .ok (.tup [.tup ds, .bl b, .bl c]) (S ++ T) ∧ ds.length ≤ 4 := by
  obtain ⟨T1, e1⟩ := val (K := K) h hk (by omega)
  have hv := valP_nn ns k hk
  generalize valP ns k = v at e1 hv
  have l5 : v % 5 < 5 := Int.emod_lt_of_pos _ (by decide)
  have n5 : 0 ≤ v % 5 := Int.emod_nonneg _ (by decide)
  obtain ⟨T2, acc, e2, hl⟩ := compN_some (src := rngD 0 (v % 5).toNat) (g := gN 4) (e := eF (m_law_custom_instruction K) [] (aCons (eF (m_law_value K) [] (aCons (eVar 0) (aCons (eOp opAdd (eOp opAdd (eVar 1) (eC (.int 1))) (eVar 4)) aNil))) aNil))
    (ρ0 := [some (.loc n), some (.int k), some (.int v), none, none]) (S := S ++ T1) (m := (v % 5).toNat) (by omega) (fun i X => ⟨_, rfl, fun hi => by simp [hi], fun hi => by simp; omega⟩)
    (fun i d X hi hd => by
      simp [hi] at hd
      subst hd
      obtain ⟨U1, e3⟩ := val (K := K) (S := S ++ T1 ++ X) (k := k + 1 + i) h.app.app (by omega) (by omega)
      obtain ⟨d, U2, e4⟩ := custom_ev (K := K) (S := S ++ T1 ++ X ++ U1) (valP_nn ns (k + 1 + i) (by omega))
      simp only [List.append_assoc] at e3 e4
      exact ⟨_, U1 ++ U2, d, rfl, by simp [e3, e4]⟩)
    ((v % 5).toNat + 1) 0 [] [] rfl (by omega) (by omega)
  refine ⟨acc, decide (v / 5 % 2 = 0), decide (v / 10 % 2 = 0), T1 ++ .lst acc :: T2, ?_, by omega⟩
  · unfold m_law_machine mkFn b_law_machine startE
    have hb : -4611686018427387904 ≤ v % 5 ∧ v % 5 < 4611686018427387904 := by omega
    simp only [List.length_append, List.append_assoc] at e2
    have ct : cTup [.loc (S.length + T1.length)] (S ++ (T1 ++ .lst acc :: T2)) = some (.tup acc, S ++ (T1 ++ .lst acc :: T2)) := cTup_loc (by simp)
    simp [e1, eLc, hb, n5, e2, ct, sizeLine_eq]
/-! ### instructions, states -/
theorem instr_ev {s z l : Int} (hs : 0 ≤ s) (hz : 16 ≤ z) (hz2 : z ≤ 100) (hl : 0 ≤ l) (hl2 : l ≤ 100) : ∃ a b, m_law_instruction K [.int s, .int z, .int l] S = .ok (.loc S.length) (S ++ [.lst [.int a, .int b]]) ∧ (0 ≤ a ∧ a ≤ 9999) ∧ (0 ≤ b ∧ b ≤ 9999) := by
  have q : ∀ a b : Int, 0 < b → 0 ≤ a % b ∧ a % b < b := fun a b h => ⟨Int.emod_nonneg _ (by omega), Int.emod_lt_of_pos _ h⟩
  have z2 : 0 < z + 2 := by omega
  -- the code
  have c1 : ∃ c : Int, (0 ≤ c ∧ c ≤ 100) ∧ ∀ S' ρ, ρ = [some (.int s), some (.int z), some (.int l), none, none] → (eIf (tBl (eOp opLt (eOp opMod (eVar 0) (eC (.int 8))) (eC (.int 5)))) (eOp opAdd (eC (.int 1)) (eOp opMod (eOp opFdiv (eVar 0) (eC (.int 8))) (eC (.int 15)))) (eIf (tBl (eOp opGt (eVar 2) (eC (.int 15)))) (eOp opAdd (eC (.int 16)) (eOp opMod (eOp opFdiv (eVar 0) (eC (.int 8))) (eC (.int 5)))) (eOp opAdd (eC (.int 2)) (eOp opMod (eOp opFdiv (eVar 0) (eC (.int 8))) (eC (.int 9)))))) ρ S' = .ok (.int c) S' := by
    have a := q (s / 8) 15 (by decide); have b := q (s / 8) 5 (by decide); have c := q (s / 8) 9 (by decide)
    by_cases h1 : s % 8 < 5
    · exact ⟨1 + s / 8 % 15, by omega, fun S' ρ e => by subst e; simp [h1]⟩
    · by_cases h2 : 15 < l
      · exact ⟨16 + s / 8 % 5, by omega, fun S' ρ e => by subst e; simp [h1, h2]⟩
      · exact ⟨2 + s / 8 % 9, by omega, fun S' ρ e => by subst e; simp [h1, h2]⟩
  obtain ⟨c, hc, e1⟩ := c1
  have c2 : ∃ c' : Int, (0 ≤ c' ∧ c' ≤ 100) ∧ ∀ S' ρ, ρ = [some (.int s), some (.int z), some (.int l), some (.int c), none] → (eIf (tOrM (tBl (eOp opNin (eVar 3) (eTup (aCons (eC (.int 11)) (aCons (eC (.int 14)) aNil))))) (tBl (eOp opEq (eOp opMod (eOp opFdiv (eVar 0) (eC (.int 200))) (eC (.int 4))) (eC (.int 0))))) (eVar 3) (eC (.int 3))) ρ S' = .ok (.int c') S' := by
    have on : ∀ S', ∃ b, opNin (.int c) (.tup [.int 11, .int 14]) S' = some (.bl b, S') := fun S' => ⟨_, rfl⟩
    obtain ⟨b, hb⟩ := on []
    have hb' : ∀ S', opNin (.int c) (.tup [.int 11, .int 14]) S' = some (.bl b, S') := fun S' => by
      obtain ⟨b', h'⟩ := on S'
      have : b' = b := by
        simp [opInG, inD, flatD, vOf] at h' hb
        rw [hb] at h'; simpa using h'.symm
      rw [h', this]
    by_cases h1 : b = true
    · exact ⟨c, hc, fun S' ρ e => by subst e; simp [hb', h1, sizeLine_eq]⟩
    · by_cases h2 : s / 200 % 4 = 0
      · exact ⟨c, hc, fun S' ρ e => by subst e; simp [hb', h1, h2, sizeLine_eq]⟩
      · exact ⟨3, by omega, fun S' ρ e => by subst e; simp [hb', h1, h2, sizeLine_eq]⟩
  obtain ⟨c', hc', e2⟩ := c2
  have c3 : ∃ o : Int, (0 ≤ o ∧ o ≤ 9999) ∧ ∀ S' ρ, ρ = [some (.int s), some (.int z), some (.int l), some (.int c'), none] → (eIf (tBl (eOp opGt (eOp opMod (eOp opFdiv (eVar 0) (eC (.int 40))) (eC (.int 7))) (eC (.int 0)))) (eOp opMod (eOp opFdiv (eVar 0) (eC (.int 300))) (eOp opAdd (eVar 1) (eC (.int 2)))) (eOp opIxA (eTup (aCons (eC (.int 9999)) (aCons (eOp opSub (eC (.int 10000)) (eVar 1)) (aCons (eC (.int 0)) aNil)))) (eOp opMod (eOp opFdiv (eVar 0) (eC (.int 300))) (eC (.int 3))))) ρ S' = .ok (.int o) S' := by
    have a := q (s / 300) (z + 2) z2; have b := q (s / 300) 3 (by decide)
    by_cases h1 : 0 < s / 40 % 7
    · exact ⟨s / 300 % (z + 2), by omega, fun S' ρ e => by subst e; simp [h1, z2]⟩
    · have h3 : s / 300 % 3 = 0 ∨ s / 300 % 3 = 1 ∨ s / 300 % 3 = 2 := by omega
      have ix : ∀ i : Nat, i < 3 → ∀ S', opIxA (.tup [.int 9999, .int (10000 - z), .int 0]) (.int (i : Int)) S' = some ([D.int 9999, .int (10000 - z), .int 0].getD i .non, S') := fun i hi S' => opIxA_tup (by omega) (by
        match i, hi with
        | 0, _ => rfl
        | 1, _ => rfl
        | 2, _ => rfl)
      rcases h3 with h3 | h3 | h3
      · exact ⟨9999, by omega, fun S' ρ e => by subst e; have := ix 0 (by omega) S'; simp at this; simp [h1, h3, sizeLine_eq, this]⟩
      · exact ⟨10000 - z, by omega, fun S' ρ e => by subst e; have := ix 1 (by omega) S'; simp at this; simp [h1, h3, sizeLine_eq, this]⟩
      · exact ⟨0, by omega, fun S' ρ e => by subst e; have := ix 2 (by omega) S'; simp at this; simp [h1, h3, sizeLine_eq, this]⟩
  obtain ⟨o, ho, e3⟩ := c3
  have c4 : ∃ f : Int, (0 ≤ f ∧ f ≤ 100) ∧ ∀ S' ρ, ρ = [some (.int s), some (.int z), some (.int l), some (.int c'), some (.int o)] → (eIf (tBl (eOp opGt (eOp opMod (eOp opFdiv (eVar 0) (eC (.int 800))) (eC (.int 23))) (eC (.int 0)))) (eVar 3) (eOp opMod (eOp opFdiv (eVar 0) (eC (.int 900))) (eC (.int 30)))) ρ S' = .ok (.int f) S' := by
    have b := q (s / 900) 30 (by decide)
    by_cases h1 : 0 < s / 800 % 23
    · exact ⟨c', hc', fun S' ρ e => by subst e; simp [h1]⟩
    · exact ⟨s / 900 % 30, by omega, fun S' ρ e => by subst e; simp [h1]⟩
  obtain ⟨f, hf, e4⟩ := c4
  refine ⟨f, o, ?_, by omega, ho⟩
  unfold m_law_instruction mkFn b_law_instruction startE
  have s1 := e1 S _ rfl
  have s2 := e2 S _ rfl
  have s3 := e3 S _ rfl
  have s4 := e4 S _ rfl
  simp only [sSeq_ev, sAsg_ev, sRet_ev, List.map_cons, List.map_nil, List.length_cons, List.length_nil, List.cons_append, List.nil_append, Nat.reduceAdd, Nat.reduceSub, List.replicate_succ, List.replicate_zero, s1, out_ok, seq_nx, List.set_cons_succ, List.set_cons_zero, s2, s3, eLst_ev, aCons_ev, s4, bind_ok, eVar_ev]
  simp [sizeLine_eq]
end
end K04

end

section
set_option maxRecDepth 100000
set_option maxHeartbeats 2000000
namespace K04
open PySem L2 M1
def wd (w : Int) : Prop := 0 ≤ w ∧ w ≤ 9999
structure ST where
  mem : List Int
  acc : Int
  pc : Int
  mode : Int
  base : Int
  bound : Int
  timer : Int
def ST.d (s : ST) : D := .tup [.tup (s.mem.map .int), .int s.acc, .int s.pc, .int s.mode, .int s.base, .int s.bound, .int s.timer]
structure ST.ok (s : ST) : Prop where
  mem : ∀ w ∈ s.mem, wd w
  acc : wd s.acc
  pc : wd s.pc
  mode : s.mode = 0 ∨ s.mode = 1
  base : wd s.base
  bound : wd s.bound
  timer : wd s.timer
  lo : 16 ≤ s.mem.length
  hi : s.mem.length ≤ 4000
section
variable {K : PySem.W.Frag} {S : Store} {n : Nat} {ns : List Int}
theorem pick {ds : List Int} {i : Int} (h : 0 ≤ i) (hl : i.toNat < ds.length) (P : Int → Prop) (hp : ∀ d ∈ ds, P d) : ∃ d : Int, P d ∧ ∀ S', opIxA (.tup (ds.map .int)) (.int i) S' = some (.int d, S') :=
  ⟨ds[i.toNat], hp _ (List.getElem_mem hl), fun S' => opIxA_tup h (by simp [hl])⟩
theorem state_ev {k z : Int} {cs : List D} {b c : D} (h : Scr S n ns) (hk : 0 ≤ k) (hk2 : k < 80000) (hc : cs.length ≤ 8) (hz : 16 ≤ z) (hz2 : z ≤ 100) :
    ∃ (s : ST) (T : Store), m_law_state K [.loc n, .int k, .tup [.tup cs, b, c], .int z] S = .ok s.d (S ++ T) ∧ s.ok ∧ (s.mem.length : Int) = z := by
  have q : ∀ a b : Int, 0 < b → 0 ≤ a % b ∧ a % b < b := fun a b h => ⟨Int.emod_nonneg _ (by omega), Int.emod_lt_of_pos _ h⟩
  have loop := forN_inv (src := rngD 0 (z / 2).toNat) (g := gN 5) (b := (sAsg (eOp opAdd (eVar 4) (eF (m_law_instruction K) [] (aCons (eF (m_law_value K) [] (aCons (eVar 0) (aCons (eOp opAdd (eOp opAdd (eVar 1) (eC (.int 6))) (eVar 5)) aNil))) (aCons (eVar 3) (aCons (eOp opAdd (eC (.int 15)) (eCall cLen (aCons (eOp opIxA (eVar 2) (eC (.int 0))) aNil))) aNil))))) (gN 4)))
    (fun i ρ S' => ∃ (ds : List Int) (x : Option D) (T : Store) (j : Nat), ds.length = 2 * i ∧ (∀ w ∈ ds, wd w) ∧ lstW T j = some (ds.map .int) ∧ ρ = [some (.loc n), some (.int k), some (.tup [.tup cs, b, c]), some (.int z), some (.loc (S.length + j)), x, none, none, none, none, none, none] ∧ S' = S ++ T) (z / 2).toNat
    (by
      rintro i ρ S' hi ⟨ds, x, T, j, hl, hw, hj, rfl, rfl⟩
      obtain ⟨U, e1⟩ := val (K := K) (S := S ++ T) (k := k + 6 + i) h.app (by omega) (by omega)
      obtain ⟨f, o, e2, hf, ho⟩ := instr_ev (K := K) (S := S ++ T ++ U) (s := valP ns (k + 6 + i)) (z := z) (l := 15 + cs.length) (valP_nn _ _ (by omega)) hz hz2 (by omega) (by omega)
      simp only [List.append_assoc, List.length_append] at e1 e2
      have x0 : ∀ S', opIxA (.tup [.tup cs, b, c]) (.int 0) S' = some (.tup cs, S') := fun S' => opIxA_tup (by decide) rfl
      have hj' : ∀ X, lstW (T ++ X) j = some (ds.map .int) := fun X => by
        unfold lstW at hj ⊢
        have : j < T.length := by
          by_cases hl : j < T.length
          · exact hl
          · rw [List.getElem?_eq_none (by omega)] at hj; cases hj
        rw [List.getElem?_append_left this]; exact hj
      have ad : opAdd (.loc (S.length + j)) (.loc (S.length + (T.length + U.length))) (S ++ (T ++ (U ++ [.lst [.int f, .int o]]))) = some (.loc (S.length + (T.length + (U.length + 1))), S ++ (T ++ (U ++ [.lst [.int f, .int o], .lst ((ds ++ [f, o]).map .int)]))) := by
        rw [opAdd_lst (a := ds.map .int) (b := [.int f, .int o]) (by rw [lstW_pk]; exact hj' _) (by rw [lstW_pk, lstW_pk, lstW_pk0]; rfl) (by simp; omega)]
        simp
      refine ⟨.int (0 + i), _, _, _, by simp [hi], rfl, ?_, ds ++ [f, o], some (.int (0 + i)), T ++ (U ++ [.lst [.int f, .int o], .lst ((ds ++ [f, o]).map .int)]), T.length + (U.length + 1), by simp [hl]; omega, ?_, ?_, rfl, rfl⟩
      · simp [e1, x0, e2, ad]
      · intro w hw'
        simp at hw'
        rcases hw' with hw' | hw' | hw'
        · exact hw w hw'
        · subst hw'; exact hf
        · subst hw'; exact ho
      · rw [lstW_pk, lstW_pk]; rfl)
    (by rintro ρ S' ⟨ds, x, T, j, hl, hw, hj, rfl, rfl⟩; simp)
    ((z / 2).toNat + 1) 0 [some (.loc n), some (.int k), some (.tup [.tup cs, b, c]), some (.int z), some (.loc S.length), none, none, none, none, none, none, none] (S ++ [.lst []]) (by omega) (by omega) ⟨[], none, [.lst []], 0, rfl, by simp, rfl, rfl, rfl⟩
  obtain ⟨ρ', S', e, ds, x, T, j, hl, hw, hj, rfl, rfl⟩ := loop
  have hj' : ∀ X, lstW (T ++ X) j = some (ds.map .int) := fun X => by
    unfold lstW at hj ⊢
    have : j < T.length := by
      by_cases hl : j < T.length
      · exact hl
      · rw [List.getElem?_eq_none (by omega)] at hj; cases hj
    rw [List.getElem?_append_left this]; exact hj
  have hjo : lstOf (S ++ (T ++ [.lst [.int 3]])) (S.length + j) = some (ds.map .int) := by
    have := hj' [.lst [.int 3]]
    rw [lstOf_pk]
    unfold lstW at this
    unfold lstOf
    split at this
    · rename_i xs hx; rw [hx]; exact this
    · cases this
  -- the padding
  have hr : 0 ≤ z - ds.length := by omega
  have hr2 : z - ds.length ≤ 100 := by omega
  obtain ⟨pad, hpad⟩ : ∃ p : List D, p = (List.replicate (z - ds.length).toNat (3 : Int)).map .int := ⟨_, rfl⟩
  have mu : opMulA (.loc (S.length + T.length)) (.int (z - ds.length)) (S ++ (T ++ [.lst [.int 3]])) = some (.loc (S.length + (T.length + 1)), S ++ (T ++ [.lst [.int 3], .lst pad])) := by
    rw [opMulA_rep (a := [.int 3]) (by rw [lstW_pk, lstW_pk0]; rfl) hr (by simp; omega) (by omega)]
    simp [hpad]
  obtain ⟨mD, hmD⟩ : ∃ p : List D, p = (ds ++ List.replicate (z - ds.length).toNat 3).map .int := ⟨_, rfl⟩
  have ad : opAdd (.loc (S.length + j)) (.loc (S.length + (T.length + 1))) (S ++ (T ++ [.lst [.int 3], .lst pad])) = some (.loc (S.length + (T.length + 2)), S ++ (T ++ [.lst [.int 3], .lst pad, .lst mD])) := by
    rw [opAdd_lst (a := ds.map .int) (b := pad) (by rw [lstW_pk]; exact hj' _) (by rw [lstW_pk, lstW_pk]; rfl) (by simp [hpad]; omega)]
    simp [hmD, hpad]
  obtain ⟨U, e3⟩ := val (K := K) (S := S ++ (T ++ [.lst [.int 3], .lst pad, .lst mD])) (k := k) h.app hk (by omega)
  have hv := valP_nn ns k hk
  generalize valP ns k = v at e3 hv
  generalize hms : ds ++ List.replicate (z - ds.length).toNat 3 = ms at hmD
  have lms : (ms.length : Int) = z := by subst hms; simp; omega
  have wms : ∀ w ∈ ms, wd w := by
    subst hms
    intro w hw'
    simp at hw'
    rcases hw' with hw' | hw'
    · exact hw w hw'
    · rw [hw'.2]; exact ⟨by decide, by decide⟩
  have st : ∀ y : Int, stL (.loc (S.length + (T.length + 2))) (.int 7) (.int y) (S ++ (T ++ .lst [.int 3] :: .lst pad :: .lst mD :: U)) = some (S ++ (T ++ .lst [.int 3] :: .lst pad :: .lst (mD.set 7 (.int y)) :: U)) := fun y => by
    have ix : ixN ms.length 7 = some 7 := by unfold L2.ixN; rw [if_pos (by decide), if_pos (by omega)]; rfl
    simp [stL, hmD, ix]
  have q9 := q v 9 (by decide)
  obtain ⟨ba, hba, x7⟩ := pick (ds := [0, 0, 2, 5, z - 1, 9990]) (i := v / 9 % 6) (by have := q (v / 9) 6 (by decide); omega) (by have := q (v / 9) 6 (by decide); simp; omega) wd (by simp [wd]; omega)
  obtain ⟨bo, hbo, x8⟩ := pick (ds := [z, z, 9999, 8, z - 3, 0]) (i := v / 54 % 6) (by have := q (v / 54) 6 (by decide); omega) (by have := q (v / 54) 6 (by decide); simp; omega) wd (by simp [wd]; omega)
  obtain ⟨ti, hti, x9⟩ := pick (ds := [0, 1, 2, 9, 0, 5]) (i := v / 324 % 6) (by have := q (v / 324) 6 (by decide); omega) (by have := q (v / 324) 6 (by decide); simp; omega) wd (by simp [wd])
  simp only [List.map_cons, List.map_nil] at x7 x8 x9
  have q7 := q (v / 1944) 7 (by decide)
  have q2 := q (v / 13608) 2 (by decide)
  have q60 := q (v / 2000) 60 (by decide)
  refine ⟨⟨ms.set 7 (2 * (v % 9)), v / 2000 % 60, 2 * (v / 1944 % 7), v / 13608 % 2, ba, bo, ti⟩, T ++ .lst [.int 3] :: .lst pad :: .lst (mD.set 7 (.int (2 * (v % 9)))) :: U, ?_, ⟨?_, ?_, ?_, ?_, hba, hbo, hti, ?_, ?_⟩, ?_⟩
  · unfold m_law_state mkFn b_law_state startE
    have rg : -4611686018427387904 ≤ z / 2 ∧ z / 2 < 4611686018427387904 := by omega
    have ln := cLen_loc hjo
    have m2 : ∀ (j : Int) S', opMulA (.int 2) (.int j) S' = some (.int (2 * j), S') := fun j S' => opMulA_l (by decide) (by decide)
    have ct : cTup [.loc (S.length + (T.length + 2))] (S ++ (T ++ .lst [.int 3] :: .lst pad :: .lst (mD.set 7 (.int (2 * (v % 9)))) :: U)) = some (.tup (mD.set 7 (.int (2 * (v % 9)))), S ++ (T ++ .lst [.int 3] :: .lst pad :: .lst (mD.set 7 (.int (2 * (v % 9)))) :: U)) := cTup_loc (by rw [lstOf_pk, lstOf_pk]; rfl)
    simp only [List.append_assoc, List.cons_append, List.nil_append] at e3
    simp only [List.length_map] at ln
    have sz : ∀ a b c d e f g : D, [a, b, c, d, e, f, g].length ≤ sizeLine := fun _ _ _ _ _ _ _ => by rw [sizeLine_eq]; simp
    simp [rg, e, ln, mu, ad, e3, m2, st, x7, x8, x9, ct, sizeLine_eq]
    simp [ST.d, hmD]
  · intro w hw'
    rcases List.mem_or_eq_of_mem_set hw' with hw' | hw'
    · exact wms w hw'
    · subst hw'; unfold wd; omega
  · unfold wd; simp only; omega
  · unfold wd; simp only; omega
  · simp only; omega
  · simp; omega
  · simp; omega
  · simp; exact lms
end
end K04

end

section
set_option maxRecDepth 100000
set_option maxHeartbeats 2000000
namespace K04
open PySem L2 M1
def is8P (n : Int) : Prop := 0 ≤ n ∧ n ≤ 255
def wb (w : Int) : List Int := [w / 256, w % 256]
def ST.words (s : ST) : List Int := [s.acc, s.pc, s.base, s.bound, s.timer, (s.mem.length : Int)] ++ s.mem
def encB (s : ST) : List Int := s.mode :: s.words.flatMap wb
def hexI (bs : List Int) : Str := ⟨(bs.flatMap fun c => [hexD (c / 16).toNat, hexD (c % 16).toNat]).toArray⟩
section
variable {K : PySem.W.Frag} {S : Store} {n : Nat} {ns : List Int}
theorem words_wd {s : ST} (h : s.ok) : ∀ w ∈ s.words, wd w := by
  intro w hw
  unfold ST.words at hw
  have := h.lo; have := h.hi
  simp at hw
  rcases hw with e | e | e | e | e | e | e
  · subst e; exact h.acc
  · subst e; exact h.pc
  · subst e; exact h.base
  · subst e; exact h.bound
  · subst e; exact h.timer
  · subst e; unfold wd; omega
  · exact h.mem w e
theorem enc_is8 {s : ST} (h : s.ok) : ∀ b ∈ encB s, is8P b := by
  intro b hb
  unfold encB at hb
  simp only [List.mem_cons, List.mem_flatMap] at hb
  rcases hb with e | ⟨w, hw, e⟩
  · subst e; rcases h.mode with e | e <;> rw [e] <;> exact ⟨by decide, by decide⟩
  · have := words_wd h w hw
    unfold wd at this
    unfold wb at e
    simp at e
    unfold is8P
    rcases e with e | e <;> subst e <;> omega
theorem flat_len (ws : List Int) : (ws.flatMap wb).length = 2 * ws.length := by
  induction ws with
  | nil => rfl
  | cons w ws ih => simp only [List.flatMap_cons, List.length_append, ih, wb, List.length_cons, List.length_nil]; omega
theorem enc_len (s : ST) : (encB s).length = 13 + 2 * s.mem.length := by
  unfold encB
  simp only [List.length_cons, flat_len, ST.words, List.length_append, List.length_nil]; omega
theorem take_flat (ws : List Int) {i : Nat} (h : i < ws.length) : (ws.take (i + 1)).flatMap wb = (ws.take i).flatMap wb ++ wb ws[i] := by
  rw [List.take_add_one, List.getElem?_eq_getElem h, List.flatMap_append]
  simp only [Option.toList_some, List.flatMap_cons, List.flatMap_nil, List.append_nil]
/-- _law_bytes -/
theorem bytes_ev {s : ST} (h : s.ok) : ∃ j T, m_law_bytes K [s.d] S = .ok (.loc (S.length + j)) (S ++ T) ∧ lstW T j = some ((encB s).map .int) := by
  have hlen : s.words.length = 6 + s.mem.length := by simp [ST.words]; omega
  have hhi := h.hi
  have loop := forN_inv (src := seqSrc (s.words.map .int)) (g := gN 2) (b := (sAsg (eOp opAdd (eVar 1) (eLst (aCons (eOp opFdiv (eVar 2) (eC (.int 256))) (aCons (eOp opMod (eCall cInt (aCons (eVar 2) aNil)) (eC (.int 256))) aNil)))) (gN 1)))
    (fun i ρ S' => ∃ (x : Option D) (T : Store) (j : Nat), lstW T j = some ((s.mode :: (s.words.take i).flatMap wb).map .int) ∧ j < T.length ∧ ρ = [some s.d, some (.loc (S.length + j)), x] ∧ S' = S ++ T) s.words.length
    (by
      rintro i ρ S' hi ⟨x, T, j, hj, hlt, rfl, rfl⟩
      have hj' : ∀ X, lstW (T ++ X) j = some ((s.mode :: (s.words.take i).flatMap wb).map .int) := fun X => by
        unfold lstW at hj ⊢
        rw [List.getElem?_append_left hlt]; exact hj
      have ad : opAdd (.loc (S.length + j)) (.loc (S.length + T.length)) (S ++ (T ++ [.lst ((wb s.words[i]).map .int)])) = some (.loc (S.length + (T.length + 1)), S ++ (T ++ [.lst ((wb s.words[i]).map .int), .lst ((s.mode :: (s.words.take (i + 1)).flatMap wb).map .int)])) := by
        rw [opAdd_lst (a := (s.mode :: (s.words.take i).flatMap wb).map .int) (b := (wb s.words[i]).map .int) (by rw [lstW_pk]; exact hj' _) (by rw [lstW_pk, lstW_pk0]; rfl) (by simp only [List.length_map, List.length_cons, flat_len, wb, List.length_take, List.length_nil]; omega)]
        rw [take_flat _ hi]
        simp
      refine ⟨.int s.words[i], _, _, _, by simp [hi], rfl, ?_, some (.int s.words[i]), T ++ [.lst ((wb s.words[i]).map .int), .lst ((s.mode :: (s.words.take (i + 1)).flatMap wb).map .int)], T.length + 1, by rw [lstW_pk]; rfl, by simp, rfl, rfl⟩
      simp only [wb, List.map_cons, List.map_nil] at ad
      simp [sizeLine_eq, ad, wb])
    (by rintro ρ S' ⟨x, T, j, hj, hlt, rfl, rfl⟩; simp)
    (s.words.length + 1) 0 [some s.d, some (.loc S.length), none] (S ++ [.lst [.int s.mode]]) (by omega) (by omega) ⟨none, [.lst [.int s.mode]], 0, by simp, by simp, rfl, rfl⟩
  obtain ⟨ρ', S', e, x, T, j, hj, hlt, rfl, rfl⟩ := loop
  refine ⟨j, T, ?_, by rw [hj, List.take_of_length_le (Nat.le_refl _)]; rfl⟩
  unfold m_law_bytes mkFn b_law_bytes startE ST.d
  have x0 : ∀ S', opIxA s.d (.int 0) S' = some (.tup (s.mem.map .int), S') := fun S' => opIxA_tup (by decide) rfl
  have x1 : ∀ S', opIxA s.d (.int 1) S' = some (.int s.acc, S') := fun S' => opIxA_tup (by decide) rfl
  have x2 : ∀ S', opIxA s.d (.int 2) S' = some (.int s.pc, S') := fun S' => opIxA_tup (by decide) rfl
  have x3 : ∀ S', opIxA s.d (.int 3) S' = some (.int s.mode, S') := fun S' => opIxA_tup (by decide) rfl
  unfold ST.d at x0 x1 x2 x3 e
  have ew : s.words.map D.int = [D.int s.acc, .int s.pc, .int s.base, .int s.bound, .int s.timer, .int s.mem.length] ++ s.mem.map .int := by simp [ST.words]
  rw [ew] at e
  have h1 : s.mem.length + 6 ≤ 16777216 := by omega
  rw [hlen] at e
  simp only [List.cons_append, List.nil_append] at e
  simp (disch := first | assumption | omega | (simp; done) | (simp; omega) | fail) [x0, x1, x2, x3, sizeLine_eq, cut_drop, show s.mem.length + 1 + 1 + 1 + 1 + 1 + 1 + 1 = 6 + s.mem.length + 1 by omega, e]
end
end K04

end

section
set_option maxRecDepth 100000
set_option maxHeartbeats 2000000
namespace K04
open PySem L2 M1
theorem str_app (a b : Array Nat) : (⟨a⟩ : Str) ++ (⟨b⟩ : Str) = ⟨a ++ b⟩ := rfl
theorem str_len (a : Array Nat) : (⟨a⟩ : Str).length = a.size := rfl
theorem join_nil : ∀ ys : List Str, Str.join ⟨#[]⟩ ys = ⟨(ys.flatMap fun y => y.cps.toList).toArray⟩
  | [] => rfl
  | [x] => by simp [Str.join]
  | x :: y :: r => by
    have := join_nil (y :: r)
    simp only [Str.join, this]
    show (⟨x.cps ++ #[] ++ _⟩ : Str) = _
    congr 1
    apply Array.ext'
    simp
theorem txt_join (ys : List Str) : Txt.join ("" : Str) ys = ⟨(ys.flatMap fun y => y.cps.toList).toArray⟩ := by
  unfold Txt.join
  rw [StrLaws.glued_eq_join, show (("" : String) : Str) = (⟨#[]⟩ : Str) from by decide +kernel, join_nil]
def dig : Str := "0123456789abcdef"
theorem dig_at : ∀ i : Fin 16, dig.cps.toList[i.val]? = some (hexD i.val) := by decide +kernel
theorem dig_len : dig.length = 16 := by decide +kernel
section
variable {K : PySem.W.Frag} {S : Store} {n : Nat} {bs : List Int}
theorem ix_dig {i : Int} (h : 0 ≤ i) (h2 : i < 16) : opIxA (.str dig) (.int i) S = some (.str ⟨#[hexD i.toNat]⟩, S) :=
  opIxA_str (by rw [dig_len]; decide) h (dig_at ⟨i.toNat, by omega⟩)
def hx (c : Int) : Str := ⟨#[hexD (c / 16).toNat, hexD (c % 16).toNat]⟩
def hxD : D → D
  | .int c => .str (hx c)
  | d => d
theorem hex_ev (hS : lstOf S n = some (bs.map .int)) (h8 : ∀ b ∈ bs, is8P b) (hl : bs.length ≤ 100000) : ∃ T, m_law_hex K [.loc n] S = .ok (.str (hexI bs)) (S ++ T) := by
  obtain ⟨T, e⟩ := eLc_ext (n := 3) (vs := [2]) (fi := iAny (eVar 0)) (g := gN 2) (e := eOp opAdd (eOp opIxA (eVar 1) (eOp opFdiv (eVar 2) (eC (.int 16)))) (eOp opIxA (eVar 1) (eOp opMod (eCall cInt (aCons (eVar 2) aNil)) (eC (.int 16))))) (ρ := [some (.loc n), some (.str dig), none]) (S0 := S) (S := S) (src := lstSrc n bs.length) (ds := bs.map .int) (f := hxD)
    (by simp) (by simp [hS]) (by simp [lstSrc]) (by rw [sizeLine_eq]; simp; omega) (fun i X => by simp [lstSrc, lstOf_app hS])
    (fun d hd X => by
      obtain ⟨c, hc, rfl⟩ := List.mem_map.mp hd
      have h := h8 c hc
      unfold is8P at h
      have x1 := ix_dig (S := S ++ X) (i := c / 16) (by omega) (by omega)
      have x2 := ix_dig (S := S ++ X) (i := c % 16) (by omega) (by omega)
      refine ⟨_, [], rfl, ?_⟩
      simp [x1, x2, opAdd, str_len, sizeLine_eq, str_app, hxD, hx])
  refine ⟨.lst (bs.map fun c => .str (hx c)) :: T, ?_⟩
  have em : (bs.map D.int).map hxD = (bs.map hx).map .str := by simp [hxD]
  rw [em] at e
  have ej : gJoin (.str "") [.loc S.length] (S ++ .lst ((bs.map hx).map .str) :: T) = some (.str (hexI bs), S ++ .lst ((bs.map hx).map .str) :: T) := by
    unfold gJoin
    simp only [lstOf_pk0, lstOf_c0, Option.bind_some, strs_map]
    have hsum : ((bs.map hx).map (·.length)).sum = 2 * bs.length := by
      clear e em hl h8 hS
      induction bs with
      | nil => rfl
      | cons b bs ih => simp only [List.map_cons, List.sum_cons, ih, List.length_cons]; simp only [hx, str_len]; simp; omega
    rw [hsum, if_pos (by simp; show _ ≤ 16777216; rw [show (("" : String) : Str).length = 0 from by decide +kernel]; omega), txt_join]
    simp [hexI, hx, List.flatMap_map]
  unfold m_law_hex mkFn b_law_hex startE
  have d0 : (("0123456789abcdef" : String) : Str) = dig := rfl
  have m1 : (bs.map fun c => D.str (hx c)) = (bs.map hx).map .str := by simp
  rw [m1]
  simp only [d0]
  simp only [sSeq_ev, sAsg_ev, sRet_ev, List.map_cons, List.map_nil, List.length_cons, List.length_nil, List.cons_append, List.nil_append, Nat.reduceAdd, Nat.reduceSub, List.replicate_succ, List.replicate_zero, out_ok, seq_nx, List.set_cons_succ, List.set_cons_zero, eC_ev, eMb_ev, bind_ok, isStr_str, aCons_ev, e, aNil_ev, ej, if_true, of_some]
theorem flatMap_cg {α β : Type} {l : List α} {f g : α → List β} (h : ∀ a ∈ l, f a = g a) : l.flatMap f = l.flatMap g := by
  induction l with
  | nil => rfl
  | cons a l ih => simp only [List.flatMap_cons, h a (List.mem_cons_self ..), ih fun b hb => h b (List.mem_cons_of_mem _ hb)]
/-! ### bytes -/
theorem bytes_size (bs : List Int) : (bytesOf bs).size = bs.length := by simp [bytesOf]
theorem bytes_list (bs : List Int) : (bytesOf bs).toList = bs.map fun n => n.toNat.toUInt8 := by simp [bytesOf]
theorem u8 {b : Int} (h : is8P b) : ((b.toNat.toUInt8).toNat : Int) = b := by
  unfold is8P at h
  have : b.toNat < 256 := by omega
  simp [Nat.mod_eq_of_lt this]; omega
theorem hexS_eq (h8 : ∀ b ∈ bs, is8P b) : hexS (bytesOf bs) = hexI bs := by
  unfold hexS hexI
  rw [bytes_list, List.flatMap_map]
  congr 2
  refine flatMap_cg fun b hb => ?_
  have h := u8 (h8 b hb)
  have hb8 := h8 b hb
  unfold is8P at hb8
  rw [show (b.toNat.toUInt8).toNat = b.toNat by omega]
  rw [show (b / 16).toNat = b.toNat / 16 by omega, show (b % 16).toNat = b.toNat % 16 by omega]
theorem is8_of (h8 : ∀ b ∈ bs, is8P b) : is8 bs = true := by
  unfold is8
  rw [List.all_eq_true]
  intro b hb
  simpa [is8P] using h8 b hb
end
end K04

end

section
set_option maxRecDepth 100000
set_option maxHeartbeats 400000
namespace K04
open PySem L2 M1
section
variable {K : PySem.W.Frag} {S : Store} {n : Nat} {bs : List Int}
/-! ### valid states -/
theorem words_ok {ns : List Int} (h : ∀ w ∈ ns, wd w) : (ns.map D.int).all wordD = true := by
  simp only [List.all_map, List.all_eq_true, Function.comp, wordD, decide_eq_true_eq]
  exact h
theorem ib_ints (ns : List Int) : ∀ d ∈ ns.map D.int, ib d = true := fun d hd => by
  obtain ⟨i, _, rfl⟩ := List.mem_map.mp hd
  rfl
def modeD : D → Bool
  | .int i => decide (i = 0 ∨ i = 1)
  | .bl _ => true
  | _ => false
/-- what is_state says of a tuple of seven -/
theorem is_state7 {ws fs : List D} (hw : ∀ d ∈ ws, ib d = true) (hf : ∀ d ∈ fs, ib d = true) (hl : fs.length = 6) (hz : ws.length ≤ 100000) (S : Store) : ∃ T, m_is_state K [.tup (.tup ws :: fs)] S = .ok (.bl (ws.all wordD && fs.all wordD && decide (16 ≤ ws.length ∧ ws.length ≤ 4000) && modeD (fs.getD 2 .non))) (S ++ T) := by
  obtain ⟨T1, e1⟩ := is_words_ev (K := K) (ds := ws) hw hz S
  obtain ⟨T2, e2⟩ := is_words_ev (K := K) (ds := fs) hf (by omega) (S ++ T1)
  match fs, hl with
  | [a, b, c, d, e, f], _ =>
    have x0 : ∀ S', opIxA (.tup [.tup ws, a, b, c, d, e, f]) (.int 0) S' = some (.tup ws, S') := fun S' => opIxA_tup (by decide) rfl
    have x3 : ∀ S', opIxA (.tup [.tup ws, a, b, c, d, e, f]) (.int 3) S' = some (c, S') := fun S' => opIxA_tup (by decide) rfl
    have hc : ib c = true := hf c (by simp)
    have in2 : ∀ S', opInA c (.tup [.int 0, .int 1]) S' = some (.bl (modeD c), S') := fun S' => by
      unfold opInA orO opIn opInG inD
      cases c with
      | int i => 
        simp [flatD, vOf, inV, eqV, modeD]
        by_cases h0 : i = 0
        · simp [h0]
        · by_cases h1 : i = 1
          · simp [h1]
          · have g0 : ¬ 0 = i := fun h => h0 h.symm
            have g1 : ¬ 1 = i := fun h => h1 h.symm
            simp [h0, h1, g0, g1]
      | bl b => cases b <;> simp [flatD, vOf, inV, eqV, modeD]
      | _ => cases hc
    have cut : ∀ S', opSl (.tup [.tup ws, a, b, c, d, e, f]) (some 1) none S' = some (.tup [a, b, c, d, e, f], S') := fun S' => by rw [opSl_tup, cut_drop (by decide)]; rfl
    have ln : ∀ S', cLen [.tup [.tup ws, a, b, c, d, e, f]] S' = some (.int 7, S') := fun S' => rfl
    have lw : ∀ S', cLen [.tup ws] S' = some (.int ws.length, S') := fun S' => rfl
    have it : ∀ S', cIsi [.tup [.tup ws, a, b, c, d, e, f], .ty "tuple"] S' = some (.bl true, S') := fun S' => rfl
    have tl : ∀ z y : D, [z, y].length ≤ sizeLine := fun _ _ => by rw [sizeLine_eq]; simp
    have q1 : decide ((16 : Int) ≤ ws.length) = decide (16 ≤ ws.length) := by apply decide_eq_decide.mpr; omega
    have q2 : decide ((ws.length : Int) ≤ 4000) = decide (ws.length ≤ 4000) := by apply decide_eq_decide.mpr; omega
    have gd : [a, b, c, d, e, f].getD 2 .non = c := rfl
    have hd : decide (16 ≤ ws.length ∧ ws.length ≤ 4000) = (decide (16 ≤ ws.length) && decide (ws.length ≤ 4000)) := by simp
    rw [gd, hd]
    generalize ws.all wordD = b1 at e1
    generalize [a, b, c, d, e, f].all wordD = b2 at e2
    generalize [a, b, c, d, e, f] = fs at *
    generalize D.tup (D.tup ws :: fs) = st at *
    generalize decide (16 ≤ ws.length) = b3 at q1
    generalize decide (ws.length ≤ 4000) = b4 at q2
    unfold m_is_state mkFn b_is_state startE
    simp_arith [it, ln, x0, e1]
    cases b1
    · exact ⟨T1, by simp_arith [eC_ev]⟩
    · simp_arith [cut, e2]
      refine ⟨T1 ++ T2, ?_⟩
      cases b2
      · simp_arith [eC_ev]
      · cases b3 <;> cases b4 <;> simp_arith [x0, x3, lw, q1, q2, tl, in2]
theorem is_state_ev {s : ST} (h : s.ok) (S : Store) : ∃ T, m_is_state K [s.d] S = .ok (.bl true) (S ++ T) := by
  have lo := h.lo; have hi := h.hi; have hm := h.mode
  obtain ⟨T, e⟩ := is_state7 (K := K) (ws := s.mem.map .int) (fs := [s.acc, s.pc, s.mode, s.base, s.bound, s.timer].map .int) (ib_ints _) (ib_ints _) rfl (by simp; omega) S
  refine ⟨T, ?_⟩
  rw [words_ok h.mem, words_ok (ns := [s.acc, s.pc, s.mode, s.base, s.bound, s.timer]) (by
    intro w hw
    simp at hw
    rcases hw with e | e | e | e | e | e <;> subst e
    · exact h.acc
    · exact h.pc
    · rcases hm with e | e <;> rw [e] <;> exact ⟨by decide, by decide⟩
    · exact h.base
    · exact h.bound
    · exact h.timer)] at e
  simpa [ST.d, lo, hi, hm, modeD] using e
theorem check_ev {s : ST} (h : s.ok) (S : Store) : ∃ T, m_check_state K [s.d] S = .ok .non (S ++ T) := by
  obtain ⟨T, e⟩ := is_state_ev (K := K) h S
  refine ⟨T, ?_⟩
  unfold m_check_state mkFn b_check_state startE
  simp [e]
/-- encode -/
theorem encode_ev {s : ST} (h : s.ok) (S : Store) : ∃ T, m_encode K [s.d] S = .ok (.str (hexI (encB s))) (S ++ T) := by
  obtain ⟨T0, e0⟩ := check_ev (K := K) h S
  have hlen : s.words.length = 6 + s.mem.length := by simp [ST.words]; omega
  have hhi := h.hi
  have hel := enc_len s
  have loop := forN_inv (src := seqSrc (s.words.map .int)) (g := gN 9) (b := (sExpr (eMb isLst gExt (eVar 8) (aCons (eLst (aCons (eOp opFdiv (eVar 9) (eC (.int 256))) (aCons (eOp opSub (eVar 9) (eOp opMulA (eOp opFdiv (eVar 9) (eC (.int 256))) (eC (.int 256)))) aNil))) aNil))))
    (fun i ρ S' => ∃ (x : Option D) (T : Store), ρ = [some s.d, some (.tup (s.mem.map .int)), some (.int s.acc), some (.int s.pc), some (.int s.mode), some (.int s.base), some (.int s.bound), some (.int s.timer), some (.loc (S.length + T0.length)), x] ∧ S' = S ++ (T0 ++ .lst ((s.mode :: (s.words.take i).flatMap wb).map .int) :: T)) s.words.length
    (by
      rintro i ρ S' hi ⟨x, T, rfl, rfl⟩
      have mu : ∀ (a : Int) S', opMulA (.int a) (.int 256) S' = some (.int (a * 256), S') := fun a S' => opMulA_r (by decide) (by decide)
      have ge : gExt (.loc (S.length + T0.length)) [.loc (S.length + (T0.length + (T.length + 1)))] (S ++ (T0 ++ .lst ((s.mode :: (s.words.take i).flatMap wb).map .int) :: (T ++ [.lst ((wb s.words[i]).map .int)]))) = some (.non, S ++ (T0 ++ .lst ((s.mode :: (s.words.take (i + 1)).flatMap wb).map .int) :: (T ++ [.lst ((wb s.words[i]).map .int)]))) := by
        rw [gExt_ev (l := (s.mode :: (s.words.take i).flatMap wb).map .int) (l2 := (wb s.words[i]).map .int) (by rw [lstW_pk, lstW_pk0]; rfl) (by rw [lstW_pk, lstW_pk, lstW_cs, lstW_pk0]; rfl) (by simp only [List.length_map, List.length_cons, flat_len, wb, List.length_take, List.length_nil]; omega), take_flat _ hi]
        simp
      have mod : s.words[i] - s.words[i] / 256 * 256 = s.words[i] % 256 := by omega
      refine ⟨.int s.words[i], _, _, _, by simp [hi], rfl, ?_, some (.int s.words[i]), T ++ [.lst ((wb s.words[i]).map .int)], rfl, rfl⟩
      simp only [wb, List.map_cons, List.map_nil] at ge
      have il : ∀ X, isLst (S ++ (T0 ++ .lst X :: T)) (.loc (S.length + T0.length)) = true := fun X => by rw [isLst_pk, isLst_pk0]; rfl
      simp only [sExpr_ev, eMb_ev, eVar_ev, gN_ev, List.set_cons_succ, List.set_cons_zero, List.getElem?_cons_succ, List.getElem?_cons_zero, bind_ok, il, if_true, aCons_ev, eLst_ev, eOp_ev, eC_ev, opFdiv_int _ _ (show (0 : Int) < 256 by decide) (by decide), of_some, mu, opSub_int, mod, aNil_ev, sizeLine_eq, List.length_cons, List.length_nil, List.length_append, List.append_assoc, List.cons_append, wb, List.map_cons, List.map_nil]
      rw [if_pos (by decide)]
      simp only [bind_ok, ge, of_some, out_ok])
    (by rintro ρ S' ⟨x, T, rfl, rfl⟩; simp)
    (s.words.length + 1) 0 [some s.d, some (.tup (s.mem.map .int)), some (.int s.acc), some (.int s.pc), some (.int s.mode), some (.int s.base), some (.int s.bound), some (.int s.timer), some (.loc (S.length + T0.length)), none] (S ++ (T0 ++ [.lst [.int s.mode]])) (by omega) (by omega) ⟨none, [], rfl, rfl⟩
  obtain ⟨ρ', S', e, x, T, rfl, rfl⟩ := loop
  rw [List.take_of_length_le (Nat.le_refl _)] at e
  refine ⟨T0 ++ .lst ((encB s).map .int) :: T, ?_⟩
  have cb : cByt [.loc (S.length + T0.length)] (S ++ (T0 ++ .lst ((encB s).map .int) :: T)) = some (.byt (bytesOf (encB s)), S ++ (T0 ++ .lst ((encB s).map .int) :: T)) := by
    unfold cByt
    simp only [lstOf_pk, lstOf_pk0, lstOf_c0, Option.bind_some, ints_map, is8_of (enc_is8 h), if_true]
  have ew : s.words.map D.int = [D.int s.acc, .int s.pc, .int s.base, .int s.bound, .int s.timer, .int s.mem.length] ++ s.mem.map .int := by simp [ST.words]
  rw [ew, hlen] at e
  have es : (encB s) = s.mode :: s.words.flatMap wb := rfl
  rw [← es] at e
  generalize hE : (encB s).map D.int = E at e cb
  unfold ST.d at e e0
  simp only [List.cons_append, List.nil_append] at e
  unfold m_encode mkFn b_encode startE ST.d
  have hb : (bytesOf (encB s)).size ≤ 8388608 := by rw [bytes_size]; omega
  simp (disch := first | assumption | omega | (simp; done) | (simp; omega) | fail) [e0, sizeLine_eq, show s.mem.length + 1 + 1 + 1 + 1 + 1 + 1 + 1 = 6 + s.mem.length + 1 by omega, e, cb, hb, hexS_eq (enc_is8 h)]
end
end K04

end

section
set_option maxRecDepth 100000
set_option maxHeartbeats 400000
namespace K04
open PySem L2 M1
def dec (bs : List Int) (o : Nat) : List (Str × D) := [("data", .byt (bytesOf bs)), ("offset", .int o)]
theorem dec_data (bs o) : (dec bs o).lookup ("data" : Str) = some (.byt (bytesOf bs)) := rfl
theorem dec_off (bs o) : (dec bs o).lookup ("offset" : Str) = some (.int o) := rfl
theorem dec_put (bs : List Int) (o p : Nat) : putD "offset" (.int p) (dec bs o) = dec bs p := rfl
theorem insOf_at {C : Addr} {S : Store} {n : Nat} {fs} (h : S[n]? = some (.ins C fs)) : insOf [C] S (.loc n) = some (C, fs) := by simp [insOf, h]
theorem set_same {S : Store} {n : Nat} {o : SO} (h : S[n]? = some o) : S.set n o = S := by
  apply List.ext_getElem?
  intro i
  by_cases e : i = n
  · subst e
    by_cases hl : i < S.length
    · rw [List.getElem?_set_self hl, h]
    · rw [List.getElem?_eq_none (by omega)] at h; cases h
  · rw [List.getElem?_set_ne (Ne.symm e)]
theorem get_set_self {S : Store} {n : Nat} {o x : SO} (h : S[n]? = some o) : (S.set n x)[n]? = some x := by
  have hl : n < S.length := by
    by_cases hl : n < S.length
    · exact hl
    · rw [List.getElem?_eq_none (by omega)] at h; cases h
  rw [List.getElem?_set_self hl]
def rdB (bs : List Int) (o : Nat) (lo hi : Int) : Option Int := match bs[o]? with
  | none => none
  | some a => if lo ≤ a ∧ a ≤ hi then some a else none
def rdW (bs : List Int) (o : Nat) (lo hi : Int) : Except Nat Int :=
  match bs[o]? with
  | none => .error o
  | some a => if lo / 256 ≤ a ∧ a ≤ hi / 256 then
    match bs[o+1]? with
    | none => .error (o+1)
    | some b => if lo ≤ 256 * a + b ∧ 256 * a + b ≤ hi then .ok (256 * a + b) else .error (o + 1)
    else .error o
section
variable {K : PySem.W.Frag} {S : Store} {n : Nat} {bs : List Int}
abbrev DE (K : PySem.W.Frag) : Value := .ref (He.ga K "DecodeError")
abbrev DC (K : PySem.W.Frag) : Addr := He.ga K "Decoder"
theorem byte_at (h8 : ∀ b ∈ bs, is8P b) {o : Nat} {a : Int} (h : bs[o]? = some a) : (((bytesOf bs).toList.getD o 0).toNat : Int) = a := by
  rw [bytes_list, List.getD_eq_getElem?_getD, List.getElem?_map, h]
  exact u8 (h8 a (List.mem_of_getElem? h))
theorem read_byte_ev (h8 : ∀ b ∈ bs, is8P b) (hl : bs.length ≤ 100000) {o : Nat} {lo hi : Int} (hn : S[n]? = some (.ins (DC K) (dec bs o))) : m_Decoder_read_byte K [.loc n, .int lo, .int hi] S =
    match rdB bs o lo hi with
    | some a => .ok (.int a) (S.set n (.ins (DC K) (dec bs (o + 1))))
    | none => .ex (DE K) (some S.length) (S ++ [.xd [("offset", .int o)]]) := by
  have io := insOf_at hn
  have is : insOf [DC K] (S.set n (.ins (DC K) (dec bs (o + 1)))) (.loc n) = some (DC K, dec bs (o + 1)) := insOf_at (get_set_self hn)
  have lb : ∀ S', cLen [.byt (bytesOf bs)] S' = some (.int bs.length, S') := fun S' => by
    show (if (bytesOf bs).size ≤ sizeLine then some (D.int (bytesOf bs).size, S') else none) = _
    rw [bytes_size, sizeLine_eq, if_pos (by omega)]
  have dl : ∀ o, (dec bs o).length = 2 := fun _ => rfl
  have p1 : putD "offset" (.int ((o : Int) + 1)) (dec bs o) = dec bs (o + 1) := dec_put bs o (o + 1)
  have sub1 : ((o + 1 : Nat) : Int) - 1 = (o : Int) := by omega
  unfold m_Decoder_read_byte mkFn b_Decoder_read_byte startE rdB
  by_cases hlt : o < bs.length
  · have ho := List.getElem?_eq_getElem hlt
    have ix : ∀ S', opIxA (.byt (bytesOf bs)) (.int o) S' = some (.int bs[o], S') := fun S' => by
      rw [opIxA_byt (by rw [bytes_size]; omega) (by omega) (by rw [bytes_size]; omega)]
      rw [Int.toNat_natCast, byte_at h8 ho]
    rw [ho]
    have g : decide ((bs.length : Int) ≤ o) = false := by simp; omega
    by_cases h1 : lo ≤ bs[o]
    · by_cases h2 : bs[o] ≤ hi
      · simp_arith [io, dec_off, dec_data, lb, g, ix, h1, h2, dl, p1, is, sub1, and_self]
      · simp_arith [io, dec_off, dec_data, lb, g, ix, h1, h2, dl, p1, is, sub1, and_false]
    · simp_arith [io, dec_off, dec_data, lb, g, ix, h1, dl, p1, is, sub1, false_and]
  · rw [List.getElem?_eq_none (by omega)]
    have g : decide ((bs.length : Int) ≤ o) = true := by simp; omega
    simp_arith [io, dec_off, dec_data, lb, g]
theorem metOf_at {C : Addr} {mm : Str} {fs} (h : S[n]? = some (.ins C fs)) (hm : fs.lookup mm = none) : metOf C mm S (.loc n) = true := by
  unfold metOf; rw [insOf_at h]; simp [hm]
theorem dec_rb (bs o) : (dec bs o).lookup ("read_byte" : Str) = none := rfl
theorem dec_rw (bs o) : (dec bs o).lookup ("read_word" : Str) = none := rfl
theorem read_word_ev (h8 : ∀ b ∈ bs, is8P b) (hl : bs.length ≤ 100000) {o : Nat} {lo hi : Int} (hn : S[n]? = some (.ins (DC K) (dec bs o))) (h0 : 0 ≤ lo) (h1 : lo ≤ hi) (h2 : hi < 65536) : m_Decoder_read_word K [.loc n, .int lo, .int hi] S =
    match rdW bs o lo hi with
    | .ok w => .ok (.int w) (S.set n (.ins (DC K) (dec bs (o + 2))))
    | .error e => .ex (DE K) (some S.length) (S.set n (.ins (DC K) (dec bs e)) ++ [.xd [("offset", .int e)]]) := by
  have mo := metOf_at hn (dec_rb bs o)
  have mu : ∀ (a : Int) S', opMulA (.int a) (.int 256) S' = some (.int (a * 256), S') := fun a S' => opMulA_r (by decide) (by decide)
  have e1 := read_byte_ev (K := K) (S := S) h8 hl (lo := lo / 256) (hi := hi / 256) hn
  unfold rdW
  unfold rdB at e1
  cases ho : bs[o]? with
  | none =>
    rw [ho] at e1
    simp only at e1 ⊢
    rw [set_same hn]
    unfold m_Decoder_read_word mkFn b_Decoder_read_word startE
    simp_arith [mo, e1]
  | some a =>
    rw [ho] at e1
    simp only at e1 ⊢
    by_cases ha : lo / 256 ≤ a ∧ a ≤ hi / 256
    · rw [if_pos ha] at e1 ⊢
      simp only at e1
      have a8 := h8 a (List.mem_of_getElem? ho)
      unfold is8P at a8
      have hn2 := get_set_self (x := .ins (DC K) (dec bs (o + 1))) hn
      have mo2 := metOf_at hn2 (dec_rb bs (o + 1))
      obtain ⟨mi, hmi⟩ : ∃ mi : Int, mi = if a = lo / 256 then lo - a * 256 else 0 := ⟨_, rfl⟩
      obtain ⟨ma, hma⟩ : ∃ mi : Int, mi = if a = hi / 256 then hi - a * 256 else 255 := ⟨_, rfl⟩
      have e2 := read_byte_ev (K := K) (S := S.set n (.ins (DC K) (dec bs (o + 1)))) h8 hl (lo := mi) (hi := ma) hn2
      have ee : ∀ b : Int, 0 ≤ b → b ≤ 255 → ((mi ≤ b ∧ b ≤ ma) ↔ (lo ≤ 256 * a + b ∧ 256 * a + b ≤ hi)) := fun b hb hb2 => by
        rw [hmi, hma]
        split <;> split <;> omega
      have b1 : ∀ S', (if decide (a = lo / 256) = true then (R.ok (.int (lo - a * 256)) S' : R D) else .ok (.int 0) S') = .ok (.int mi) S' := fun S' => by
        rw [hmi]
        by_cases h : a = lo / 256 <;> simp [h]
      have b2 : ∀ S', (if decide (a = hi / 256) = true then (R.ok (.int (hi - a * 256)) S' : R D) else .ok (.int 255) S') = .ok (.int ma) S' := fun S' => by
        rw [hma]
        by_cases h : a = hi / 256 <;> simp [h]
      have rd : rdB bs (o + 1) mi ma = match bs[o+1]? with
          | none => none
          | some b => if lo ≤ 256 * a + b ∧ 256 * a + b ≤ hi then some b else none := by
        unfold rdB
        cases ho2 : bs[o+1]? with
        | none => rfl
        | some b =>
          have b8 := h8 b (List.mem_of_getElem? ho2)
          unfold is8P at b8
          simp only [ee b b8.1 b8.2]
      rw [rd] at e2
      unfold m_Decoder_read_word mkFn b_Decoder_read_word startE
      simp only [sSeq_ev, sAsg_ev, sRet_ev, List.length_cons, List.length_nil, Nat.reduceAdd, if_true, List.map_cons, List.map_nil, List.cons_append, List.nil_append, Nat.reduceSub, List.replicate_succ, List.replicate_zero, eM_ev, eVar_ev, List.getElem?_cons_zero, bind_ok, mo, aCons_ev, List.getElem?_cons_succ, eOp_ev, eC_ev, opFdiv_int _ _ (show (0 : Int) < 256 by decide) (by decide), of_some, aNil_ev, List.append_nil, e1, out_ok, seq_nx, List.set_cons_succ, List.set_cons_zero]
      cases ho2 : bs[o+1]? with
      | none =>
        rw [ho2] at e2
        simp only [List.length_set, List.set_set] at e2
        simp_arith [b1, b2, mo2, e2, mu]
      | some b =>
        rw [ho2] at e2
        simp only [List.length_set, List.set_set] at e2
        by_cases hb : lo ≤ 256 * a + b ∧ 256 * a + b ≤ hi
        · rw [if_pos hb] at e2
          simp only at e2
          simp only [if_pos hb]
          have ab : a * 256 + b = 256 * a + b := by omega
          simp_arith [b1, b2, mo2, e2, mu, ab]
        · rw [if_neg hb] at e2
          simp only at e2
          simp only [if_neg hb]
          simp_arith [b1, b2, mo2, e2, mu]
    · rw [if_neg ha] at e1 ⊢
      simp only at e1 ⊢
      rw [set_same hn]
      unfold m_Decoder_read_word mkFn b_Decoder_read_word startE
      simp_arith [mo, e1]
end
end K04

end

section
set_option maxRecDepth 100000
set_option maxHeartbeats 400000
namespace K04
open PySem L2 M1
/-- k words, each below 10000 -/
def rdN (bs : List Int) : Nat → Nat → Except Nat (List Int)
  | _, 0 => .ok []
  | o, k + 1 => match rdW bs o 0 9999 with
    | .error e => .error e
    | .ok w => match rdN bs (o + 2) k with
      | .error e => .error e
      | .ok ws => .ok (w :: ws)
theorem rdN_len {bs : List Int} : ∀ {k o : Nat} {ws : List Int}, rdN bs o k = .ok ws → ws.length = k
  | 0, o, ws, h => by simp [rdN] at h; subst h; rfl
  | k + 1, o, ws, h => by
    simp only [rdN] at h
    split at h
    · cases h
    · split at h
      · cases h
      · rename_i ws' h2
        cases h
        simp [rdN_len h2]
def decP (bs : List Int) : Except Nat ST :=
  match rdB bs 0 0 1 with
  | none => .error 0
  | some mode => match rdN bs 1 5 with
    | .error e => .error e
    | .ok ws => match rdW bs 11 16 4000 with
      | .error e => .error e
      | .ok sz => match rdN bs 13 sz.toNat with
        | .error e => .error e
        | .ok mem => if 13 + 2 * sz.toNat < bs.length then .error (13 + 2 * sz.toNat) else .ok ⟨mem, ws.getD 0 0, ws.getD 1 0, mode, ws.getD 2 0, ws.getD 3 0, ws.getD 4 0⟩
section
variable {K : PySem.W.Frag} {S : Store} {n : Nat} {bs : List Int}
/-- the element of the comprehensions of decode -/
abbrev eW (K : PySem.W.Frag) : Ex := eM (He.ga K "Decoder") "read_word" (m_Decoder_read_word K) [] (eVar 1) (aCons (eC (.int 0)) (aCons (eOp opSub (eC (.int 10000)) (eC (.int 1))) aNil))
theorem comp_rd (h8 : ∀ b ∈ bs, is8P b) (hl : bs.length ≤ 100000) {a c m : Nat} (hac : a ≠ c) (hm : m ≤ 100000) {ρ0 : M1.Env} (hr : ρ0.length = 12) (hr1 : ρ0[1]? = some (some (.loc (S.length + a)))) :
    ∀ (k i o : Nat) (U : Store) (acc : List D), U[a]? = some (.ins (DC K) (dec bs o)) → lstW U c = some acc → acc.length = i → i ≤ m → m + 1 ≤ k + i →
    match rdN bs o (m - i) with
    | .ok ws => ∃ U', compN (rngD 0 m) (gN 10) tYesM (eW K) ρ0 (S.length + c) k i (S ++ U) = .ok () (S ++ U') ∧ U'[a]? = some (.ins (DC K) (dec bs (o + 2 * (m - i)))) ∧ lstW U' c = some (acc ++ ws.map .int)
    | .error e => ∃ U' d, compN (rngD 0 m) (gN 10) tYesM (eW K) ρ0 (S.length + c) k i (S ++ U) = .ex (DE K) (some (S.length + d)) (S ++ U') ∧ U'[d]? = some (.xd [("offset", .int e)])
  | 0, i, o, U, acc, _, _, _, h1, h2 => by omega
  | k + 1, i, o, U, acc, hU, hL, h0, h1, h2 => by
    by_cases hi : i < m
    · obtain ⟨t, ht⟩ : ∃ t, m - i = t + 1 := ⟨m - i - 1, by omega⟩
      rw [ht]
      simp only [rdN]
      have hU' : (S ++ U)[S.length + a]? = some (.ins (DC K) (dec bs o)) := by rw [List.getElem?_append_right (by omega)]; simpa using hU
      have e1 := read_word_ev (K := K) (S := S ++ U) (n := S.length + a) h8 hl (lo := 0) (hi := 9999) hU' (by decide) (by decide) (by decide)
      have mo := metOf_at hU' (dec_rw bs o)
      have hv : eVar 1 (ρ0.set 10 (some (.int (0 + i)))) (S ++ U) = .ok (.loc (S.length + a)) (S ++ U) := by
        have : (ρ0.set 10 (some (D.int (0 + i))))[1]? = some (some (.loc (S.length + a))) := by
          rw [List.getElem?_set_ne (by decide)]; exact hr1
        rw [eVar_ev, this]
      have he : eW K (ρ0.set 10 (some (.int (0 + i)))) (S ++ U) = m_Decoder_read_word K [.loc (S.length + a), .int 0, .int 9999] (S ++ U) := by
        simp only [eM_ev, hv, bind_ok, mo, if_true, aCons_ev, eC_ev, eOp_ev, opSub_int, of_some, aNil_ev, List.append_nil, List.cons_append, List.nil_append]
        rfl
      unfold compN
      simp only [rngD_item, if_pos hi, gN_ev, tYesM, bind_ok, if_true]
      rw [he, e1]
      have hal : a < U.length := by
        by_cases hx : a < U.length
        · exact hx
        · rw [List.getElem?_eq_none (by omega)] at hU; cases hU
      cases hw : rdW bs o 0 9999 with
      | error e =>
        simp only [bind_ex, set_pk, List.append_assoc]
        refine ⟨U.set a (.ins (DC K) (dec bs e)) ++ [.xd [("offset", .int e)]], U.length, ?_, ?_⟩
        · rw [List.length_append]
        · rw [List.getElem?_append_right (by simp)]; simp
      | ok w =>
        simp only [bind_ok, set_pk]
        have hL2 : lstW (U.set a (.ins (DC K) (dec bs (o + 2)))) c = some acc := by
          unfold lstW at hL ⊢
          rw [List.getElem?_set_ne hac]; exact hL
        rw [lstW_pk, hL2]
        simp only [set_pk]
        rw [sizeLine_eq, if_pos (by omega)]
        have hcl := lt_of_lstW hL2
        have ih := comp_rd h8 hl hac hm hr hr1 k (i + 1) (o + 2) ((U.set a (.ins (DC K) (dec bs (o + 2)))).set c (.lst (acc ++ [.int w]))) (acc ++ [.int w]) (by
          rw [List.getElem?_set_ne (Ne.symm hac), List.getElem?_set_self hal]) (by
          unfold lstW; rw [List.getElem?_set_self hcl]) (by simp [h0]) (by omega) (by omega)
        rw [show m - (i + 1) = t by omega] at ih
        cases hn : rdN bs (o + 2) t with
        | error e => rw [hn] at ih; exact ih
        | ok ws =>
          rw [hn] at ih
          obtain ⟨U', a1, a2, a3⟩ := ih
          refine ⟨U', a1, ?_, ?_⟩
          · rw [a2, show o + 2 + 2 * t = o + 2 * (t + 1) by omega]
          · rw [a3]; simp
    · rw [show m - i = 0 by omega]
      simp only [rdN]
      refine ⟨U, ?_, by simpa using hU, by simpa using hL⟩
      unfold compN
      simp only [rngD_item, if_neg hi]
theorem lc_ev (h8 : ∀ b ∈ bs, is8P b) (hl : bs.length ≤ 100000) {a m o : Nat} (hm : m ≤ 100000) {ρ : M1.Env} {fi : Ix} {U : Store} (hr : ρ.length = 12) (hr1 : ρ[1]? = some (some (.loc (S.length + a)))) (hU : U[a]? = some (.ins (DC K) (dec bs o))) (hf : fi ρ (S ++ U) = .ok (rngD 0 m) (S ++ U)) :
    match rdN bs o m with
    | .ok ws => ∃ U', eLc 12 [10] fi (gN 10) tYesM (eW K) ρ (S ++ U) = .ok (.loc (S.length + U.length)) (S ++ U') ∧ U'[a]? = some (.ins (DC K) (dec bs (o + 2 * m))) ∧ lstW U' U.length = some (ws.map .int)
    | .error e => ∃ U' d, eLc 12 [10] fi (gN 10) tYesM (eW K) ρ (S ++ U) = .ex (DE K) (some (S.length + d)) (S ++ U') ∧ U'[d]? = some (.xd [("offset", .int e)]) := by
  have hal : a < U.length := by
    by_cases hx : a < U.length
    · exact hx
    · rw [List.getElem?_eq_none (by omega)] at hU; cases hU
  have c := comp_rd (K := K) (S := S) h8 hl (a := a) (c := U.length) (m := m) (by omega) hm (ρ0 := wipeE ρ [10]) (by simp [hr]) (by rw [wipeE_cons, wipeE_nil, List.getElem?_set_ne (by decide)]; exact hr1) (m + 1) 0 o (U ++ [.lst []]) [] (by rw [List.getElem?_append_left hal]; exact hU) (by simp) rfl (by omega) (by omega)
  unfold eLc
  rw [if_pos (by omega), hf]
  simp only [bind_ok, rngD_bound, List.length_append, List.append_assoc]
  rw [Nat.sub_zero] at c
  cases hn : rdN bs o m with
  | ok ws =>
    rw [hn] at c
    obtain ⟨U', e, h1, h2⟩ := c
    exact ⟨U', by rw [e]; rfl, h1, by simpa using h2⟩
  | error e =>
    rw [hn] at c
    obtain ⟨U', d, e1, h1⟩ := c
    exact ⟨U', d, by rw [e1]; rfl, h1⟩
theorem rdW_bd {o : Nat} {lo hi w : Int} (h : rdW bs o lo hi = .ok w) : lo ≤ w ∧ w ≤ hi := by
  unfold rdW at h
  split at h
  · cases h
  · split at h
    · split at h
      · cases h
      · split at h
        · rename_i hh; cases h; exact hh
        · cases h
    · cases h
/-! ### decode -/
def isHex (z : Str) : Bool := z.cps.toList.all fun c => decide (c ∈ dig.cps.toList)
theorem all_hex {z : Str} (hz : z.length ≤ 100000) {ρ : M1.Env} (hr : ρ.length ≤ 12) (h0 : ρ[0]? = some (some (.str z))) (h1 : 11 < ρ.length) : ∃ T, eLc 12 [11] (iAny (eVar 0)) (gN 11) tYesM (eOp opInA (eVar 11) (eC (.str "0123456789abcdef"))) ρ S = .ok (.loc S.length) (S ++ T) ∧ cAll [.loc S.length] (S ++ T) = some (.bl (isHex z), S ++ T) := by
  have hz' : z.cps.size ≤ 100000 := hz
  obtain ⟨T, e⟩ := eLc_ext (n := 12) (vs := [11]) (fi := iAny (eVar 0)) (g := gN 11) (e := eOp opInA (eVar 11) (eC (.str "0123456789abcdef"))) (ρ := ρ) (S0 := S) (S := S) (src := sgnSrc z) (ds := z.cps.toList.map fun c => .str ⟨#[c]⟩) (f := fun d => match d with | .str y => .bl (decide (y.cps.getD 0 0 ∈ dig.cps.toList)) | d => d)
    hr (by simp [h0]) (by simp [sgnSrc]) (by rw [sizeLine_eq]; simp; omega) (fun i X => by simp [sgnSrc])
    (fun d hd X => by
      obtain ⟨c, hc, rfl⟩ := List.mem_map.mp hd
      refine ⟨_, [], rfl, ?_⟩
      have hv : eVar 11 ((wipeE ρ [11]).set 11 (some (.str ⟨#[c]⟩))) (S ++ X) = .ok (.str ⟨#[c]⟩) (S ++ X) := by
        rw [eVar_ev, List.getElem?_set_self (by simp; omega)]
      simp only [eOp_ev, hv, bind_ok, eC_ev]
      show R.of (opInA (.str ⟨#[c]⟩) (.str dig) (S ++ X)) = _
      simp [opInA, orO, opIn, opInG, opInC])
  refine ⟨.lst (z.cps.toList.map fun c => .bl (decide (c ∈ dig.cps.toList))) :: T, ?_⟩
  have em : (z.cps.toList.map fun c => D.str ⟨#[c]⟩).map (fun d => match d with | .str y => D.bl (decide (y.cps.getD 0 0 ∈ dig.cps.toList)) | d => d) = (z.cps.toList.map fun c => decide (c ∈ dig.cps.toList)).map .bl := by
    rw [List.map_map, List.map_map]; rfl
  rw [em] at e
  have em2 : (z.cps.toList.map fun c => D.bl (decide (c ∈ dig.cps.toList))) = (z.cps.toList.map fun c => decide (c ∈ dig.cps.toList)).map .bl := by
    rw [List.map_map]; rfl
  rw [em2]
  have ec : cAll [.loc S.length] (S ++ .lst ((z.cps.toList.map fun c => decide (c ∈ dig.cps.toList)).map .bl) :: T) = some (.bl (isHex z), S ++ .lst ((z.cps.toList.map fun c => decide (c ∈ dig.cps.toList)).map .bl) :: T) := by
    simp only [cAll, lstOf_pk0, lstOf_c0, Option.bind_some, bls_map, Option.map_some]
    simp [isHex, List.all_map, Function.comp_def]
  exact ⟨e, ec⟩
theorem and1 (n : Nat) : opAnd (.int n) (.int 1) S = some (.int (n % 2 : Nat), S) := by
  unfold opAnd Builtin.bitAnd
  simp [Nat.and_one_is_mod]
/-- texts that are no pairs of digits -/
theorem decode_bad {z : Str} (hz : z.length ≤ 100000) (hb : z.length % 2 = 1 ∨ isHex z = false) : ∃ T d, m_decode K [.str z] S = .ex (DE K) (some (S.length + d)) (S ++ T) ∧ T[d]? = some (.xd [("offset", .non)]) := by
  have ln : ∀ S', cLen [.str z] S' = some (.int z.length, S') := fun S' => by
    show (if z.length ≤ sizeLine then some (D.int z.length, S') else none) = _
    rw [sizeLine_eq, if_pos (by omega)]
  have it : ∀ S', cIsi [.str z, .ty "str"] S' = some (.bl true, S') := fun S' => rfl
  unfold m_decode mkFn b_decode startE
  obtain ⟨T, e, ec⟩ := all_hex (S := S) hz (ρ := [some (.str z), none, none, none, none, none, none, none, none, none, none, none]) (by simp) rfl (by simp)
  by_cases h1 : z.length % 2 = 1
  · refine ⟨[.xd [("offset", .non)]], 0, ?_, rfl⟩
    have a1 : ∀ S', opAnd (.int z.length) (.int 1) S' = some (.int 1, S') := fun S' => by rw [and1, h1]; rfl
    simp_arith [it, ln, a1]
    rfl
  · have h0 : z.length % 2 = 0 := by omega
    have a1 : ∀ S', opAnd (.int z.length) (.int 1) S' = some (.int 0, S') := fun S' => by rw [and1, h0]; rfl
    have hx : isHex z = false := by rcases hb with h | h; exact absurd h h1; exact h
    rw [hx] at ec
    refine ⟨T ++ [.xd [("offset", .non)]], T.length, ?_, by simp⟩
    simp_arith [it, ln, a1, e, ec]
/-- what is no text -/
theorem decode_no {x : D} (hx : ∀ S', cIsi [x, .ty "str"] S' = some (.bl false, S')) : ∃ T d, m_decode K [x] S = .ex (DE K) (some (S.length + d)) (S ++ T) ∧ T[d]? = some (.xd [("offset", .non)]) := by
  refine ⟨[.xd [("offset", .non)]], 0, ?_, rfl⟩
  unfold m_decode mkFn b_decode startE
  simp_arith [hx]
  rfl
theorem hexV_D : ∀ i : Fin 16, M1F.hexV (hexD i.val) = some i.val := by decide +kernel
theorem hexD_dig : ∀ i : Fin 16, hexD i.val ∈ dig.cps.toList := by decide +kernel
theorem hexD_lt : ∀ i : Fin 16, hexD i.val < 1114112 := by decide +kernel
theorem hexI_list (bs : List Int) : (hexI bs).cps.toList = bs.flatMap fun c => [hexD (c / 16).toNat, hexD (c % 16).toNat] := by simp [hexI]
theorem hexI_len (bs : List Int) : (hexI bs).length = 2 * bs.length := by
  have : ∀ bs : List Int, (bs.flatMap fun c => [hexD (c / 16).toNat, hexD (c % 16).toNat]).length = 2 * bs.length := fun bs => by
    induction bs with
    | nil => rfl
    | cons b bs ih => simp only [List.flatMap_cons, List.length_append, ih, List.length_cons, List.length_nil]; omega
  show ((hexI bs).cps).size = _
  rw [← this bs]
  simp [hexI]
theorem hexI_isHex (h8 : ∀ b ∈ bs, is8P b) : isHex (hexI bs) = true := by
  unfold isHex
  rw [hexI_list, List.all_eq_true]
  intro c hc
  obtain ⟨b, hb, e⟩ := List.mem_flatMap.mp hc
  have h := h8 b hb
  unfold is8P at h
  simp at e
  rcases e with e | e <;> subst e
  · exact decide_eq_true (hexD_dig ⟨(b / 16).toNat, by omega⟩)
  · exact decide_eq_true (hexD_dig ⟨(b % 16).toNat, by omega⟩)
theorem unhex_hexI : ∀ {bs : List Int}, (∀ b ∈ bs, is8P b) → M1F.unhex (bs.flatMap fun c => [hexD (c / 16).toNat, hexD (c % 16).toNat]) = some (bs.map fun n => n.toNat.toUInt8)
  | [], _ => rfl
  | b :: bs, h8 => by
    have h := h8 b (List.mem_cons_self ..)
    unfold is8P at h
    have e1 := hexV_D ⟨(b / 16).toNat, by omega⟩
    have e2 := hexV_D ⟨(b % 16).toNat, by omega⟩
    simp only at e1 e2
    have ih := unhex_hexI (bs := bs) fun c hc => h8 c (List.mem_cons_of_mem _ hc)
    simp only [List.flatMap_cons, List.cons_append, List.nil_append, M1F.unhex, e1, e2, Option.bind_some, ih, Option.map_some, List.map_cons]
    rw [show (b / 16).toNat * 16 + (b % 16).toNat = b.toNat by omega]
theorem efh_ev {ρ : M1.Env} (h8 : ∀ b ∈ bs, is8P b) (hl : bs.length ≤ 100000) (h0 : ρ[0]? = some (some (.str (hexI bs)))) : eFH 0 ρ S = .ok (.byt (bytesOf bs)) S := by
  unfold eFH
  rw [h0]
  simp only
  rw [hexI_len, sizeLine_eq, if_pos (by omega), hexI_list, unhex_hexI h8]
  rfl
def dt (bs : List Int) : List (Str × D) := [("data", .byt (bytesOf bs))]
/-- decode of pairs of digits -/
theorem decode_ev (h8 : ∀ b ∈ bs, is8P b) (hl : bs.length ≤ 40000) (S : Store) :
    match decP bs with
    | .ok s => ∃ T, m_decode K [.str (hexI bs)] S = .ok s.d (S ++ T)
    | .error e => ∃ T d, m_decode K [.str (hexI bs)] S = .ex (DE K) (some (S.length + d)) (S ++ T) ∧ T[d]? = some (.xd [("offset", .int e)]) := by
  have hzl := hexI_len bs
  have ln : ∀ S', cLen [.str (hexI bs)] S' = some (.int (2 * bs.length : Nat), S') := fun S' => by
    show (if (hexI bs).length ≤ sizeLine then some (D.int (hexI bs).length, S') else none) = _
    rw [sizeLine_eq, hzl, if_pos (by omega)]
  have it : ∀ S', cIsi [.str (hexI bs), .ty "str"] S' = some (.bl true, S') := fun S' => rfl
  have a1 : ∀ S', opAnd (.int (2 * bs.length : Nat)) (.int 1) S' = some (.int 0, S') := fun S' => by rw [and1, show 2 * bs.length % 2 = 0 by omega]; rfl
  obtain ⟨T0, e0, ec⟩ := all_hex (S := S) (z := hexI bs) (by omega) (ρ := [some (.str (hexI bs)), none, none, none, none, none, none, none, none, none, none, none]) (by simp) rfl (by simp)
  rw [hexI_isHex h8] at ec
  have ef : ∀ S', eFH 0 [some (.str (hexI bs)), none, none, none, none, none, none, none, none, none, none, none] S' = .ok (.byt (bytesOf bs)) S' := fun S' => efh_ev h8 (by omega) rfl
  have mk : m_Decoder___init__ K [.loc (S.length + T0.length), .byt (bytesOf bs)] (S ++ (T0 ++ [.ins (DC K) []])) = .ok .non (S ++ (T0 ++ [.ins (DC K) (dec bs 0)])) := by
    unfold m_Decoder___init__ mkFn b_Decoder___init__ startE
    have i1 : insOf [DC K] (S ++ (T0 ++ [.ins (DC K) []])) (.loc (S.length + T0.length)) = some (DC K, []) := insOf_at (by simp)
    have i2 : insOf [DC K] (S ++ (T0 ++ [.ins (DC K) (dt bs)])) (.loc (S.length + T0.length)) = some (DC K, dt bs) := insOf_at (by simp)
    have p1 : putD "data" (.byt (bytesOf bs)) [] = dt bs := rfl
    have p2 : putD "offset" (.int 0) (dt bs) = dec bs 0 := rfl
    have l1 : (dt bs).length = 1 := rfl
    simp_arith [i1, p1, i2, p2, l1]
  have hn0 : (S ++ (T0 ++ [.ins (DC K) (dec bs 0)]))[S.length + T0.length]? = some (.ins (DC K) (dec bs 0)) := by simp
  have mo0 := metOf_at hn0 (dec_rb bs 0)
  have rb := read_byte_ev (K := K) h8 (by omega) (lo := 0) (hi := 1) hn0
  rw [set_pk] at rb
  unfold decP
  cases hmode : rdB bs 0 0 1 with
  | none =>
    rw [hmode] at rb
    simp only at rb ⊢
    refine ⟨T0 ++ [.ins (DC K) (dec bs 0), .xd [("offset", .int 0)]], T0.length + 1, ?_, by simp⟩
    unfold m_decode mkFn b_decode startE
    simp only [List.length_append, List.append_assoc, List.cons_append, List.nil_append, List.length_cons, List.length_nil, Nat.reduceAdd] at rb
    simp_arith [it, ln, a1, e0, ec, ef, mk, mo0, rb]
    rfl
  | some mode =>
    rw [hmode] at rb
    simp only at rb ⊢
    have st1 : (T0 ++ [SO.ins (DC K) (dec bs 0)]).set T0.length (SO.ins (DC K) (dec bs (0 + 1))) = T0 ++ [SO.ins (DC K) (dec bs 1)] := by simp
    rw [st1] at rb
    have l1 := lc_ev (K := K) (S := S) h8 (by omega) (a := T0.length) (m := 5) (o := 1) (by decide) (ρ := [some (.str (hexI bs)), some (.loc (S.length + T0.length)), some (.int mode), none, none, none, none, none, none, none, none, none]) (fi := iRng1 (aCons (eC (.int 5)) aNil)) (U := T0 ++ [.ins (DC K) (dec bs 1)]) rfl rfl (by simp) (by simp_arith [eC_ev]; rfl)
    simp only [List.length_append, List.length_cons, List.length_nil, Nat.reduceAdd, Nat.reduceMul] at l1
    cases h5 : rdN bs 1 5 with
    | error e =>
      rw [h5] at l1
      simp only at l1 ⊢
      obtain ⟨U, d, l1, hd⟩ := l1
      refine ⟨U, d, ?_, hd⟩
      unfold m_decode mkFn b_decode startE
      simp_arith [it, ln, a1, e0, ec, ef, mk, mo0, rb, sAsg_ev2, l1]
    | ok ws =>
      rw [h5] at l1
      simp only at l1 ⊢
      obtain ⟨U1, l1, u1, w1⟩ := l1
      have hw := rdN_len h5
      match ws, hw with
      | [w0, w1', w2, w3, w4], _ =>
        have g5 : gL 5 (gsCons (gN 3) (gsCons (gN 4) (gsCons (gN 5) (gsCons (gN 6) (gsCons (gN 7) gsNil))))) (.loc (S.length + (T0.length + 1))) (S ++ U1) [some (.str (hexI bs)), some (.loc (S.length + T0.length)), some (.int mode), none, none, none, none, none, none, none, none, none] = some [some (.str (hexI bs)), some (.loc (S.length + T0.length)), some (.int mode), some (.int w0), some (.int w1'), some (.int w2), some (.int w3), some (.int w4), none, none, none, none] := by
          rw [gL_ev (ds := [.int w0, .int w1', .int w2, .int w3, .int w4]) (by rw [lstOf_pk]; exact lstOf_W w1)]
          rfl
        have hn1 : (S ++ U1)[S.length + T0.length]? = some (.ins (DC K) (dec bs 11)) := by rw [List.getElem?_append_right (by omega)]; simpa using u1
        have mo1 := metOf_at hn1 (dec_rw bs 11)
        have rw1 := read_word_ev (K := K) h8 (by omega) (lo := 16) (hi := 4000) hn1 (by decide) (by decide) (by decide)
        rw [set_pk] at rw1
        cases hs : rdW bs 11 16 4000 with
        | error e =>
          rw [hs] at rw1
          simp only at rw1 ⊢
          rw [set_pk] at rw1
          refine ⟨U1.set T0.length (.ins (DC K) (dec bs e)) ++ [.xd [("offset", .int e)]], U1.length, ?_, by rw [List.getElem?_append_right (by simp)]; simp⟩
          simp only [List.length_append, List.append_assoc] at rw1
          unfold m_decode mkFn b_decode startE
          simp_arith [it, ln, a1, e0, ec, ef, mk, mo0, rb, sAsg_ev2, l1, g5, mo1, rw1]
        | ok sz =>
          rw [hs] at rw1
          simp only at rw1 ⊢
          have hsz := rdW_bd hs
          have hal : T0.length < U1.length := by
            by_cases hx : T0.length < U1.length
            · exact hx
            · rw [List.getElem?_eq_none (by omega)] at u1; cases u1
          obtain ⟨U2, hU2⟩ : ∃ U2 : Store, U2 = U1.set T0.length (.ins (DC K) (dec bs (11 + 2))) := ⟨_, rfl⟩
          rw [← hU2] at rw1
          have u2 : U2[T0.length]? = some (.ins (DC K) (dec bs 13)) := by rw [hU2, List.getElem?_set_self hal]
          have l2 := lc_ev (K := K) (S := S) h8 (by omega) (a := T0.length) (m := sz.toNat) (o := 13) (by omega) (ρ := [some (.str (hexI bs)), some (.loc (S.length + T0.length)), some (.int mode), some (.int w0), some (.int w1'), some (.int w2), some (.int w3), some (.int w4), some (.int sz), none, none, none]) (fi := iRng1 (aCons (eVar 8) aNil)) (U := U2) rfl rfl u2 (iRng1_ev (by simp_arith [eC_ev]) (by omega) (by omega))
          cases hm : rdN bs 13 sz.toNat with
          | error e =>
            rw [hm] at l2
            simp only at l2 ⊢
            obtain ⟨U, d, l2, hd⟩ := l2
            refine ⟨U, d, ?_, hd⟩
            unfold m_decode mkFn b_decode startE
            simp_arith [it, ln, a1, e0, ec, ef, mk, mo0, rb, sAsg_ev2, l1, g5, mo1, rw1, l2]
          | ok mem =>
            rw [hm] at l2
            simp only at l2 ⊢
            obtain ⟨U3, l2, u3, w3'⟩ := l2
            have i3 : insOf [DC K] (S ++ U3) (.loc (S.length + T0.length)) = some (DC K, dec bs (13 + 2 * sz.toNat)) := insOf_at (by rw [List.getElem?_append_right (by omega)]; simpa using u3)
            have lb : ∀ S', cLen [.byt (bytesOf bs)] S' = some (.int bs.length, S') := fun S' => by
              show (if (bytesOf bs).size ≤ sizeLine then some (D.int (bytesOf bs).size, S') else none) = _
              rw [bytes_size, sizeLine_eq, if_pos (by omega)]
            have ct : cTup [.loc (S.length + U2.length)] (S ++ U3) = some (.tup (mem.map .int), S ++ U3) := cTup_loc (by rw [lstOf_pk]; exact lstOf_W w3')
            by_cases hlt : 13 + 2 * sz.toNat < bs.length
            · rw [if_pos hlt]
              refine ⟨U3 ++ [.xd [("offset", .int (13 + 2 * sz.toNat : Nat))]], U3.length, ?_, by simp⟩
              have g : decide (((13 + 2 * sz.toNat : Nat) : Int) < bs.length) = true := by simp; omega
              unfold m_decode mkFn b_decode startE
              simp_arith [it, ln, a1, e0, ec, ef, mk, mo0, rb, sAsg_ev2, l1, g5, mo1, rw1, l2, ct, i3, dec_off, dec_data, lb, g]
            · rw [if_neg hlt]
              have g : decide (((13 + 2 * sz.toNat : Nat) : Int) < bs.length) = false := by simp; omega
              refine ⟨U3, ?_⟩
              unfold m_decode mkFn b_decode startE
              simp_arith [it, ln, a1, e0, ec, ef, mk, mo0, rb, sAsg_ev2, l1, g5, mo1, rw1, l2, ct, i3, dec_off, dec_data, lb, g]
              rfl
end
end K04

end

section
set_option maxRecDepth 100000
set_option maxHeartbeats 400000
namespace K04
open PySem L2 M1
def resD : Except Nat ST → D
  | .ok s => s.d
  | .error e => .int e
section
variable {K : PySem.W.Frag} {S : Store} {n : Nat} {bs : List Int}
abbrev ldB : Sm := (sSeq (sAsg (eIf (tBl (eOp opEq (eCall cLen (aCons (eVar 1) aNil)) (eC (.int 5)))) (eTup (aCons (eC (.int 16)) (aCons (eC (.int 4000)) aNil))) (eTup (aCons (eC (.int 0)) (aCons (eC (.int 9999)) aNil)))) (gT 2 (gsCons (gN 3) (gsCons (gN 4) gsNil))))
    (sSeq (sIf (tOrM (tBl (eOp opGe (eVar 2) (eCall cLen (aCons (eVar 0) aNil)))) (tNotM (tBl (eCh opLe opLe (eOp opFdiv (eVar 3) (eC (.int 256))) (eOp opIxA (eVar 0) (eVar 2)) (eOp opFdiv (eVar 4) (eC (.int 256))))))) (sRet (eVar 2)) sNil)
    (sSeq (sIf (tOrM (tBl (eOp opGe (eOp opAdd (eVar 2) (eC (.int 1))) (eCall cLen (aCons (eVar 0) aNil)))) (tNotM (tBl (eCh opLe opLe (eVar 3) (eOp opAdd (eOp opMulA (eC (.int 256)) (eOp opIxA (eVar 0) (eVar 2))) (eOp opIxA (eVar 0) (eOp opAdd (eVar 2) (eC (.int 1))))) (eVar 4))))) (sRet (eOp opAdd (eVar 2) (eC (.int 1)))) sNil)
    (sSeq (sExpr (eMb isLst gApp (eVar 1) (aCons (eOp opAdd (eOp opMulA (eC (.int 256)) (eOp opIxA (eVar 0) (eVar 2))) (eOp opIxA (eVar 0) (eOp opAdd (eVar 2) (eC (.int 1))))) aNil)))
    (sAsg (eOp opAdd (eVar 2) (eC (.int 2))) (gN 2))))))
abbrev ldT : Tx := (tOrM (tBl (eOp opLt (eCall cLen (aCons (eVar 1) aNil)) (eC (.int 6)))) (tBl (eOp opLt (eCall cLen (aCons (eVar 1) aNil)) (eOp opAdd (eC (.int 6)) (eOp opIxA (eVar 1) (eC (.int 5)))))))
theorem ld_tail {lo hi : Int} {ws : List Int} {T : Store} (hS : lstOf S n = some (bs.map .int)) (hws : ws.length ≤ 100000) (o : Nat) :
    (sSeq (sIf (tOrM (tBl (eOp opGe (eVar 2) (eCall cLen (aCons (eVar 0) aNil)))) (tNotM (tBl (eCh opLe opLe (eOp opFdiv (eVar 3) (eC (.int 256))) (eOp opIxA (eVar 0) (eVar 2)) (eOp opFdiv (eVar 4) (eC (.int 256))))))) (sRet (eVar 2)) sNil)
    (sSeq (sIf (tOrM (tBl (eOp opGe (eOp opAdd (eVar 2) (eC (.int 1))) (eCall cLen (aCons (eVar 0) aNil)))) (tNotM (tBl (eCh opLe opLe (eVar 3) (eOp opAdd (eOp opMulA (eC (.int 256)) (eOp opIxA (eVar 0) (eVar 2))) (eOp opIxA (eVar 0) (eOp opAdd (eVar 2) (eC (.int 1))))) (eVar 4))))) (sRet (eOp opAdd (eVar 2) (eC (.int 1)))) sNil)
    (sSeq (sExpr (eMb isLst gApp (eVar 1) (aCons (eOp opAdd (eOp opMulA (eC (.int 256)) (eOp opIxA (eVar 0) (eVar 2))) (eOp opIxA (eVar 0) (eOp opAdd (eVar 2) (eC (.int 1))))) aNil)))
    (sAsg (eOp opAdd (eVar 2) (eC (.int 2))) (gN 2))))) [some (.loc n), some (.loc S.length), some (.int o), some (.int lo), some (.int hi), none, none, none, none, none] (S ++ .lst (ws.map .int) :: T) =
    match rdW bs o lo hi with
    | .error e => .rt (.int e) (S ++ .lst (ws.map .int) :: T)
    | .ok w => .nx [some (.loc n), some (.loc S.length), some (.int (o + 2 : Nat)), some (.int lo), some (.int hi), none, none, none, none, none] (S ++ .lst ((ws ++ [w]).map .int) :: T) := by
  have hS' : ∀ X, lstOf (S ++ X) n = some (bs.map .int) := fun X => lstOf_app hS
  have ln : ∀ X, cLen [.loc n] (S ++ X) = some (.int bs.length, S ++ X) := fun X => by rw [cLen_loc (hS' X)]; simp
  have mu : ∀ (a : Int) S', opMulA (.int 256) (.int a) S' = some (.int (256 * a), S') := fun a S' => opMulA_l (by decide) (by decide)
  unfold rdW
  cases ho : bs[o]? with
  | none =>
    have : bs.length ≤ o := List.getElem?_eq_none_iff.mp ho
    have g : decide ((bs.length : Int) ≤ o) = true := by simp; omega
    simp_arith [ln, g]
  | some a =>
    have hlt : o < bs.length := by
      by_cases hx : o < bs.length
      · exact hx
      · rw [List.getElem?_eq_none (by omega)] at ho; cases ho
    have g : decide ((bs.length : Int) ≤ o) = false := by simp; omega
    have ix : ∀ X, opIxA (.loc n) (.int o) (S ++ X) = some (.int a, S ++ X) := fun X => opIxA_lst (hS' X) (by omega) (by simp [ho])
    by_cases h1 : lo / 256 ≤ a
    · by_cases h2 : a ≤ hi / 256
      · simp only [h1, h2, and_self, if_true]
        have e1 : ((o + 1 : Nat) : Int) = (o : Int) + 1 := by omega
        cases ho2 : bs[o+1]? with
        | none =>
          have : bs.length ≤ o + 1 := List.getElem?_eq_none_iff.mp ho2
          have g2 : decide ((bs.length : Int) ≤ (o : Int) + 1) = true := by simp; omega
          simp_arith [ln, g, ix, h1, h2, g2, e1]
        | some b =>
          have hlt2 : o + 1 < bs.length := by
            by_cases hx : o + 1 < bs.length
            · exact hx
            · rw [List.getElem?_eq_none (by omega)] at ho2; cases ho2
          have g2 : decide ((bs.length : Int) ≤ (o : Int) + 1) = false := by simp; omega
          have ix2 : ∀ X, opIxA (.loc n) (.int ((o : Int) + 1)) (S ++ X) = some (.int b, S ++ X) := fun X => opIxA_lst (hS' X) (by omega) (by rw [show ((o : Int) + 1).toNat = o + 1 by omega]; simp [ho2])
          by_cases h3 : lo ≤ 256 * a + b
          · by_cases h4 : 256 * a + b ≤ hi
            · simp only [h3, h4, and_self, if_true]
              have ga : gApp (.loc S.length) [.int (256 * a + b)] (S ++ .lst (ws.map .int) :: T) = some (.non, S ++ .lst ((ws ++ [256 * a + b]).map .int) :: T) := by
                rw [gApp_ev (l := ws.map .int) (by simp) (by simp; omega)]; simp
              have e2 : ((o + 2 : Nat) : Int) = (o : Int) + 2 := by omega
              simp_arith [ln, g, ix, h1, h2, g2, e1, ix2, mu, h3, h4, ga, e2]
            · simp only [h4, and_false, if_false]
              simp_arith [ln, g, ix, h1, h2, g2, e1, ix2, mu, h3, h4]
          · simp only [h3, false_and, if_false]
            simp_arith [ln, g, ix, h1, h2, g2, e1, ix2, mu, h3]
      · simp only [h2, and_false, if_false]
        simp_arith [ln, g, ix, h1, h2]
    · simp only [h1, false_and, if_false]
      simp_arith [ln, g, ix, h1]
def lims (j : Nat) : Int × Int := if j = 5 then (16, 4000) else (0, 9999)
theorem ld_body {ws : List Int} {T : Store} (hS : lstOf S n = some (bs.map .int)) (hws : ws.length ≤ 100000) (o : Nat) (x y : Option D) :
    ldB [some (.loc n), some (.loc S.length), some (.int o), x, y, none, none, none, none, none] (S ++ .lst (ws.map .int) :: T) =
    match rdW bs o (lims ws.length).1 (lims ws.length).2 with
    | .error e => .rt (.int e) (S ++ .lst (ws.map .int) :: T)
    | .ok w => .nx [some (.loc n), some (.loc S.length), some (.int (o + 2 : Nat)), some (.int (lims ws.length).1), some (.int (lims ws.length).2), none, none, none, none, none] (S ++ .lst ((ws ++ [w]).map .int) :: T) := by
  have ln : cLen [.loc S.length] (S ++ .lst (ws.map .int) :: T) = some (.int ws.length, S ++ .lst (ws.map .int) :: T) := by
    rw [cLen_loc (ds := ws.map .int) (by simp)]; simp
  rw [← ld_tail (T := T) (lo := (lims ws.length).1) (hi := (lims ws.length).2) hS hws o]
  unfold lims
  by_cases h5 : ws.length = 5
  · have g : decide ((ws.length : Int) = 5) = true := by simp; omega
    have e : (sAsg (eIf (tBl (eOp opEq (eCall cLen (aCons (eVar 1) aNil)) (eC (.int 5)))) (eTup (aCons (eC (.int 16)) (aCons (eC (.int 4000)) aNil))) (eTup (aCons (eC (.int 0)) (aCons (eC (.int 9999)) aNil)))) (gT 2 (gsCons (gN 3) (gsCons (gN 4) gsNil)))) [some (.loc n), some (.loc S.length), some (.int o), x, y, none, none, none, none, none] (S ++ .lst (ws.map .int) :: T) = .nx [some (.loc n), some (.loc S.length), some (.int o), some (.int 16), some (.int 4000), none, none, none, none, none] (S ++ .lst (ws.map .int) :: T) := by
      simp_arith [sAsg_ev2, ln, g]
    rw [if_pos h5]
    show sSeq _ _ _ _ = _
    rw [sSeq_ev, e]
    rfl
  · have g : decide ((ws.length : Int) = 5) = false := by simp; omega
    have e : (sAsg (eIf (tBl (eOp opEq (eCall cLen (aCons (eVar 1) aNil)) (eC (.int 5)))) (eTup (aCons (eC (.int 16)) (aCons (eC (.int 4000)) aNil))) (eTup (aCons (eC (.int 0)) (aCons (eC (.int 9999)) aNil)))) (gT 2 (gsCons (gN 3) (gsCons (gN 4) gsNil)))) [some (.loc n), some (.loc S.length), some (.int o), x, y, none, none, none, none, none] (S ++ .lst (ws.map .int) :: T) = .nx [some (.loc n), some (.loc S.length), some (.int o), some (.int 0), some (.int 9999), none, none, none, none, none] (S ++ .lst (ws.map .int) :: T) := by
      simp_arith [sAsg_ev2, ln, g]
    rw [if_neg h5]
    show sSeq _ _ _ _ = _
    rw [sSeq_ev, e]
    rfl
/-- the loop goes on while this says so -/
def more (ws : List Int) : Bool := decide (ws.length < 6) || decide ((ws.length : Int) < 6 + ws.getD 5 0)
theorem ld_test {ws : List Int} {T : Store} (o : Nat) (x y : Option D) : ldT [some (.loc n), some (.loc S.length), some (.int o), x, y, none, none, none, none, none] (S ++ .lst (ws.map .int) :: T) = .ok (more ws) (S ++ .lst (ws.map .int) :: T) := by
  have ln : cLen [.loc S.length] (S ++ .lst (ws.map .int) :: T) = some (.int ws.length, S ++ .lst (ws.map .int) :: T) := by
    rw [cLen_loc (ds := ws.map .int) (by simp)]; simp
  unfold more
  by_cases h6 : ws.length < 6
  · have g : decide ((ws.length : Int) < 6) = true := by simp; omega
    simp_arith [ln, g, h6, Bool.true_or]
  · have g : decide ((ws.length : Int) < 6) = false := by simp; omega
    have ix : opIxA (.loc S.length) (.int 5) (S ++ .lst (ws.map .int) :: T) = some (.int (ws.getD 5 0), S ++ .lst (ws.map .int) :: T) := opIxA_lst (ds := ws.map .int) (by simp) (by decide) (by
      rw [show (5 : Int).toNat = 5 from rfl, List.getElem?_map, List.getElem?_eq_getElem (by omega), List.getD_eq_getElem?_getD, List.getElem?_eq_getElem (by omega)]; rfl)
    simp_arith [ln, g, h6, Bool.false_or, ix]
end
end K04

end

section
set_option maxRecDepth 100000
set_option maxHeartbeats 400000
namespace K04
open PySem L2 M1
section
variable {K : PySem.W.Frag} {S : Store} {n : Nat} {bs : List Int}
abbrev ldR (n l : Nat) (o : Nat) (x y : Option D) : M1.Env := [some (.loc n), some (.loc l), some (.int o), x, y, none, none, none, none, none]
theorem ld_one {ws : List Int} {T : Store} (hS : lstOf S n = some (bs.map .int)) (hws : ws.length ≤ 100000) (o f : Nat) (x y : Option D) (hm : more ws = true) :
    whileN ldT ldB (f + 1) (ldR n S.length o x y) (S ++ .lst (ws.map .int) :: T) = match rdW bs o (lims ws.length).1 (lims ws.length).2 with
    | .error e => .rt (.int e) (S ++ .lst (ws.map .int) :: T)
    | .ok w => whileN ldT ldB f (ldR n S.length (o + 2) (some (.int (lims ws.length).1)) (some (.int (lims ws.length).2))) (S ++ .lst ((ws ++ [w]).map .int) :: T) := by
  rw [whileN_succ, ld_test, hm]
  simp only [out_ok, if_true]
  rw [ld_body hS hws]
  cases rdW bs o (lims ws.length).1 (lims ws.length).2 <;> rfl
theorem ld_run (hS : lstOf S n = some (bs.map .int)) {T : Store} : ∀ (m f : Nat) (ws : List Int) (x y : Option D), (ws.length + m ≤ 5 ∨ (6 ≤ ws.length ∧ (ws.length : Int) + m ≤ 6 + ws.getD 5 0)) → ws.length + m ≤ 100000 →
    match rdN bs (1 + 2 * ws.length) m with
    | .error e => ∃ ws' : List Int, whileN ldT ldB (f + m) (ldR n S.length (1 + 2 * ws.length) x y) (S ++ .lst (ws.map .int) :: T) = .rt (.int e) (S ++ .lst (ws'.map .int) :: T)
    | .ok r => ∃ x' y', whileN ldT ldB (f + m) (ldR n S.length (1 + 2 * ws.length) x y) (S ++ .lst (ws.map .int) :: T) = whileN ldT ldB f (ldR n S.length (1 + 2 * (ws.length + m)) x' y') (S ++ .lst ((ws ++ r).map .int) :: T)
  | 0, f, ws, x, y, hc, hl => ⟨x, y, by simp⟩
  | m + 1, f, ws, x, y, hc, hl => by
    have hmo : more ws = true := by
      unfold more
      rcases hc with h | ⟨h, h2⟩
      · simp; left; omega
      · simp only [Bool.or_eq_true, decide_eq_true_eq]; right; omega
    have hli : lims ws.length = (0, 9999) := by
      unfold lims
      rw [if_neg (by rcases hc with h | ⟨h, h2⟩ <;> omega)]
    have e1 := ld_one (T := T) hS (ws := ws) (by omega) (1 + 2 * ws.length) (f + m) x y hmo
    rw [hli] at e1
    simp only [rdN]
    rw [show f + (m + 1) = f + m + 1 by omega, e1]
    cases hw : rdW bs (1 + 2 * ws.length) 0 9999 with
    | error e => exact ⟨ws, rfl⟩
    | ok w =>
      have hge : (ws ++ [w]).getD 5 0 = ws.getD 5 0 ∨ ws.length ≤ 5 := by
        by_cases h : ws.length ≤ 5
        · exact .inr h
        · left; rw [List.getD_eq_getElem?_getD, List.getD_eq_getElem?_getD, List.getElem?_append_left (by omega)]
      have ih := ld_run hS (T := T) m f (ws ++ [w]) (some (.int 0)) (some (.int 9999)) (by
        simp only [List.length_append, List.length_cons, List.length_nil]
        rcases hc with h | ⟨h, h2⟩
        · left; omega
        · right
          rcases hge with g | g
          · rw [g]; omega
          · omega) (by simp; omega)
      simp only [List.length_append, List.length_cons, List.length_nil, Nat.zero_add] at ih
      rw [show 1 + 2 * (ws.length + 1) = 1 + 2 * ws.length + 2 by omega] at ih
      simp only
      cases hn : rdN bs (1 + 2 * ws.length + 2) m with
      | error e => rw [hn] at ih; exact ih
      | ok r =>
        rw [hn] at ih
        obtain ⟨x', y', e⟩ := ih
        refine ⟨x', y', ?_⟩
        rw [e, show ws.length + 1 + m = ws.length + (m + 1) by omega]
        simp
theorem law_decode_ev (hS : lstOf S n = some (bs.map .int)) (h8 : ∀ b ∈ bs, is8P b) (hl : bs.length ≤ 9000) : ∃ T, m_law_decode K [.loc n] S = .ok (resD (decP bs)) (S ++ T) := by
  have hS' : ∀ X, lstOf (S ++ X) n = some (bs.map .int) := fun X => lstOf_app hS
  have ln : ∀ X, cLen [.loc n] (S ++ X) = some (.int bs.length, S ++ X) := fun X => by rw [cLen_loc (hS' X)]; simp
  have q0 : opEq (.loc n) (.loc (S.length + 1)) (S ++ [.lst [], .lst []]) = some (.bl bs.isEmpty, S ++ [.lst [], .lst []]) := by
    unfold opEq
    rw [pyEq_lst (hS' _) (by rw [lstOf_pk]; rfl) (gDs_ints bs) rfl (by rw [dpDs_ints]; omega) (by simp [dpDs])]
    cases bs <;> simp [pds, PyData.eqvAll]
  cases bs with
  | nil =>
    refine ⟨[.lst [], .lst []], ?_⟩
    unfold m_law_decode mkFn b_law_decode startE
    simp only [List.isEmpty_nil] at q0
    simp_arith [q0, sPar2_ev]
    rfl
  | cons b0 br =>
    have h0 := h8 b0 (List.mem_cons_self ..)
    unfold is8P at h0
    simp only [List.isEmpty_cons] at q0
    have ix0 : ∀ X, opIxA (.loc n) (.int 0) (S ++ X) = some (.int b0, S ++ X) := fun X => opIxA_lst (hS' X) (by decide) rfl
    by_cases hb : b0 ≤ 1
    · have g1 : decide (1 < b0) = false := by simp; omega
      have hd0 : rdB (b0 :: br) 0 0 1 = some b0 := by simp [rdB]; omega
      unfold decP
      rw [hd0]
      simp only
      generalize hbs : b0 :: br = bs at *
      have r1 := ld_run (n := n) (S := S) (bs := bs) hS (T := [.lst []]) 5 9995 [] none none (by simp) (by simp)
      simp only [List.length_nil, Nat.mul_zero, Nat.add_zero, List.map_nil, Nat.reduceAdd, List.nil_append, Nat.reduceMul] at r1
      cases h5 : rdN bs 1 5 with
      | error e =>
        rw [h5] at r1
        obtain ⟨ws', r1⟩ := r1
        refine ⟨.lst (ws'.map .int) :: [.lst []], ?_⟩
        unfold m_law_decode mkFn b_law_decode startE
        simp only [ldR, Int.ofNat_one, Int.natCast_one] at r1
        simp_arith [sPar2_ev, q0, ix0, g1, r1]
        rfl
      | ok ws =>
        rw [h5] at r1
        obtain ⟨x1, y1, r1⟩ := r1
        have hw := rdN_len h5
        have r2 := ld_one (S := S) (n := n) (bs := bs) (T := [.lst []]) hS (ws := ws) (by omega) 11 9994 x1 y1 (by unfold more; simp; left; omega)
        rw [show lims ws.length = (16, 4000) by rw [hw]; rfl] at r2
        rw [r2] at r1
        simp only
        cases hs : rdW bs 11 16 4000 with
        | error e =>
          rw [hs] at r1
          refine ⟨.lst (ws.map .int) :: [.lst []], ?_⟩
          unfold m_law_decode mkFn b_law_decode startE
          simp only [ldR, Int.ofNat_one, Int.natCast_one] at r1
          simp_arith [sPar2_ev, q0, ix0, g1, r1]
          rfl
        | ok sz =>
          rw [hs] at r1
          have hsz := rdW_bd hs
          have hg : (ws ++ [sz]).getD 5 0 = sz := by
            rw [List.getD_eq_getElem?_getD, List.getElem?_append_right (by omega), hw]; rfl
          have r3 := ld_run (n := n) (S := S) (bs := bs) hS (T := [.lst []]) sz.toNat (9994 - sz.toNat) (ws ++ [sz]) (some (.int 16)) (some (.int 4000)) (by
            right
            rw [hg]
            simp only [List.length_append, List.length_cons, List.length_nil, hw]
            omega) (by simp only [List.length_append, List.length_cons, List.length_nil, hw]; omega)
          rw [show 9994 - sz.toNat + sz.toNat = 9994 by omega] at r3
          simp only [List.length_append, List.length_cons, List.length_nil, hw, Nat.reduceAdd, Nat.reduceMul] at r3
          simp only at r1 ⊢
          cases hm : rdN bs 13 sz.toNat with
          | error e =>
            rw [hm] at r3
            obtain ⟨ws', r3⟩ := r3
            rw [r3] at r1
            refine ⟨.lst (ws'.map .int) :: [.lst []], ?_⟩
            unfold m_law_decode mkFn b_law_decode startE
            simp only [ldR, Int.ofNat_one, Int.natCast_one] at r1
            simp_arith [sPar2_ev, q0, ix0, g1, r1]
            rfl
          | ok mem =>
            rw [hm] at r3
            obtain ⟨x3, y3, r3⟩ := r3
            rw [r3] at r1
            have hml := rdN_len hm
            match ws, hw with
            | [w0, w1, w2, w3, w4], _ =>
              simp only [List.cons_append, List.nil_append] at r1 hg
              have r4 : whileN ldT ldB (9994 - sz.toNat) (ldR n S.length (1 + 2 * (6 + sz.toNat)) x3 y3) (S ++ .lst ((w0 :: w1 :: w2 :: w3 :: w4 :: sz :: mem).map .int) :: [.lst []]) = .nx (ldR n S.length (1 + 2 * (6 + sz.toNat)) x3 y3) (S ++ .lst ((w0 :: w1 :: w2 :: w3 :: w4 :: sz :: mem).map .int) :: [.lst []]) := by
                rw [show 9994 - sz.toNat = 9993 - sz.toNat + 1 by omega, whileN_succ, ld_test]
                have : more (w0 :: w1 :: w2 :: w3 :: w4 :: sz :: mem) = false := by
                  unfold more
                  simp only [List.length_cons, hml, List.getD_cons_succ, List.getD_cons_zero, Bool.or_eq_false_iff, decide_eq_false_iff_not]
                  omega
                rw [this]
                rfl
              rw [r4] at r1
              have oe : 1 + 2 * (6 + sz.toNat) = 13 + 2 * sz.toNat := by omega
              rw [oe] at r1
              simp only [ldR, Int.ofNat_one, Int.natCast_one] at r1
              by_cases hlt : 13 + 2 * sz.toNat < bs.length
              · simp only [if_pos hlt]
                have g : decide (((13 + 2 * sz.toNat : Nat) : Int) < bs.length) = true := by simp; omega
                refine ⟨.lst ((w0 :: w1 :: w2 :: w3 :: w4 :: sz :: mem).map .int) :: [.lst []], ?_⟩
                unfold m_law_decode mkFn b_law_decode startE
                simp_arith [sPar2_ev, q0, ix0, g1, r1, ln, g]
                rfl
              · simp only [if_neg hlt]
                have g : decide (((13 + 2 * sz.toNat : Nat) : Int) < bs.length) = false := by simp; omega
                obtain ⟨W, hW⟩ : ∃ W : List D, W = (w0 :: w1 :: w2 :: w3 :: w4 :: sz :: mem).map .int := ⟨_, rfl⟩
                rw [← hW] at r1
                have s1 : opSl (.loc S.length) none (some 5) (S ++ [.lst W, .lst []]) = some (.loc (S.length + 2), S ++ [.lst W, .lst [], .lst [.int w0, .int w1, .int w2, .int w3, .int w4]]) := by
                  rw [opSl_lst (ds := W) (by simp), cut_take (by decide), hW]; simp
                have s2 : opSl (.loc S.length) (some 6) none (S ++ [.lst W, .lst [], .lst [.int w0, .int w1, .int w2, .int w3, .int w4]]) = some (.loc (S.length + 3), S ++ [.lst W, .lst [], .lst [.int w0, .int w1, .int w2, .int w3, .int w4], .lst (mem.map .int)]) := by
                  rw [opSl_lst (ds := W) (by simp), cut_drop (by decide), hW]; simp
                have g5 : ∀ ρ, gA 5 (gsCons (gN 5) (gsCons (gN 6) (gsCons (gN 7) (gsCons (gN 8) (gsCons (gN 9) gsNil))))) (.loc (S.length + 2)) (S ++ [.lst W, .lst [], .lst [.int w0, .int w1, .int w2, .int w3, .int w4]]) ρ = gsCons (gN 5) (gsCons (gN 6) (gsCons (gN 7) (gsCons (gN 8) (gsCons (gN 9) gsNil)))) [.int w0, .int w1, .int w2, .int w3, .int w4] (S ++ [.lst W, .lst [], .lst [.int w0, .int w1, .int w2, .int w3, .int w4]]) ρ := fun ρ => by
                  rw [gA_loc (ds := [.int w0, .int w1, .int w2, .int w3, .int w4]) (by rw [lstOf_pk]; rfl)]; rfl
                have ct : cTup [.loc (S.length + 3)] (S ++ [.lst W, .lst [], .lst [.int w0, .int w1, .int w2, .int w3, .int w4], .lst (mem.map .int)]) = some (.tup (mem.map .int), S ++ [.lst W, .lst [], .lst [.int w0, .int w1, .int w2, .int w3, .int w4], .lst (mem.map .int)]) := cTup_loc (by rw [lstOf_pk]; rfl)
                refine ⟨[.lst W, .lst [], .lst [.int w0, .int w1, .int w2, .int w3, .int w4], .lst (mem.map .int)], ?_⟩
                unfold m_law_decode mkFn b_law_decode startE
                simp_arith [sPar2_ev, q0, ix0, g1, r1, ln, g, s1, sAsg_ev2, g5, s2, ct]
                rfl
    · have g1 : decide (1 < b0) = true := by simp; omega
      have hd0 : rdB (b0 :: br) 0 0 1 = none := by simp [rdB]; omega
      refine ⟨[.lst [], .lst []], ?_⟩
      unfold decP
      rw [hd0]
      unfold m_law_decode mkFn b_law_decode startE
      simp_arith [sPar2_ev, q0, ix0, g1]
      rfl
end
end K04

end

section
set_option maxRecDepth 100000
set_option maxHeartbeats 400000
namespace K04
open PySem L2 M1
/-! ### decode is encode's inverse -/
theorem flat_get : ∀ {ws : List Int} {i : Nat}, i < ws.length → ∀ X, ((ws.flatMap wb) ++ X)[2 * i]? = some (ws.getD i 0 / 256) ∧ ((ws.flatMap wb) ++ X)[2 * i + 1]? = some (ws.getD i 0 % 256)
  | [], i, h, _ => by simp at h
  | w :: ws, 0, _, X => by simp [wb]
  | w :: ws, i + 1, h, X => by
    have ih := flat_get (ws := ws) (i := i) (by simpa using h) X
    simp only [List.flatMap_cons, wb, List.cons_append, List.nil_append, show 2 * (i + 1) = 2 * i + 1 + 1 by omega, List.getElem?_cons_succ, List.getD_cons_succ]
    exact ih
theorem enc_get (s : ST) {i : Nat} (h : i < s.words.length) : (encB s)[1 + 2 * i]? = some (s.words.getD i 0 / 256) ∧ (encB s)[1 + 2 * i + 1]? = some (s.words.getD i 0 % 256) := by
  have := flat_get h []
  simp only [List.append_nil] at this
  unfold encB
  rw [show 1 + 2 * i = 2 * i + 1 by omega, List.getElem?_cons_succ, List.getElem?_cons_succ]
  exact this
theorem enc_rdW (s : ST) {i : Nat} (h : i < s.words.length) {lo hi : Int} (h1 : lo ≤ s.words.getD i 0) (h2 : s.words.getD i 0 ≤ hi) : rdW (encB s) (1 + 2 * i) lo hi = .ok (s.words.getD i 0) := by
  obtain ⟨e1, e2⟩ := enc_get s h
  unfold rdW
  rw [e1]
  simp only
  rw [if_pos (by omega), e2]
  simp only
  generalize s.words.getD i 0 = w at *
  have : 256 * (w / 256) + w % 256 = w := by omega
  rw [this, if_pos ⟨h1, h2⟩]
theorem enc_rdN (s : ST) (hw : ∀ w ∈ s.words, wd w) : ∀ (k i : Nat), i + k ≤ s.words.length → rdN (encB s) (1 + 2 * i) k = .ok ((s.words.drop i).take k)
  | 0, i, h => by simp [rdN]
  | k + 1, i, h => by
    have hi : i < s.words.length := by omega
    have hv : wd (s.words.getD i 0) := by
      rw [List.getD_eq_getElem?_getD, List.getElem?_eq_getElem hi]; exact hw _ (List.getElem_mem hi)
    simp only [rdN]
    rw [enc_rdW s hi hv.1 hv.2]
    simp only
    rw [show 1 + 2 * i + 2 = 1 + 2 * (i + 1) by omega, enc_rdN s hw k (i + 1) (by omega)]
    simp only
    rw [List.drop_eq_getElem_cons hi, List.take_succ_cons]
    rw [List.getD_eq_getElem?_getD, List.getElem?_eq_getElem hi]
    rfl
theorem dec_enc {s : ST} (h : s.ok) : decP (encB s) = .ok s := by
  have hl : s.words.length = 6 + s.mem.length := by simp [ST.words]; omega
  have hw := words_wd h
  have h0 : rdB (encB s) 0 0 1 = some s.mode := by
    unfold rdB encB
    simp only [List.getElem?_cons_zero]
    rw [if_pos (by rcases h.mode with e | e <;> rw [e] <;> exact ⟨by decide, by decide⟩)]
  have lo := h.lo; have hi := h.hi
  have e1 := enc_rdN s hw 5 0 (by omega)
  have e2 := enc_rdW s (i := 5) (by omega) (lo := 16) (hi := 4000) (by simp [ST.words]; omega) (by simp [ST.words]; omega)
  have e3 := enc_rdN s hw s.mem.length 6 (by omega)
  have w5 : s.words.getD 5 0 = s.mem.length := by simp [ST.words]
  rw [w5] at e2
  simp only [Nat.mul_zero, Nat.add_zero, Nat.reduceMul, Nat.reduceAdd] at e1 e2 e3
  unfold decP
  rw [h0]
  simp only [e1, e2]
  rw [Int.toNat_natCast, e3]
  simp only
  rw [if_neg (by rw [enc_len]; omega)]
  simp [ST.words]
section
variable {K : PySem.W.Frag} {S : Store} {n : Nat} {bs : List Int} {ns : List Int}
/-! ### _law_result -/
/-- the exceptions' classes differ -/
structure Dis (K : PySem.W.Frag) : Prop where
  de : ans_DecodeError K (DE K) = some true
  is : ans_InvalidState K (.ref (He.ga K "InvalidState")) = some true
theorem dis_of {mg : Str → Option Value} (hy : Hy K mg) : Dis K := by
  constructor
  · unfold ans_DecodeError
    split
    · rename_i e
      have h1 := hy.e_VirtError_DecodeError
      rw [← e, hy.e_DecodeError_DecodeError] at h1
      cases h1
    · split
      · rename_i e
        have h1 := hy.e_InvalidState_DecodeError
        rw [← e, hy.e_DecodeError_DecodeError] at h1
        cases h1
      · rw [if_pos rfl]
  · unfold ans_InvalidState
    split
    · rename_i e
      have h1 := hy.e_VirtError_InvalidState
      rw [← e, hy.e_InvalidState_InvalidState] at h1
      cases h1
    · rw [if_pos rfl]
theorem result_ok {d v : D} {T : Store} (e : m_decode K [d] S = .ok v (S ++ T)) : m_law_result K [d] S = .ok v (S ++ T) := by
  unfold m_law_result mkFn b_law_result startE sTryF
  simp_arith [e]
theorem result_ex (ds : Dis K) {d v : D} {T : Store} {k : Nat} (e : m_decode K [d] S = .ex (DE K) (some (S.length + k)) (S ++ T)) (h : T[k]? = some (.xd [("offset", v)])) : m_law_result K [d] S = .ok v (S ++ T) := by
  have h' : (S ++ T)[S.length + k]? = some (.xd [("offset", v)]) := by rw [List.getElem?_append_right (by omega)]; simpa using h
  have lk : List.lookup ("offset" : Str) [(("offset" : Str), v)] = some v := rfl
  unfold m_law_result mkFn b_law_result startE sTryF
  simp_arith [e, ds.de, h', lk, and_self]
theorem result_ev (ds : Dis K) (h8 : ∀ b ∈ bs, is8P b) (hl : bs.length ≤ 40000) (S : Store) : ∃ T, m_law_result K [.str (hexI bs)] S = .ok (resD (decP bs)) (S ++ T) := by
  have h := decode_ev (K := K) h8 hl S
  cases hd : decP bs with
  | ok s => rw [hd] at h; obtain ⟨T, e⟩ := h; exact ⟨T, result_ok e⟩
  | error o => rw [hd] at h; obtain ⟨T, d, e, h2⟩ := h; exact ⟨T, result_ex ds e h2⟩
/-! ### _law_changed -/
theorem pick8 {ds : List Int} {i : Int} (h : 0 ≤ i) (hl : i < ds.length) (hp : ∀ d ∈ ds, is8P d) : ∃ d : Int, is8P d ∧ ∀ S', opIxA (.tup (ds.map .int)) (.int i) S' = some (.int d, S') :=
  ⟨ds[i.toNat]'(by omega), hp _ (List.getElem_mem _), fun S' => opIxA_tup h (by rw [List.getElem?_map, List.getElem?_eq_getElem (by omega)]; rfl)⟩
theorem changed_ev {v : Int} (hv : 0 ≤ v) (hS : lstW S n = some (bs.map .int)) (h8 : ∀ b ∈ bs, is8P b) (hl : bs.length ≤ 5000) (h0 : 0 < bs.length) :
    ∃ (cs : List Int) (j : Nat) (T : Store), m_law_changed K [.loc n, .int v] S = .ok (.loc (S.length + j)) (S ++ T) ∧ lstOf (S ++ T) (S.length + j) = some (cs.map .int) ∧ (∀ b ∈ cs, is8P b) ∧ cs.length ≤ 6000 := by
  have q : ∀ a b : Int, 0 < b → 0 ≤ a % b ∧ a % b < b := fun a b h => ⟨Int.emod_nonneg _ (by omega), Int.emod_lt_of_pos _ h⟩
  have hW : ∀ X, lstW (S ++ X) n = some (bs.map .int) := fun X => lstW_app hS
  have hO : ∀ X, lstOf (S ++ X) n = some (bs.map .int) := fun X => lstOf_W (hW X)
  have ln : cLen [.loc n] S = some (.int bs.length, S) := by rw [cLen_loc (lstOf_W hS)]; simp
  have hm : ∀ S', opMod (.int v) (.int bs.length) S' = some (.int (v % bs.length), S') := fun S' => opMod_int _ _ (by omega)
  have q1 := q v bs.length (by omega)
  obtain ⟨p, hp, p3⟩ : ∃ p : Int, 0 ≤ p ∧ ∀ S', (if decide (v % 3 = 0) = true then (R.ok (.int (v % bs.length % 15)) S' : R D) else .ok (.int (v % bs.length)) S') = .ok (.int p) S' := by
    by_cases h3 : v % 3 = 0
    · exact ⟨v % bs.length % 15, (q _ 15 (by decide)).1, fun S' => by simp [h3]⟩
    · exact ⟨v % bs.length, q1.1, fun S' => by simp [h3]⟩
  have sl1 : ∀ X, opSl (.loc n) none (some p) (S ++ X) = some (.loc (S ++ X).length, S ++ X ++ [.lst ((bs.take p.toNat).map .int)]) := fun X => by rw [opSl_lst (hO X), cut_take hp]; simp
  have sl2 : ∀ X, opSl (.loc n) (some (p + 1)) none (S ++ X) = some (.loc (S ++ X).length, S ++ X ++ [.lst ((bs.drop (p + 1).toNat).map .int)]) := fun X => by rw [opSl_lst (hO X), cut_drop (by omega)]; simp
  have tk8 : ∀ b ∈ bs.take p.toNat, is8P b := fun b hb => h8 b (List.mem_of_mem_take hb)
  have dr8 : ∀ b ∈ bs.drop (p + 1).toNat, is8P b := fun b hb => h8 b (List.mem_of_mem_drop hb)
  have r256 := q (v / 16384) 256 (by decide)
  by_cases c0 : v / 4096 % 4 = 0
  · refine ⟨bs.take p.toNat, 0, [.lst ((bs.take p.toNat).map .int)], ?_, by simp, tk8, by simp; omega⟩
    have s := sl1 []
    simp only [List.append_nil] at s
    unfold m_law_changed mkFn b_law_changed startE
    simp_arith [sPar2_ev, ln, hm, p3, c0, s, Nat.add_zero]
  · have r8 := q (v / 16384) 8 (by decide)
    obtain ⟨bd, hbd, x8⟩ := pick8 (ds := [0, 1, 2, 15, 16, 39, 15, 160]) (i := v / 16384 % 8) r8.1 (by simp; omega) (by simp [is8P])
    simp only [List.map_cons, List.map_nil] at x8
    have g0 : decide (v / 4096 % 4 = 0) = false := by simpa using c0
    by_cases c1 : v / 4096 % 4 = 1
    · refine ⟨bs ++ [v / 16384 % 256], 1, [.lst [.int (v / 16384 % 256)], .lst ((bs ++ [v / 16384 % 256]).map .int)], ?_, by rw [lstOf_pk]; rfl, ?_, by simp; omega⟩
      · have ad : opAdd (.loc n) (.loc S.length) (S ++ [.lst [.int (v / 16384 % 256)]]) = some (.loc (S.length + 1), S ++ [.lst [.int (v / 16384 % 256)], .lst ((bs ++ [v / 16384 % 256]).map .int)]) := by
          rw [opAdd_lst (hW _) (b := [.int (v / 16384 % 256)]) (by rw [lstW_pk0]; rfl) (by simp; omega)]
          simp
        unfold m_law_changed mkFn b_law_changed startE
        simp_arith [sPar2_ev, ln, hm, p3, g0, c1, ad]
      · intro b hb
        rcases List.mem_append.mp hb with h | h
        · exact h8 b h
        · simp at h; subst h; unfold is8P; omega
    · have g1 : decide (v / 4096 % 4 = 1) = false := by simpa using c1
      obtain ⟨z, hz, zE⟩ : ∃ z : Int, is8P z ∧ ∀ S', (if decide (v / 4096 % 4 = 2) = true then (R.ok (.int (v / 16384 % 256)) S' : R D) else .ok (.int bd) S') = .ok (.int z) S' := by
        by_cases h3 : v / 4096 % 4 = 2
        · exact ⟨v / 16384 % 256, by unfold is8P; omega, fun S' => by simp [h3]⟩
        · exact ⟨bd, hbd, fun S' => by simp [h3]⟩
      have s1 := sl1 []
      simp only [List.append_nil, List.length_append, List.append_assoc] at s1
      obtain ⟨A, hA⟩ : ∃ A : List D, A = (bs.take p.toNat).map .int := ⟨_, rfl⟩
      obtain ⟨B, hB⟩ : ∃ B : List D, B = (bs.drop (p + 1).toNat).map .int := ⟨_, rfl⟩
      obtain ⟨C, hC⟩ : ∃ C : List D, C = (bs.take p.toNat ++ [z] ++ bs.drop (p + 1).toNat).map .int := ⟨_, rfl⟩
      have lA : A.length ≤ 5000 := by rw [hA]; simp; omega
      have lB : B.length ≤ 5000 := by rw [hB]; simp; omega
      have a1 : opAdd (.loc S.length) (.loc (S.length + 1)) (S ++ [.lst A, .lst [.int z]]) = some (.loc (S.length + 2), S ++ [.lst A, .lst [.int z], .lst (A ++ [.int z])]) := by
        rw [opAdd_lst (a := A) (b := [.int z]) (by rw [lstW_pk0]; rfl) (by rw [lstW_pk]; rfl) (by simp; omega)]
        simp
      have s2 := sl2 [.lst A, .lst [.int z], .lst (A ++ [.int z])]
      rw [← hB] at s2
      rw [← hA] at s1
      simp only [List.length_append, List.append_assoc, List.cons_append, List.nil_append, List.length_cons, List.length_nil, Nat.reduceAdd] at s2
      have a2 : opAdd (.loc (S.length + 2)) (.loc (S.length + 3)) (S ++ [.lst A, .lst [.int z], .lst (A ++ [.int z]), .lst B]) = some (.loc (S.length + 4), S ++ [.lst A, .lst [.int z], .lst (A ++ [.int z]), .lst B, .lst C]) := by
        rw [opAdd_lst (a := A ++ [.int z]) (b := B) (by rw [lstW_pk]; rfl) (by rw [lstW_pk]; rfl) (by simp; omega)]
        simp [hA, hB, hC]
      refine ⟨bs.take p.toNat ++ [z] ++ bs.drop (p + 1).toNat, 4, [.lst A, .lst [.int z], .lst (A ++ [.int z]), .lst B, .lst C], ?_, by rw [lstOf_pk, hC]; rfl, ?_, by simp; omega⟩
      · unfold m_law_changed mkFn b_law_changed startE
        simp_arith [sPar2_ev, ln, hm, p3, g0, g1, x8, s1, zE, a1, s2, a2]
      · intro b hb
        simp only [List.mem_append, List.mem_cons, List.mem_nil_iff, or_false] at hb
        rcases hb with (h | h) | h
        · exact tk8 b h
        · subst h; exact hz
        · exact dr8 b h
end
end K04

end

section
set_option maxRecDepth 100000
set_option maxHeartbeats 400000
namespace K04
open PySem L2 M1
/-! ### the limits: bytes too many, bytes too few -/
theorem encX_get (s : ST) (X : List Int) {i : Nat} (h : i < s.words.length) : (encB s ++ X)[1 + 2 * i]? = some (s.words.getD i 0 / 256) ∧ (encB s ++ X)[1 + 2 * i + 1]? = some (s.words.getD i 0 % 256) := by
  have := flat_get h X
  unfold encB
  rw [show 1 + 2 * i = 2 * i + 1 by omega, List.cons_append, List.getElem?_cons_succ, List.getElem?_cons_succ]
  exact this
theorem rdW_of {bs : List Int} {o : Nat} {w lo hi : Int} (e1 : bs[o]? = some (w / 256)) (e2 : bs[o + 1]? = some (w % 256)) (h1 : lo ≤ w) (h2 : w ≤ hi) : rdW bs o lo hi = .ok w := by
  unfold rdW
  rw [e1]
  simp only
  rw [if_pos (by omega), e2]
  simp only
  have : 256 * (w / 256) + w % 256 = w := by omega
  rw [this, if_pos ⟨h1, h2⟩]
theorem rdN_of {bs : List Int} {ws : List Int} (hw : ∀ w ∈ ws, wd w) : ∀ (k i : Nat), i + k ≤ ws.length → (∀ j, j < i + k → bs[1 + 2 * j]? = some (ws.getD j 0 / 256) ∧ bs[1 + 2 * j + 1]? = some (ws.getD j 0 % 256)) → rdN bs (1 + 2 * i) k = .ok ((ws.drop i).take k)
  | 0, i, h, _ => by simp [rdN]
  | k + 1, i, h, hg => by
    have hi : i < ws.length := by omega
    have hv : wd (ws.getD i 0) := by
      rw [List.getD_eq_getElem?_getD, List.getElem?_eq_getElem hi]; exact hw _ (List.getElem_mem hi)
    obtain ⟨e1, e2⟩ := hg i (by omega)
    simp only [rdN]
    rw [rdW_of e1 e2 hv.1 hv.2]
    simp only
    rw [show 1 + 2 * i + 2 = 1 + 2 * (i + 1) by omega, rdN_of hw k (i + 1) (by omega) (fun j hj => hg j (by omega))]
    simp only
    rw [List.drop_eq_getElem_cons hi, List.take_succ_cons]
    rw [List.getD_eq_getElem?_getD, List.getElem?_eq_getElem hi]
    rfl
/-- the last word lacks its second byte -/
theorem rdN_cut {bs : List Int} {ws : List Int} (hw : ∀ w ∈ ws, wd w) : ∀ (k i : Nat), i + (k + 1) = ws.length → (∀ j, j < i + k → bs[1 + 2 * j]? = some (ws.getD j 0 / 256) ∧ bs[1 + 2 * j + 1]? = some (ws.getD j 0 % 256)) → bs[1 + 2 * (i + k)]? = some (ws.getD (i + k) 0 / 256) → bs[1 + 2 * (i + k) + 1]? = none → rdN bs (1 + 2 * i) (k + 1) = .error (1 + 2 * (i + k) + 1)
  | 0, i, h, _, e1, e2 => by
    have hv : wd (ws.getD i 0) := by
      rw [List.getD_eq_getElem?_getD, List.getElem?_eq_getElem (by omega)]; exact hw _ (List.getElem_mem _)
    simp only [Nat.add_zero] at e1 e2 ⊢
    unfold wd at hv
    simp only [rdN, rdW, e1, e2]
    rw [if_pos (by omega)]
  | k + 1, i, h, hg, e1, e2 => by
    have hi : i < ws.length := by omega
    have hv : wd (ws.getD i 0) := by
      rw [List.getD_eq_getElem?_getD, List.getElem?_eq_getElem hi]; exact hw _ (List.getElem_mem hi)
    obtain ⟨a1, a2⟩ := hg i (by omega)
    rw [rdN]
    rw [rdW_of a1 a2 hv.1 hv.2]
    simp only
    rw [show 1 + 2 * i + 2 = 1 + 2 * (i + 1) by omega]
    rw [show i + (k + 1) = i + 1 + k by omega] at hg e1 e2 ⊢
    rw [rdN_cut hw k (i + 1) (by omega) hg e1 e2]
theorem dec_long {s : ST} (h : s.ok) (x : Int) : decP (encB s ++ [x]) = .error (13 + 2 * s.mem.length) := by
  have hl : s.words.length = 6 + s.mem.length := by simp [ST.words]; omega
  have hw := words_wd h
  have lo := h.lo; have hi := h.hi
  have h0 : rdB (encB s ++ [x]) 0 0 1 = some s.mode := by
    unfold rdB encB
    simp only [List.cons_append, List.getElem?_cons_zero]
    rw [if_pos (by rcases h.mode with e | e <;> rw [e] <;> exact ⟨by decide, by decide⟩)]
  have g := fun j (hj : j < s.words.length) => encX_get s [x] hj
  have e1 := rdN_of hw 5 0 (by omega) (fun j hj => g j (by omega))
  have w5 : s.words.getD 5 0 = s.mem.length := by simp [ST.words]
  have e2 := rdW_of (lo := 16) (hi := 4000) (g 5 (by omega)).1 (g 5 (by omega)).2 (by rw [w5]; omega) (by rw [w5]; omega)
  have e3 := rdN_of hw s.mem.length 6 (by omega) (fun j hj => g j (by omega))
  rw [w5] at e2
  simp only [Nat.mul_zero, Nat.add_zero, Nat.reduceMul, Nat.reduceAdd] at e1 e2 e3
  unfold decP
  rw [h0]
  simp only [e1, e2]
  rw [Int.toNat_natCast, e3]
  simp only
  rw [if_pos (by rw [List.length_append, enc_len]; simp)]
theorem dec_short {s : ST} (h : s.ok) : decP ((encB s).take (12 + 2 * s.mem.length)) = .error (12 + 2 * s.mem.length) := by
  have hl : s.words.length = 6 + s.mem.length := by simp [ST.words]; omega
  have hw := words_wd h
  have lo := h.lo; have hi := h.hi
  have h0 : rdB ((encB s).take (12 + 2 * s.mem.length)) 0 0 1 = some s.mode := by
    unfold rdB
    rw [List.getElem?_take, if_pos (by omega)]
    unfold encB
    simp only [List.getElem?_cons_zero]
    rw [if_pos (by rcases h.mode with e | e <;> rw [e] <;> exact ⟨by decide, by decide⟩)]
  have g : ∀ j, j + 1 < s.words.length → ((encB s).take (12 + 2 * s.mem.length))[1 + 2 * j]? = some (s.words.getD j 0 / 256) ∧ ((encB s).take (12 + 2 * s.mem.length))[1 + 2 * j + 1]? = some (s.words.getD j 0 % 256) := fun j hj => by
    rw [List.getElem?_take, List.getElem?_take, if_pos (by omega), if_pos (by omega)]
    exact enc_get s (by omega)
  have e1 := rdN_of hw 5 0 (by omega) (fun j hj => g j (by omega))
  have w5 : s.words.getD 5 0 = s.mem.length := by simp [ST.words]
  have e2 := rdW_of (lo := 16) (hi := 4000) (g 5 (by omega)).1 (g 5 (by omega)).2 (by rw [w5]; omega) (by rw [w5]; omega)
  have hm : s.mem.length = s.mem.length - 1 + 1 := by omega
  have e3 := rdN_cut (bs := (encB s).take (12 + 2 * s.mem.length)) hw (s.mem.length - 1) 6 (by omega) (fun j hj => g j (by omega)) (by
    rw [List.getElem?_take, if_pos (by omega)]; exact (enc_get s (by omega)).1) (by rw [List.getElem?_take, if_neg (by omega)])
  rw [w5] at e2
  simp only [Nat.mul_zero, Nat.add_zero, Nat.reduceMul, Nat.reduceAdd] at e1 e2 e3
  rw [← hm, show 1 + 2 * (6 + (s.mem.length - 1)) + 1 = 12 + 2 * s.mem.length by omega] at e3
  unfold decP
  rw [h0]
  simp only [e1, e2]
  rw [Int.toNat_natCast, e3]
end K04

end

section
set_option maxRecDepth 100000
set_option maxHeartbeats 400000
namespace K04
open PySem L2 M1
section
variable {K : PySem.W.Frag} {S : Store} {n : Nat} {bs : List Int} {ns : List Int}
abbrev IS (K : PySem.W.Frag) : Value := .ref (He.ga K "InvalidState")
theorem encode_bad {d : D} {T : Store} (h : m_is_state K [d] S = .ok (.bl false) (S ++ T)) : m_encode K [d] S = .ex (IS K) none (S ++ T) := by
  have c : m_check_state K [d] S = .ex (IS K) none (S ++ T) := by
    unfold m_check_state mkFn b_check_state startE
    simp_arith [h]
  unfold m_encode mkFn b_encode startE
  simp_arith [c]
theorem is_state_no {d : D} (h : ∀ S', cIsi [d, .ty "tuple"] S' = some (.bl false, S')) : m_is_state K [d] S = .ok (.bl false) (S ++ []) := by
  unfold m_is_state mkFn b_is_state startE
  simp_arith [h]
theorem is_state_no' {d : D} (h : cIsi [d, .ty "tuple"] S = some (.bl false, S)) : m_is_state K [d] S = .ok (.bl false) (S ++ []) := by
  unfold m_is_state mkFn b_is_state startE
  simp_arith [h]
theorem is_state_len {ds : List D} (h : ds.length ≠ 7) : m_is_state K [.tup ds] S = .ok (.bl false) (S ++ []) := by
  have it : ∀ S', cIsi [.tup ds, .ty "tuple"] S' = some (.bl true, S') := fun S' => rfl
  have g : decide ((ds.length : Int) = 7) = false := by simp; omega
  unfold m_is_state mkFn b_is_state startE
  simp_arith [it, g]
theorem is_state_bad {ws fs : List D} (hw : ∀ d ∈ ws, ib d = true) (hf : ∀ d ∈ fs, ib d = true) (hl : fs.length = 6) (hz : ws.length ≤ 100000) (hb : (fs.all wordD && decide (16 ≤ ws.length ∧ ws.length ≤ 4000) && modeD (fs.getD 2 .non)) = false) (S : Store) : ∃ T, m_is_state K [.tup (.tup ws :: fs)] S = .ok (.bl false) (S ++ T) := by
  obtain ⟨T, e⟩ := is_state7 (K := K) hw hf hl hz S
  refine ⟨T, ?_⟩
  rw [e]
  rw [Bool.and_assoc, Bool.and_assoc, ← Bool.and_assoc (fs.all wordD), hb, Bool.and_false]
theorem flat_size (z : Array Nat) (f : Nat → List Nat) : (Array.flatten (z.mapIdx fun i c => (f c).toArray)).size = ((z.toList.map fun c => (f c).toArray).map Array.size).sum := by
  have e : (z.mapIdx fun i c => (f c).toArray) = z.map fun c => (f c).toArray := by
    apply Array.ext <;> simp
  rw [e]
  cases z with
  | mk l =>
    simp
    congr 1
/-- upper-case digits -/
theorem up_dig : ∀ c ∈ dig.cps.toList, (Unicode.upperOf c).length = 1 := by decide +kernel
theorem isHex_app (a b : Array Nat) (h : isHex ⟨b⟩ = false) : isHex ((⟨a⟩ : Str) ++ ⟨b⟩) = false := by
  rw [str_app]
  unfold isHex at h ⊢
  simp only [Array.toList_append, List.all_append, h, Bool.and_false]
theorem upper_len {z : Str} (h : isHex z = true) : (Txt.upper z).length = z.length := by
  unfold isHex at h
  rw [List.all_eq_true] at h
  have e : ∀ (l : List Nat), (∀ c ∈ l, c ∈ dig.cps.toList) → ((l.map fun c => (Unicode.upperOf c).toArray).map Array.size).sum = l.length := fun l hl => by
    induction l with
    | nil => rfl
    | cons c l ih =>
      simp only [List.map_cons, List.sum_cons, List.length_cons, ih fun x hx => hl x (List.mem_cons_of_mem _ hx)]
      have := up_dig c (hl c (List.mem_cons_self ..))
      simp only [List.size_toArray, this]; omega
  show (Array.flatten (z.cps.mapIdx fun i c => (Unicode.upperOf c).toArray)).size = z.cps.size
  have e2 := e z.cps.toList fun c hc => by simpa using h c hc
  rw [Array.length_toList] at e2
  rw [← e2, flat_size]
/-! ### the limits -/
def big0 : ST := ⟨List.replicate 4000 9999, 0, 9999, 1, 9999, 0, 9999⟩
@[irreducible] def big : ST := big0
theorem big_eq : big = big0 := by unfold big; rfl
theorem big_ok : big.ok := by
  rw [big_eq]
  refine ⟨fun w hw => ?_, ?_, ?_, .inr rfl, ?_, ?_, ?_, ?_, ?_⟩
  · rw [(List.mem_replicate.mp hw).2]; exact ⟨by decide, by decide⟩
  all_goals first | exact ⟨by decide, by decide⟩ | skip
  · show 16 ≤ (List.replicate 4000 (9999 : Int)).length; rw [List.length_replicate]; decide
  · show (List.replicate 4000 (9999 : Int)).length ≤ 4000; rw [List.length_replicate]; decide
theorem big_len : big.mem.length = 4000 := by rw [big_eq]; show (List.replicate 4000 (9999 : Int)).length = 4000; rw [List.length_replicate]
theorem rep_flat {α : Type} (x : α) : ∀ n, (List.replicate n [x]).flatten = List.replicate n x
  | 0 => rfl
  | n + 1 => by rw [List.replicate_succ, List.flatten_cons, rep_flat x n]; rfl
theorem big_mul : opMulA (.tup [.int 9999]) (.int 4000) S = some (.tup (big.mem.map .int), S) := by
  rw [big_eq]
  unfold opMulA orO opMul opRepT
  have c : [D.int 9999] ≠ [] ∧ (2 : Int) ≤ 4000 ∧ ([D.int 9999].length : Int) * 4000 ≤ 1000000 := ⟨by simp, by decide, by simp⟩
  simp only [c, if_true]
  rw [rep_flat]
  show some (D.tup (List.replicate 4000 (D.int 9999)), S) = some (D.tup ((List.replicate 4000 (9999 : Int)).map .int), S)
  rw [List.map_replicate]
/-- the values that are no encodings, and the empty text -/
def fR : D → D
  | .str z => if z.length = 0 then .int 0 else .non
  | _ => .non
theorem hexI_nil : hexI [] = (("" : String) : Str) := by decide +kernel
theorem res_no (ds : Dis K) {x : D} (hx : ∀ S', cIsi [x, .ty "str"] S' = some (.bl false, S')) (S : Store) : ∃ T, m_law_result K [x] S = .ok .non (S ++ T) := by
  obtain ⟨T, d, e, h⟩ := decode_no (K := K) (S := S) hx
  exact ⟨T, result_ex ds e h⟩
theorem res_bad (ds : Dis K) {z : Str} (hz : z.length ≤ 100000) (hb : z.length % 2 = 1 ∨ isHex z = false) (S : Store) : ∃ T, m_law_result K [.str z] S = .ok .non (S ++ T) := by
  obtain ⟨T, d, e, h⟩ := decode_bad (K := K) (S := S) hz hb
  exact ⟨T, result_ex ds e h⟩
theorem res_empty (ds : Dis K) (S : Store) : ∃ T, m_law_result K [.str ("" : String)] S = .ok (.int 0) (S ++ T) := by
  obtain ⟨T, e⟩ := result_ev (K := K) ds (bs := []) (by simp) (by simp) S
  rw [hexI_nil] at e
  exact ⟨T, e⟩
theorem dec_no' {x : D} (hx : cIsi [x, .ty "str"] S = some (.bl false, S)) : ∃ T d, m_decode K [x] S = .ex (DE K) (some (S.length + d)) (S ++ T) ∧ T[d]? = some (.xd [("offset", .non)]) := by
  refine ⟨[.xd [("offset", .non)]], 0, ?_, rfl⟩
  unfold m_decode mkFn b_decode startE
  simp_arith [hx]
  rfl
theorem res_lst (ds : Dis K) {k : Nat} {xs : List D} (h : S[k]? = some (.lst xs)) : ∃ T, m_law_result K [.loc k] S = .ok .non (S ++ T) := by
  obtain ⟨T, d, e, h⟩ := dec_no' (K := K) (S := S) (x := .loc k) (by
    show (if ("str" : String) ∈ isTys then (tyD S (.loc k)).map fun t => (D.bl (isaB t "str"), S) else none) = _
    rw [if_pos (by simp [isTys])]
    simp [tyD, h, isaB])
  exact ⟨T, result_ex ds e h⟩
end
end K04

end

section
set_option maxRecDepth 100000
set_option maxHeartbeats 1000000
namespace K04
open PySem L2 M1
section
variable {K : PySem.W.Frag} {S : Store} {n : Nat} {bs : List Int} {ns : List Int}
theorem hexI_app (a b : List Int) : hexI a ++ hexI b = hexI (a ++ b) := by
  unfold hexI
  rw [str_app]
  simp [List.flatMap_append]
theorem hex0 : (("00" : String) : Str) = hexI [0] := by decide +kernel
theorem cutZ {l : List Int} (h : 1 ≤ l.length) : Txt.slice (hexI l) none (some (-2)) = hexI (l.take (l.length - 1)) := by
  have hf : ∀ l : List Int, (l.flatMap fun c => [hexD (c / 16).toNat, hexD (c % 16).toNat]).length = 2 * l.length := fun l => by
    have := hexI_len l
    have h2 : (hexI l).length = ((l.flatMap fun c => [hexD (c / 16).toNat, hexD (c % 16).toNat]).toArray).size := rfl
    rw [h2] at this
    simpa using this
  have hk : ∀ (k : Nat) (l : List Int), (l.flatMap fun c => [hexD (c / 16).toNat, hexD (c % 16).toNat]).take (2 * k) = (l.take k).flatMap fun c => [hexD (c / 16).toNat, hexD (c % 16).toNat] := fun k => by
    induction k with
    | zero => intro l; simp
    | succ k ih =>
      intro l
      cases l with
      | nil => simp
      | cons b l =>
        rw [show 2 * (k + 1) = 2 * k + 1 + 1 by omega]
        simp only [List.flatMap_cons, List.cons_append, List.nil_append, List.take_succ_cons, ih]
  have hl := hexI_len l
  have e1 : Txt.slice (hexI l) none (some (-2)) = Txt.slice (hexI l) none (some (-2 + ((hexI l).length : Int))) := by
    unfold Txt.slice
    rw [StrLaws.sliceIdx_neg_hi none (hexI l).length (by decide) (by rw [hl]; omega)]
  rw [e1]
  have e2 := SX.slice_to (a := l.flatMap fun c => [hexD (c / 16).toNat, hexD (c % 16).toNat]) (i := -2 + ((hexI l).length : Int)) (by rw [hl]; omega)
  refine e2.trans ?_
  unfold SX.S hexI
  congr 1
  rw [← hk]
  congr 2
  rw [show ((⟨(l.flatMap fun c => [hexD (c / 16).toNat, hexD (c % 16).toNat]).toArray⟩ : Str).length) = 2 * l.length from hl]
  omega
/-- the largest state's encoding -/
structure BigZ (K : PySem.W.Frag) (Z Z0 Z2 ZU : Str) : Prop where
  len : Z.length = 16026
  enc : ∀ S, ∃ T, m_encode K [big.d] S = .ok (.str Z) (S ++ T)
  dec : ∀ S, ∃ T, m_decode K [.str Z] S = .ok big.d (S ++ T)
  app : ∀ S, opAdd (.str Z) (.str ("00" : String)) S = some (.str Z0, S)
  r0 : ∀ S, ∃ T, m_law_result K [.str Z0] S = .ok (.int 8013) (S ++ T)
  cut : ∀ S, opSl (.str Z) none (some (-2)) S = some (.str Z2, S)
  r2 : ∀ S, ∃ T, m_law_result K [.str Z2] S = .ok (.int 8012) (S ++ T)
  up : ∀ S, gUp (.str Z) [] S = some (.str (Txt.upper Z), S)
  upa : ∀ S, opAdd (.str (Txt.upper Z)) (.str ("AA" : String)) S = some (.str ZU, S)
  rU : ∀ S, ∃ T, m_law_result K [.str ZU] S = .ok .non (S ++ T)
  nU : ZU.length ≠ 0
theorem bigZ (ds : Dis K) : ∃ Z Z0 Z2 ZU, BigZ K Z Z0 Z2 ZU := by
  have bl := enc_len big
  rw [big_len] at bl
  have b8 := enc_is8 big_ok
  have hz : (hexI (encB big)).length = 16026 := by rw [hexI_len, bl]
  have hx := hexI_isHex b8
  have ul := upper_len hx
  have dlong : decP (encB big ++ [0]) = .error 8013 := by have := dec_long big_ok 0; rw [big_len] at this; exact this
  have dshort : decP ((encB big).take 8012) = .error 8012 := by have := dec_short big_ok; rw [big_len] at this; exact this
  have denc := dec_enc big_ok
  refine ⟨hexI (encB big), hexI (encB big ++ [0]), hexI ((encB big).take 8012), Txt.upper (hexI (encB big)) ++ (("AA" : String) : Str), ⟨hz, fun S => encode_ev big_ok S, fun S => ?_, fun S => ?_, fun S => ?_, fun S => ?_, fun S => ?_, fun S => ?_, fun S => ?_, fun S => ?_, ?_⟩⟩
  · have h := decode_ev (K := K) b8 (by omega) S
    rw [denc] at h
    exact h
  · show (if (hexI (encB big)).length + (("00" : String) : Str).length ≤ sizeLine then some (D.str (hexI (encB big) ++ (("00" : String) : Str)), S) else none) = _
    rw [hz, hex0, hexI_len, sizeLine_eq, if_pos (by decide), hexI_app]
  · have h := result_ev (K := K) ds (bs := encB big ++ [0]) (fun b hb => by
      rcases List.mem_append.mp hb with h | h
      · exact b8 b h
      · simp at h; subst h; exact ⟨by decide, by decide⟩) (by rw [List.length_append, bl]; decide) S
    rw [dlong] at h
    exact h
  · show (if (hexI (encB big)).length ≤ sizeLine then some (D.str (Txt.slice (hexI (encB big)) none (some (-2))), S) else none) = _
    rw [hz, sizeLine_eq, if_pos (by decide), cutZ (by omega), bl]
  · have h := result_ev (K := K) ds (bs := (encB big).take 8012) (fun b hb => b8 b (List.mem_of_mem_take hb)) (by rw [List.length_take, bl]; omega) S
    rw [dshort] at h
    exact h
  · show (if (hexI (encB big)).length ≤ 5592405 then some (D.str (Txt.upper (hexI (encB big))), S) else none) = _
    rw [hz, if_pos (by decide)]
  · show (if (Txt.upper (hexI (encB big))).length + (("AA" : String) : Str).length ≤ sizeLine then some (D.str (Txt.upper (hexI (encB big)) ++ (("AA" : String) : Str)), S) else none) = _
    rw [ul, hz, show (("AA" : String) : Str).length = 2 from by decide +kernel, sizeLine_eq, if_pos (by decide)]
  · refine res_bad ds ?_ (.inr ?_) S
    · have : (Txt.upper (hexI (encB big)) ++ (("AA" : String) : Str)).length = (Txt.upper (hexI (encB big))).length + (("AA" : String) : Str).length := Str.length_append _ _
      rw [this, ul, hz, show (("AA" : String) : Str).length = 2 from by decide +kernel]; decide
    · generalize Txt.upper (hexI (encB big)) = U
      have : (("AA" : String) : Str) = ⟨#[65, 65]⟩ := by decide +kernel
      rw [this]
      exact isHex_app U.cps #[65, 65] (by decide +kernel)
  · have : (Txt.upper (hexI (encB big)) ++ (("AA" : String) : Str)).length = (Txt.upper (hexI (encB big))).length + (("AA" : String) : Str).length := Str.length_append _ _
    rw [this, ul, hz, show (("AA" : String) : Str).length = 2 from by decide +kernel]; decide
end
end K04

end

section
set_option maxRecDepth 100000
set_option maxHeartbeats 1000000
namespace K04
open PySem L2 M1
section
variable {K : PySem.W.Frag} {S : Store} {n : Nat} {bs : List Int} {ns : List Int}
theorem gD_st (s : ST) : gD s.d = true := by
  simp [ST.d, gD, gDs, gDs_ints]
theorem dp_st (s : ST) : dpD s.d ≤ 60 := by
  simp [ST.d, dpD, dpDs, dpDs_ints]
theorem ne_st (s : ST) (S : Store) : opNe s.d s.d S = some (.bl false, S) := opNe_self (gD_st s) (dp_st s)
/-- the loop over arguments that are no states -/
abbrev limB (K : PySem.W.Frag) : Sm := (sTry (sSeq (sExpr (eF (m_encode K) [] (aCons (eVar 5) aNil)))
    (sRet (eC (.bl false)))) (ans_InvalidState K) (sAsg (eC (.int 0)) (gN 2)))
theorem lim_loop (ds : Dis K) {xs : List D} {a b c d e : Option D} {T0 : Store} (hx : ∀ x ∈ xs, ∀ X, ∃ T, m_encode K [x] (S ++ X) = .ex (IS K) none (S ++ (X ++ T))) {src : Src} (hi : ∀ i X, src.item i (S ++ X) = some xs[i]?) :
    ∃ c' e' T', forN src (gN 5) (limB K) (xs.length + 1) 0 [a, b, c, d, e, none] (S ++ T0) = .nx [a, b, c', d, e, e'] (S ++ T') := by
  have loop := forN_inv (src := src) (g := gN 5) (b := limB K) (fun i ρ S' => ∃ c' e' T', ρ = [a, b, c', d, e, e'] ∧ S' = S ++ T') xs.length
    (by
      rintro i ρ S' hlt ⟨c', e', T', rfl, rfl⟩
      obtain ⟨T2, e2⟩ := hx xs[i] (List.getElem_mem hlt) T'
      have isn := ds.is
      refine ⟨xs[i], _, _, _, by rw [hi, List.getElem?_eq_getElem hlt], rfl, ?_, some (.int 0), some xs[i], T' ++ T2, rfl, rfl⟩
      simp_arith [e2, isn])
    (by rintro ρ S' ⟨c', e', T', rfl, rfl⟩; rw [hi]; simp)
    (xs.length + 1) 0 [a, b, c, d, e, none] (S ++ T0) (by omega) (by omega) ⟨c, none, T0, rfl, rfl⟩
  obtain ⟨ρ', S', e1, c', e', T', rfl, rfl⟩ := loop
  exact ⟨c', e', T', e1⟩
theorem limits_ev (ds : Dis K) (S : Store) : ∃ T, m_law_limits_right K [] S = .ok (.bl true) (S ++ T) := by
  obtain ⟨Z, Z0, Z2, ZU, bz⟩ := bigZ ds
  obtain ⟨M, hM⟩ : ∃ M : List D, M = big.mem.map .int := ⟨_, rfl⟩
  have lM : M.length = 4000 := by rw [hM, List.length_map, big_len]
  have iM : ∀ d ∈ M, ib d = true := by rw [hM]; exact ib_ints _
  have mul : ∀ S', opMulA (.tup [.int 9999]) (.int 4000) S' = some (.tup M, S') := fun S' => by rw [big_mul, hM]
  have hB : D.tup [.tup M, .int 0, .int 9999, .int 1, .int 9999, .int 0, .int 9999] = big.d := by rw [hM]; with_unfolding_all rfl
  obtain ⟨B, hB2⟩ : ∃ B : D, B = big.d := ⟨_, rfl⟩
  rw [← hB2] at hB
  obtain ⟨T1, e1⟩ := bz.enc S
  obtain ⟨T2, e2⟩ := bz.dec (S ++ T1)
  obtain ⟨T3, e3⟩ := bz.r0 (S ++ T1 ++ T2)
  obtain ⟨T4, e4⟩ := bz.r2 (S ++ T1 ++ T2 ++ T3)
  rw [← hB2] at e1 e2
  have nB : ∀ S', opNe B B S' = some (.bl false, S') := fun S' => by rw [hB2]; exact ne_st big S'
  have ln : ∀ S', cLen [.str Z] S' = some (.int 16026, S') := fun S' => by
    show (if Z.length ≤ sizeLine then some (D.int Z.length, S') else none) = _
    rw [bz.len, sizeLine_eq, if_pos (by decide)]; rfl
  simp only [List.append_assoc] at e2 e3 e4
  obtain ⟨S4, hS4⟩ : ∃ S4 : Store, S4 = S ++ (T1 ++ (T2 ++ (T3 ++ T4))) := ⟨_, rfl⟩
  rw [← hS4] at e4
  -- the texts
  obtain ⟨vals, hvals⟩ : ∃ vals : List D, vals = [.non, .int 5, .str ("0" : String), .loc S4.length, .str ("0G" : String), .str ZU, .str (" 0" : String), .str ("" : String)] := ⟨_, rfl⟩
  obtain ⟨R, hR⟩ : ∃ R : List D, R = vals.map fR := ⟨_, rfl⟩
  have hR8 : R = [.non, .non, .non, .non, .non, .non, .non, .int 0] := by
    have l1 : ((("0" : String) : Str).length = 0) = False := by simp; decide +kernel
    have l2 : ((("0G" : String) : Str).length = 0) = False := by simp; decide +kernel
    have l3 : (((" 0" : String) : Str).length = 0) = False := by simp; decide +kernel
    have l4 : ((("" : String) : Str).length = 0) = True := by simp; decide +kernel
    have l5 := bz.nU
    rw [hR, hvals]
    simp only [List.map_cons, List.map_nil, fR, l1, l2, l3, l4, l5, if_true, if_false]
  obtain ⟨T5, e5⟩ := eLc_ext (n := 6) (vs := [5]) (fi := iAny (eVar 3)) (g := gN 5) (e := eF (m_law_result K) [] (aCons (eVar 5) aNil)) (ρ := [some B, some (.str Z), some (.int 8013), some (.loc (S4.length + 1)), none, none]) (S0 := S4 ++ [.lst [.int 0], .lst vals]) (S := S4 ++ [.lst [.int 0], .lst vals]) (src := lstSrc (S4.length + 1) 8) (ds := vals) (f := fR)
    (by simp) (by
      have : lstOf (S4 ++ [.lst [.int 0], .lst vals]) (S4.length + 1) = some vals := by rw [lstOf_pk]; rfl
      simp_arith [this]
      rw [hvals]; rfl) (by rw [hvals]; simp [lstSrc]) (by rw [hvals, sizeLine_eq]; simp) (fun i X => by
      have : lstOf (S4 ++ [.lst [.int 0], .lst vals] ++ X) (S4.length + 1) = some vals := by rw [List.append_assoc, lstOf_pk]; rfl
      simp [lstSrc, this])
    (fun d hd X => by
      have goal : ∃ T, m_law_result K [d] (S4 ++ [.lst [.int 0], .lst vals] ++ X) = .ok (fR d) (S4 ++ [.lst [.int 0], .lst vals] ++ X ++ T) := by
        have l1 : ((("0" : String) : Str).length = 0) = False := by simp; decide +kernel
        have l2 : ((("0G" : String) : Str).length = 0) = False := by simp; decide +kernel
        have l3 : (((" 0" : String) : Str).length = 0) = False := by simp; decide +kernel
        have l4 : ((("" : String) : Str).length = 0) = True := by simp; decide +kernel
        have l5 := bz.nU
        rw [hvals] at hd
        simp only [List.mem_cons, List.mem_nil_iff, or_false] at hd
        rcases hd with h | h | h | h | h | h | h | h <;> subst h
        · exact res_no ds (fun S' => rfl) _
        · exact res_no ds (fun S' => rfl) _
        · simp only [fR, l1, if_false]; exact res_bad ds (by decide +kernel) (.inl (by decide +kernel)) _
        · exact res_lst ds (xs := [.int 0]) (by rw [List.append_assoc]; simp)
        · simp only [fR, l2, if_false]; exact res_bad ds (by decide +kernel) (.inr (by decide +kernel)) _
        · simp only [fR, l5, if_false]; exact bz.rU _
        · simp only [fR, l3, if_false]; exact res_bad ds (by decide +kernel) (.inr (by decide +kernel)) _
        · simp only [fR, l4, if_true]; exact res_empty ds _
      obtain ⟨T, e⟩ := goal
      refine ⟨_, T, rfl, ?_⟩
      simp_arith [eC_ev]
      simp only [List.append_assoc, List.cons_append, List.nil_append] at e
      exact e)
  rw [← hR] at e5
  have ll : (S4 ++ [SO.lst [D.int 0], SO.lst vals]).length = S4.length + 2 := by simp
  rw [ll] at e5
  obtain ⟨S5, hS5⟩ : ∃ S5 : Store, S5 = S4 ++ [.lst [.int 0], .lst vals] ++ .lst R :: T5 := ⟨_, rfl⟩
  rw [← hS5] at e5
  have n7 : opMulA (.loc S5.length) (.int 7) (S5 ++ [.lst [.non]]) = some (.loc (S5.length + 1), S5 ++ [.lst [.non], .lst (List.replicate 7 .non)]) := by
    rw [opMulA_rep (a := [.non]) (by simp) (by decide) (by simp) (by decide)]
    simp only [List.length_append, List.length_cons, List.length_nil, List.append_assoc, List.cons_append, List.nil_append, Nat.reduceAdd]
    rfl
  obtain ⟨N7, hN7⟩ : ∃ N : List D, N = List.replicate 7 .non := ⟨_, rfl⟩
  rw [← hN7] at n7
  have a8 : opAdd (.loc (S5.length + 1)) (.loc (S5.length + 2)) (S5 ++ [.lst [.non], .lst N7, .lst [.int 0]]) = some (.loc (S5.length + 3), S5 ++ [.lst [.non], .lst N7, .lst [.int 0], .lst R]) := by
    rw [opAdd_lst (a := N7) (b := [.int 0]) (by rw [lstW_pk]; rfl) (by rw [lstW_pk]; rfl) (by rw [hN7]; simp)]
    rw [hR8, hN7]
    simp only [List.length_append, List.length_cons, List.length_nil, List.append_assoc, List.cons_append, List.nil_append, Nat.reduceAdd]
    rfl
  have q8 : opNe (.loc (S4.length + 2)) (.loc (S5.length + 3)) (S5 ++ [.lst [.non], .lst N7, .lst [.int 0], .lst R]) = some (.bl false, S5 ++ [.lst [.non], .lst N7, .lst [.int 0], .lst R]) := by
    have h1 : lstOf S5 (S4.length + 2) = some R := by rw [hS5, List.append_assoc, lstOf_pk]; rfl
    unfold opNe
    rw [pyEq_lst (lstOf_app h1) (by rw [lstOf_pk]; rfl) (by rw [hR8]; rfl) (by rw [hR8]; rfl) (by rw [hR8]; decide) (by rw [hR8]; decide)]
    rw [eqvs_refl R (by rw [hR8]; rfl)]
    rfl
  -- the arguments that are no states
  have ixB : ∀ S', opIxA B (.int 0) S' = some (.tup M, S') := fun S' => by rw [← hB]; exact opIxA_tup (by decide) rfl
  obtain ⟨B6, hB6, slB⟩ : ∃ B6 : List D, B6.length = 6 ∧ ∀ S', opSl B none (some 6) S' = some (.tup B6, S') := ⟨[.tup M, .int 0, .int 9999, .int 1, .int 9999, .int 0], rfl, fun S' => by rw [← hB, opSl_tup, cut_take (by decide)]; rfl⟩
  obtain ⟨B7, clB⟩ : ∃ B7 : List D, ∀ S', cLst [B] S' = some (.loc S'.length, S' ++ [.lst B7]) := ⟨[.tup M, .int 0, .int 9999, .int 1, .int 9999, .int 0, .int 9999], fun S' => by rw [← hB]; rfl⟩
  obtain ⟨M15, hM15, sl15⟩ : ∃ M15 : List D, M15 = M.take 15 ∧ ∀ S', opSl (.tup M) none (some 15) S' = some (.tup M15, S') := ⟨_, rfl, fun S' => by rw [opSl_tup, cut_take (by decide)]; rfl⟩
  obtain ⟨M1, hM1, ad1⟩ : ∃ M1 : List D, M1 = M ++ [.int 1] ∧ ∀ S', opAdd (.tup M) (.tup [.int 1]) S' = some (.tup M1, S') := ⟨_, rfl, fun S' => opAdd_tup _ _ (by rw [lM]; decide)⟩
  obtain ⟨v5, hv5⟩ : ∃ v : List D, v = [.non, .tup B6, .loc (S5.length + 4), .tup [.tup M, .int 0, .int 0, .int 2, .int 0, .int 0, .int 0], .tup [.tup M15, .int 0, .int 0, .int 0, .int 0, .int 0, .int 0]] := ⟨_, rfl⟩
  obtain ⟨v2, hv2⟩ : ∃ v : List D, v = [.tup [.tup M1, .int 0, .int 0, .int 0, .int 0, .int 0, .int 0], .tup [.tup M, .int 0, .bl true, .int 0, .int 0, .int 0, .int 0]] := ⟨_, rfl⟩
  obtain ⟨v1, hv1⟩ : ∃ v : List D, v = [.tup [.tup M, .int 10000, .int 0, .int 0, .int 0, .int 0, .int 0]] := ⟨_, rfl⟩
  obtain ⟨x8, hx8⟩ : ∃ v : List D, v = v5 ++ v2 ++ v1 := ⟨_, rfl⟩
  have a7 : opAdd (.loc (S5.length + 5)) (.loc (S5.length + 6)) (S5 ++ [.lst [.non], .lst N7, .lst [.int 0], .lst R, .lst B7, .lst v5, .lst v2]) = some (.loc (S5.length + 7), S5 ++ [.lst [.non], .lst N7, .lst [.int 0], .lst R, .lst B7, .lst v5, .lst v2, .lst (v5 ++ v2)]) := by
    rw [opAdd_lst (a := v5) (b := v2) (by rw [lstW_pk]; rfl) (by rw [lstW_pk]; rfl) (by rw [hv5, hv2]; simp)]
    simp only [List.length_append, List.length_cons, List.length_nil, List.append_assoc, List.cons_append, List.nil_append, Nat.reduceAdd]
  obtain ⟨v7, hv7⟩ : ∃ v : List D, v = v5 ++ v2 := ⟨_, rfl⟩
  rw [← hv7] at a7
  have a9 : opAdd (.loc (S5.length + 7)) (.loc (S5.length + 8)) (S5 ++ [.lst [.non], .lst N7, .lst [.int 0], .lst R, .lst B7, .lst v5, .lst v2, .lst v7, .lst v1]) = some (.loc (S5.length + 9), S5 ++ [.lst [.non], .lst N7, .lst [.int 0], .lst R, .lst B7, .lst v5, .lst v2, .lst v7, .lst v1, .lst x8]) := by
    rw [opAdd_lst (a := v7) (b := v1) (by rw [lstW_pk]; rfl) (by rw [lstW_pk]; rfl) (by rw [hv7, hv5, hv2, hv1]; simp)]
    rw [hx8, hv7]
    simp only [List.length_append, List.length_cons, List.length_nil, List.append_assoc, List.cons_append, List.nil_append, Nat.reduceAdd]
  obtain ⟨S6, hS6⟩ : ∃ S6 : Store, S6 = S5 ++ [.lst [.non], .lst N7, .lst [.int 0], .lst R, .lst B7, .lst v5, .lst v2, .lst v7, .lst v1, .lst x8] := ⟨_, rfl⟩
  rw [← hS6] at a9
  have l8 : lstOf S6 (S5.length + 9) = some x8 := by rw [hS6, lstOf_pk]; rfl
  have n8 : x8.length = 8 := by rw [hx8, hv5, hv2, hv1]; rfl
  have z6 : ∀ d ∈ [D.int 0, .int 0, .int 2, .int 0, .int 0, .int 0], ib d = true := by decide
  obtain ⟨c', e', T7, e7⟩ := lim_loop (K := K) (S := S6) ds (xs := x8) (a := some B) (b := some (.str Z)) (c := some (.int 8013)) (d := some (.loc (S5.length + 7))) (e := some (.tup M)) (T0 := []) (src := lstSrc (S5.length + 9) 8) (by
    intro x hx X
    have goal : ∃ T, m_is_state K [x] (S6 ++ X) = .ok (.bl false) (S6 ++ X ++ T) := by
      rw [hx8, hv5, hv2, hv1] at hx
      simp only [List.cons_append, List.nil_append, List.mem_cons, List.mem_nil_iff, or_false] at hx
      have i1 : ∀ d ∈ M1, ib d = true := by
        rw [hM1]; intro d hd
        rcases List.mem_append.mp hd with h | h
        · exact iM d h
        · simp at h; subst h; rfl
      have i15 : ∀ d ∈ M15, ib d = true := by rw [hM15]; exact fun d hd => iM d (List.mem_of_mem_take hd)
      rcases hx with h | h | h | h | h | h | h | h <;> subst h
      · exact ⟨_, is_state_no fun S' => rfl⟩
      · exact ⟨_, is_state_len (by rw [hB6]; decide)⟩
      · refine ⟨_, is_state_no' ?_⟩
        have : (S6 ++ X)[S5.length + 4]? = some (.lst B7) := by rw [hS6, List.append_assoc, List.getElem?_append_right (by omega)]; simp
        show (if ("tuple" : String) ∈ isTys then (tyD (S6 ++ X) (.loc (S5.length + 4))).map fun t => (D.bl (isaB t "tuple"), S6 ++ X) else none) = _
        rw [if_pos (by simp [isTys])]
        simp [tyD, this, isaB]
      · exact is_state_bad iM (by decide) rfl (by rw [lM]; decide) (by simp [modeD]) _
      · exact is_state_bad i15 (by decide) rfl (by rw [hM15, List.length_take, lM]; decide) (by rw [hM15, List.length_take, lM]; decide) _
      · exact is_state_bad i1 (by decide) rfl (by rw [hM1, List.length_append, lM]; decide) (by rw [hM1, List.length_append, lM]; decide) _
      · exact is_state_bad iM (by decide) rfl (by rw [lM]; decide) (by simp [wordD]) _
      · exact is_state_bad iM (by decide) rfl (by rw [lM]; decide) (by simp [wordD]) _
    obtain ⟨T, e⟩ := goal
    have := encode_bad e
    rw [List.append_assoc] at this
    exact ⟨T, this⟩) (fun i X => by simp [lstSrc, lstOf_app l8])
  rw [List.append_nil, n8] at e7
  refine ⟨T1 ++ (T2 ++ (T3 ++ T4)) ++ [.lst [.int 0], .lst vals] ++ .lst R :: T5 ++ [.lst [.non], .lst N7, .lst [.int 0], .lst R, .lst B7, .lst v5, .lst v2, .lst v7, .lst v1, .lst x8] ++ T7, ?_⟩
  have hfin : S ++ (T1 ++ (T2 ++ (T3 ++ T4)) ++ [.lst [.int 0], .lst vals] ++ .lst R :: T5 ++ [.lst [.non], .lst N7, .lst [.int 0], .lst R, .lst B7, .lst v5, .lst v2, .lst v7, .lst v1, .lst x8] ++ T7) = S6 ++ T7 := by
    rw [hS6, hS5, hS4]; simp only [List.append_assoc]
  rw [hfin]
  rw [hvals] at e5
  unfold m_law_limits_right mkFn b_law_limits_right startE
  have bd : ∀ a b, (lstSrc a b).bound = b := fun _ _ => rfl
  simp only [Nat.reduceAdd] at e7
  have lv5 : v5.length = 5 := by rw [hv5]; rfl
  have lv2 : v2.length = 2 := by rw [hv2]; rfl
  have lv1 : v1.length = 1 := by rw [hv1]; rfl
  have hv5' := hv5.symm
  have hv2' := hv2.symm
  have hv1' := hv1.symm
  have hN7' := hN7.symm
  simp_arith [mul, hB, e1, ln, e2, nB, bz.app, e3, bz.cut, e4, bz.up, bz.upa, e5, n7, a8, q8, ixB, slB, clB, sl15, ad1, hv5', a7, hv2', hv1', a9, l8, n8, bd, e7, lv5, lv2, lv1]
end
end K04

end

section
set_option maxRecDepth 100000
set_option maxHeartbeats 1000000
namespace K04
open PySem L2 M1
section
variable {K : PySem.W.Frag} {S : Store} {n : Nat} {bs : List Int} {ns : List Int}
theorem ne_res (r : Except Nat ST) (S : Store) : opNe (resD r) (resD r) S = some (.bl false, S) := by
  cases r with
  | ok s => exact ne_st s S
  | error e => simp [resD]
theorem strOk_hexI (h8 : ∀ b ∈ bs, is8P b) : PyData.strOk (hexI bs) = true := by
  unfold PyData.strOk
  have h := hexI_isHex h8
  have hd : ∀ c ∈ dig.cps.toList, c < 1114112 := by decide +kernel
  unfold isHex at h
  rw [List.all_eq_true] at h
  rw [← Array.all_toList, List.all_eq_true]
  intro c hc
  have := h c hc
  simp only [decide_eq_true_eq] at this ⊢
  exact hd c this
theorem ne_hex (h8 : ∀ b ∈ bs, is8P b) (S : Store) : opNe (.str (hexI bs)) (.str (hexI bs)) S = some (.bl false, S) := opNe_self (by simpa [gD] using strOk_hexI h8) (by simp [dpD])
abbrev innerB (K : PySem.W.Frag) : Sm := (sSeq (sAsg (eF (m_law_changed K) [] (aCons (eVar 11) (aCons (eF (m_law_value K) [] (aCons (eVar 0) (aCons (eOp opAdd (eOp opAdd (eC (.int 600)) (eOp opMulA (eC (.int 8)) (eVar 1))) (eVar 13)) aNil))) aNil))) (gN 14))
    (sIf (tBl (eOp opNe (eF (m_law_result K) [] (aCons (eF (m_law_hex K) [] (aCons (eVar 14) aNil)) aNil)) (eF (m_law_decode K) [] (aCons (eVar 14) aNil)))) (sRet (eC (.bl false))) sNil))
theorem inner_ev (ds : Dis K) (h : Scr S n ns) {l : Nat} (hv : lstW S l = some (bs.map .int)) (h8 : ∀ b ∈ bs, is8P b) (hl : bs.length ≤ 5000) (h0 : 0 < bs.length) {i : Int} (hi : 0 ≤ i) (hi2 : i < 6) (a2 a3 a4 a5 a6 a7 a8 a9 a10 a12 a13 a14 a15 a16 : Option D) :
    ∃ x13 x14 T, forN (rngD 0 8) (gN 13) (innerB K) 9 0 [some (.loc n), some (.int i), a2, a3, a4, a5, a6, a7, a8, a9, a10, some (.loc l), a12, a13, a14, a15, a16] S = .nx [some (.loc n), some (.int i), a2, a3, a4, a5, a6, a7, a8, a9, a10, some (.loc l), a12, x13, x14, a15, a16] (S ++ T) := by
  have loop := forN_inv (src := rngD 0 8) (g := gN 13) (b := innerB K) (fun _ ρ S' => ∃ x13 x14 T, ρ = [some (.loc n), some (.int i), a2, a3, a4, a5, a6, a7, a8, a9, a10, some (.loc l), a12, x13, x14, a15, a16] ∧ S' = S ++ T) 8
    (by
      rintro j ρ S' hj ⟨x13, x14, T, rfl, rfl⟩
      have mu : ∀ (a : Int) S', opMulA (.int 8) (.int a) S' = some (.int (8 * a), S') := fun a S' => opMulA_l (by decide) (by decide)
      obtain ⟨T1, e1⟩ := val (K := K) (S := S ++ T) (k := 600 + 8 * i + (0 + j)) h.app (by omega) (by omega)
      have hvn := valP_nn ns (600 + 8 * i + (0 + j)) (by omega)
      obtain ⟨cs, q, T2, e2, c2, c8, cl⟩ := changed_ev (K := K) (S := S ++ T ++ T1) (n := l) hvn (lstW_app (lstW_app hv)) h8 hl h0
      obtain ⟨S2, hS2⟩ : ∃ S2 : Store, S2 = S ++ T ++ T1 ++ T2 := ⟨_, rfl⟩
      obtain ⟨p, hp⟩ : ∃ p : Nat, p = (S ++ T ++ T1).length + q := ⟨_, rfl⟩
      rw [← hS2, ← hp] at e2 c2
      obtain ⟨T3, e3⟩ := hex_ev (K := K) (S := S2) c2 c8 (by omega)
      obtain ⟨T4, e4⟩ := result_ev (K := K) ds c8 (by omega) (S2 ++ T3)
      obtain ⟨T5, e5⟩ := law_decode_ev (K := K) (S := S2 ++ T3 ++ T4) (lstOf_app (lstOf_app c2)) c8 (by omega)
      have en := ne_res (decP cs) (S2 ++ T3 ++ T4 ++ T5)
      simp only [List.append_assoc] at e1 e2 e3 e4 e5 en
      refine ⟨.int (0 + j), _, _, _, by simp [hj], rfl, ?_, some (.int (0 + j)), some (.loc p), T ++ T1 ++ T2 ++ T3 ++ T4 ++ T5, rfl, rfl⟩
      have hfin : S ++ (T ++ T1 ++ T2 ++ T3 ++ T4 ++ T5) = S2 ++ (T3 ++ (T4 ++ T5)) := by rw [hS2]; simp only [List.append_assoc]
      rw [hfin]
      simp_arith [mu, e1, e2, e3, e4, e5, en])
    (by rintro ρ S' ⟨x13, x14, T, rfl, rfl⟩; simp)
    9 0 [some (.loc n), some (.int i), a2, a3, a4, a5, a6, a7, a8, a9, a10, some (.loc l), a12, a13, a14, a15, a16] S (by omega) (by omega) ⟨a13, a14, [], rfl, by simp⟩
  obtain ⟨ρ', S', e, x13, x14, T, rfl, rfl⟩ := loop
  exact ⟨x13, x14, T, e⟩
/-! ### the changed state -/
def chg (mem : List Int) : List Int := mem.mapIdx fun i w => if i % 3 = 1 then 9999 - w % 9 else w
def ST.chg (s : ST) : ST := ⟨K04.chg s.mem, 9999 - s.acc, s.pc, s.mode, s.base, 9999 - s.bound, s.timer⟩
theorem chg_len (mem : List Int) : (chg mem).length = mem.length := by simp [chg]
theorem chg_ok {s : ST} (h : s.ok) : s.chg.ok := by
  refine ⟨fun w hw => ?_, ?_, h.pc, h.mode, h.base, ?_, h.timer, ?_, ?_⟩
  · simp only [ST.chg, chg, List.mem_mapIdx] at hw
    obtain ⟨i, hi, rfl⟩ := hw
    have := h.mem _ (List.getElem_mem hi)
    unfold wd at this ⊢
    split <;> omega
  · have := h.acc; unfold wd at this ⊢; simp only [ST.chg]; omega
  · have := h.bound; unfold wd at this ⊢; simp only [ST.chg]; omega
  · simp only [ST.chg, chg_len]; exact h.lo
  · simp only [ST.chg, chg_len]; exact h.hi
def pr (mem : List Int) : List D := mem.mapIdx fun i w => .tup [.int i, .int w]
def fC : D → D
  | .tup [.int i, .int w] => .int (if i % 3 = 1 then 9999 - w % 9 else w)
  | d => d
theorem pr_f (mem : List Int) : (pr mem).map fC = (chg mem).map .int := by
  unfold pr chg
  apply List.ext_getElem?
  intro i
  simp only [List.getElem?_map, List.getElem?_mapIdx, Option.map_map]
  cases mem[i]? with
  | none => rfl
  | some w =>
    simp only [Option.map_some, Function.comp, fC]
    congr 2
    have : ((i : Int) % 3 = 1) = (i % 3 = 1) := by apply propext; omega
    simp only [this]
theorem chg_ev {mem : List Int} (hl : mem.length ≤ 100) {ρ : M1.Env} (hr : ρ.length = 17) (h4 : ρ[4]? = some (some (.tup (mem.map .int)))) : ∃ T, eLc 17 [15, 16] (iEnumM (aCons (eVar 4) aNil)) (gT 2 (gsCons (gN 15) (gsCons (gN 16) gsNil))) tYesM (eOp opIxA (eTup (aCons (eVar 16) (aCons (eOp opSub (eC (.int 9999)) (eOp opMod (eCall cInt (aCons (eVar 16) aNil)) (eC (.int 9)))) (aCons (eVar 16) aNil)))) (eOp opMod (eCall cInt (aCons (eVar 15) aNil)) (eC (.int 3)))) ρ S = .ok (.loc S.length) (S ++ .lst ((chg mem).map .int) :: T) := by
  rw [← pr_f]
  have lp : (pr mem).length = mem.length := by simp [pr]
  refine eLc_ext (src := enumT (mem.map .int)) (ds := pr mem) (f := fC) (by omega) ?_ (by rw [lp]; simp [enumT]) (by rw [lp, sizeLine_eq]; omega) (fun i X => ?_) (fun d hd X => ?_)
  · unfold iEnumM bnd
    simp only [aCons_ev, eVar_ev, h4, bind_ok, aNil_ev]
  · simp only [enumT, pr, List.getElem?_mapIdx, List.getElem?_map, M1.numbered]
    cases mem[i]? <;> rfl
  · simp only [pr, List.mem_mapIdx] at hd
    obtain ⟨i, hi, rfl⟩ := hd
    generalize mem[i] = w
    refine ⟨((wipeE ρ [15, 16]).set 15 (some (.int i))).set 16 (some (.int w)), [], rfl, ?_⟩
    have v16 : ∀ S', eVar 16 (((wipeE ρ [15, 16]).set 15 (some (.int i))).set 16 (some (.int w))) S' = .ok (.int w) S' := fun S' => by
      rw [eVar_ev, List.getElem?_set_self (by simp [hr])]
    have v15 : ∀ S', eVar 15 (((wipeE ρ [15, 16]).set 15 (some (.int i))).set 16 (some (.int w))) S' = .ok (.int i) S' := fun S' => by
      rw [eVar_ev, List.getElem?_set_ne (by decide), List.getElem?_set_self (by simp [hr])]
    have h3 : (i : Int) % 3 = 0 ∨ (i : Int) % 3 = 1 ∨ (i : Int) % 3 = 2 := by omega
    simp only [eOp_ev, eTup_ev, aCons_ev, v16, bind_ok, eC_ev, eCall_ev, aNil_ev, cInt_int, of_some, opMod_int _ _ (show (0 : Int) < 9 by decide), opSub_int, List.length_cons, List.length_nil, Nat.reduceAdd, sizeLine_eq, Nat.reduceLeDiff, if_true, v15, opMod_int _ _ (show (0 : Int) < 3 by decide), fC, List.append_nil]
    rcases h3 with h | h | h
    · rw [h, opIxA_tup (d := .int w) (by decide) rfl]; simp
    · rw [h, opIxA_tup (d := .int (9999 - w % 9)) (by decide) rfl]; simp
    · rw [h, opIxA_tup (d := .int w) (by decide) rfl]; simp
end
end K04

end

section
set_option maxRecDepth 100000
set_option maxHeartbeats 1000000
namespace K04
open PySem L2 M1
section
variable {K : PySem.W.Frag} {S : Store} {n : Nat} {bs : List Int} {ns : List Int}
abbrev outB (K : PySem.W.Frag) : Sm := (sSeq (sAsg (eF (m_law_machine K) [] (aCons (eVar 0) (aCons (eOp opAdd (eC (.int 20)) (eOp opMulA (eC (.int 6)) (eVar 1))) aNil))) (gN 2))
    (sSeq (sAsg (eF (m_law_state K) [] (aCons (eVar 0) (aCons (eOp opAdd (eC (.int 100)) (eOp opMulA (eC (.int 60)) (eVar 1))) (aCons (eVar 2) (aCons (eOp opIxA (eTup (aCons (eC (.int 16)) (aCons (eC (.int 17)) (aCons (eC (.int 24)) (aCons (eC (.int 40)) aNil))))) (eOp opMod (eVar 1) (eC (.int 4)))) aNil))))) (gN 3))
    (sSeq (sAsg (eVar 3) (gT 7 (gsCons (gN 4) (gsCons (gN 5) (gsCons (gN 6) (gsCons (gN 7) (gsCons (gN 8) (gsCons (gN 9) (gsCons (gN 10) gsNil)))))))))
    (sSeq (sAsg (eCall cTup (aCons (eLc 17 [15, 16] (iEnumM (aCons (eVar 4) aNil)) (gT 2 (gsCons (gN 15) (gsCons (gN 16) gsNil))) tYesM (eOp opIxA (eTup (aCons (eVar 16) (aCons (eOp opSub (eC (.int 9999)) (eOp opMod (eCall cInt (aCons (eVar 16) aNil)) (eC (.int 9)))) (aCons (eVar 16) aNil)))) (eOp opMod (eCall cInt (aCons (eVar 15) aNil)) (eC (.int 3))))) aNil)) (gN 4))
    (sSeq (sAsg (eTup (aCons (eVar 4) (aCons (eOp opSub (eC (.int 9999)) (eVar 5)) (aCons (eVar 6) (aCons (eVar 7) (aCons (eVar 8) (aCons (eOp opSub (eC (.int 9999)) (eVar 9)) (aCons (eVar 10) aNil)))))))) (gN 3))
    (sSeq (sAsg (eF (m_law_bytes K) [] (aCons (eVar 3) aNil)) (gN 11))
    (sSeq (sAsg (eF (m_law_hex K) [] (aCons (eVar 11) aNil)) (gN 12))
    (sSeq (sIf (tOrM (tBl (eOp opNe (eF (m_encode K) [] (aCons (eVar 3) aNil)) (eVar 12))) (tOrM (tBl (eOp opNe (eF (m_decode K) [] (aCons (eVar 12) aNil)) (eVar 3))) (tBl (eOp opNe (eF (m_law_decode K) [] (aCons (eVar 11) aNil)) (eVar 3))))) (sRet (eC (.bl false))) sNil)
    (sFor (iRng1 (aCons (eC (.int 8)) aNil)) (gN 13) (innerB K))))))))))
theorem outer_ev (ds : Dis K) (h : Scr S n ns) {i : Int} (hi : 0 ≤ i) (hi2 : i < 6) (a2 a3 a4 a5 a6 a7 a8 a9 a10 a11 a12 a13 a14 a15 a16 : Option D) :
    ∃ b2 b3 b4 b5 b6 b7 b8 b9 b10 b11 b12 b13 b14 b15 b16 T, outB K [some (.loc n), some (.int i), a2, a3, a4, a5, a6, a7, a8, a9, a10, a11, a12, a13, a14, a15, a16] S = .nx [some (.loc n), some (.int i), b2, b3, b4, b5, b6, b7, b8, b9, b10, b11, b12, b13, b14, b15, b16] (S ++ T) := by
  have m6 : ∀ (a : Int) S', opMulA (.int 6) (.int a) S' = some (.int (6 * a), S') := fun a S' => opMulA_l (by decide) (by decide)
  have m60 : ∀ (a : Int) S', opMulA (.int 60) (.int a) S' = some (.int (60 * a), S') := fun a S' => opMulA_l (by decide) (by decide)
  obtain ⟨cs, b, c, T1, e1, lc⟩ := machine_ev (K := K) (S := S) (k := 20 + 6 * i) h (by omega) (by omega)
  obtain ⟨z, ⟨hz, hz2⟩, xz⟩ := pick (ds := [16, 17, 24, 40]) (i := i % 4) (by omega) (by simp; omega) (fun z => 16 ≤ z ∧ z ≤ 40) (by simp)
  simp only [List.map_cons, List.map_nil] at xz
  obtain ⟨s, T2, e2, ok, ml⟩ := state_ev (K := K) (S := S ++ T1) (k := 100 + 60 * i) (z := z) (cs := cs) (b := .bl b) (c := .bl c) h.app (by omega) (by omega) (by omega) hz (by omega)
  obtain ⟨S2, hS2⟩ : ∃ S2 : Store, S2 = S ++ T1 ++ T2 := ⟨_, rfl⟩
  rw [← hS2] at e2
  have ok2 := chg_ok ok
  obtain ⟨Tc, ec⟩ := chg_ev (S := S2) (mem := s.mem) (by omega) (ρ := [some (.loc n), some (.int i), some (.tup [.tup cs, .bl b, .bl c]), some s.d, some (.tup (s.mem.map .int)), some (.int s.acc), some (.int s.pc), some (.int s.mode), some (.int s.base), some (.int s.bound), some (.int s.timer), a11, a12, a13, a14, a15, a16]) rfl rfl
  obtain ⟨S3, hS3⟩ : ∃ S3 : Store, S3 = S2 ++ .lst ((chg s.mem).map .int) :: Tc := ⟨_, rfl⟩
  rw [← hS3] at ec
  have ct : cTup [.loc S2.length] S3 = some (.tup ((chg s.mem).map .int), S3) := cTup_loc (by rw [hS3, lstOf_pk0]; rfl)
  obtain ⟨t, ht⟩ : ∃ t : ST, t = s.chg := ⟨_, rfl⟩
  have htd : D.tup [.tup ((chg s.mem).map .int), .int (9999 - s.acc), .int s.pc, .int s.mode, .int s.base, .int (9999 - s.bound), .int s.timer] = t.d := by rw [ht]; rfl
  rw [← ht] at ok2
  have tl : t.mem.length = s.mem.length := by rw [ht]; exact chg_len _
  have el := enc_len t
  have e8 := enc_is8 ok2
  obtain ⟨j, T4, e4, l4⟩ := bytes_ev (K := K) (S := S3) ok2
  obtain ⟨S4, hS4⟩ : ∃ S4 : Store, S4 = S3 ++ T4 := ⟨_, rfl⟩
  obtain ⟨l, hl⟩ : ∃ l : Nat, l = S3.length + j := ⟨_, rfl⟩
  have l5 : lstW S4 l = some ((encB t).map .int) := by rw [hS4, hl, lstW_pk]; exact l4
  rw [← hS4, ← hl] at e4
  obtain ⟨T5, e5⟩ := hex_ev (K := K) (S := S4) (lstOf_W l5) e8 (by omega)
  obtain ⟨T6, e6⟩ := encode_ev (K := K) ok2 (S4 ++ T5)
  have hd := decode_ev (K := K) e8 (by omega) (S4 ++ T5 ++ T6)
  rw [dec_enc ok2] at hd
  obtain ⟨T7, e7⟩ := hd
  obtain ⟨T8, e9⟩ := law_decode_ev (K := K) (S := S4 ++ T5 ++ T6 ++ T7) (lstOf_app (lstOf_app (lstOf_app (lstOf_W l5)))) e8 (by omega)
  rw [dec_enc ok2] at e9
  simp only [resD] at e9
  have nh := fun S' => ne_hex e8 S'
  have nd := fun S' => ne_st t S'
  obtain ⟨td, htd2⟩ : ∃ td : D, td = t.d := ⟨_, rfl⟩
  rw [← htd2] at htd e4 e6 e7 e9 nd
  obtain ⟨S8, hS8⟩ : ∃ S8 : Store, S8 = S4 ++ T5 ++ T6 ++ T7 ++ T8 := ⟨_, rfl⟩
  have h8 : Scr S8 n ns := by
    rw [hS8, hS4, hS3, hS2]; exact h.app.app.app.app.app.app.app.app
  rw [← hS8] at e9
  have l8 : lstW S8 l = some ((encB t).map .int) := by rw [hS8]; exact lstW_app (lstW_app (lstW_app (lstW_app l5)))
  obtain ⟨x13, x14, T9, e10⟩ := inner_ev (K := K) ds h8 l8 e8 (by omega) (by omega) hi hi2 (some (.tup [.tup cs, .bl b, .bl c])) (some td) (some (.tup ((chg s.mem).map .int))) (some (.int s.acc)) (some (.int s.pc)) (some (.int s.mode)) (some (.int s.base)) (some (.int s.bound)) (some (.int s.timer)) (some (.str (hexI (encB t)))) a13 a14 a15 a16
  simp only [List.append_assoc] at e6 e7 e9
  refine ⟨some (.tup [.tup cs, .bl b, .bl c]), some td, some (.tup ((chg s.mem).map .int)), some (.int s.acc), some (.int s.pc), some (.int s.mode), some (.int s.base), some (.int s.bound), some (.int s.timer), some (.loc l), some (.str (hexI (encB t))), x13, x14, a15, a16, T1 ++ T2 ++ .lst ((chg s.mem).map .int) :: Tc ++ T4 ++ T5 ++ T6 ++ T7 ++ T8 ++ T9, ?_⟩
  have hfin : S ++ (T1 ++ T2 ++ .lst ((chg s.mem).map .int) :: Tc ++ T4 ++ T5 ++ T6 ++ T7 ++ T8 ++ T9) = S8 ++ T9 := by
    rw [hS8, hS4, hS3, hS2]; simp only [List.append_assoc]
  rw [hfin]
  have nh' := nh
  unfold ST.d at e2 ec
  simp_arith [and_self, sAsg_ev2, m6, e1, m60, xz, e2, ec, ct, htd, e4, e5, e6, nh', e7, nd, e9, e10]
theorem law_right (ds : Dis K) (h : ns.length ≤ 63) : ∃ S', m_law K [.loc 0] [.frz (ns.map .int)] = .ok (.bl true) S' := by
  have h0 : Scr [.frz (ns.map .int)] 0 ns := ⟨rfl, h⟩
  obtain ⟨S0, hS0⟩ : ∃ S0 : Store, S0 = [.frz (ns.map .int)] := ⟨_, rfl⟩
  rw [← hS0] at h0 ⊢
  have loop := forN_inv (src := rngD 0 6) (g := gN 1) (b := outB K) (fun _ ρ S' => ∃ a1 a2 a3 a4 a5 a6 a7 a8 a9 a10 a11 a12 a13 a14 a15 a16 T, ρ = [some (.loc 0), a1, a2, a3, a4, a5, a6, a7, a8, a9, a10, a11, a12, a13, a14, a15, a16] ∧ S' = S0 ++ T) 6
    (by
      rintro j ρ S' hj ⟨a1, a2, a3, a4, a5, a6, a7, a8, a9, a10, a11, a12, a13, a14, a15, a16, T, rfl, rfl⟩
      obtain ⟨b2, b3, b4, b5, b6, b7, b8, b9, b10, b11, b12, b13, b14, b15, b16, T2, e⟩ := outer_ev (K := K) (S := S0 ++ T) ds h0.app (i := 0 + j) (by omega) (by omega) a2 a3 a4 a5 a6 a7 a8 a9 a10 a11 a12 a13 a14 a15 a16
      exact ⟨.int (0 + j), _, _, _, by simp [hj], rfl, e, some (.int (0 + j)), b2, b3, b4, b5, b6, b7, b8, b9, b10, b11, b12, b13, b14, b15, b16, T ++ T2, rfl, by rw [List.append_assoc]⟩)
    (by rintro ρ S' ⟨a1, a2, a3, a4, a5, a6, a7, a8, a9, a10, a11, a12, a13, a14, a15, a16, T, rfl, rfl⟩; simp)
    7 0 [some (.loc 0), none, none, none, none, none, none, none, none, none, none, none, none, none, none, none, none] S0 (by omega) (by omega) ⟨none, none, none, none, none, none, none, none, none, none, none, none, none, none, none, none, [], rfl, by simp⟩
  obtain ⟨ρ', S', e, a1, a2, a3, a4, a5, a6, a7, a8, a9, a10, a11, a12, a13, a14, a15, a16, T, rfl, rfl⟩ := loop
  obtain ⟨T2, e2⟩ := val (K := K) (S := S0 ++ T) (k := 5) h0.app (by decide) (by decide)
  obtain ⟨T3, e3⟩ := limits_ev (K := K) ds (S0 ++ T ++ T2)
  simp only [List.append_assoc] at e2 e3
  unfold m_law mkFn b_law startE
  by_cases hv : 0 < valP ns 5 % 4
  · exact ⟨S0 ++ (T ++ T2), by simp_arith [and_self, e, e2, hv]⟩
  · exact ⟨S0 ++ (T ++ (T2 ++ T3)), by simp_arith [and_self, e, e2, hv, e3]⟩
end
end K04

end

section
set_option maxRecDepth 100000
set_option maxHeartbeats 0
namespace M1
open PySem PySem.Spec PyProof.Rows L2
theorem walk_ofW {l : PySem.W.OpenLaw} {n k : Nat} {q : Program} {loose : List Str} {XP : (Str → Option Value) → Heap → Prop} {YP : World → Heap → Prop} {d : DefRec} {x : Str}
    (hn : l.most = some n) (hn2 : n ≤ sizeLine) (hdf : d.params.defaults = []) (hr : Room k callerA)
    (F : ∀ (w : World) (mg : Str → Option Value) (fa : Addr) (h : Heap), YP w h → h.Ns mainGlobals mg → mg d.name = some (.ref fa) →
      ∃ (K : PySem.W.Frag) (fd : FuncData) (sp : Sp), K.In h ∧ (∀ (s : Shared) (u : Value), BindsTo s fd ⟨[u], []⟩ [(x, u)]) ∧
        (∀ (H : Hp) (a : Addr) (ns : List Int), ns.length ≤ n → Only H → SqL K H a (ns.map V.int) → sp [.ref a] H (fun v _ => v = .bl true) fun _ _ _ => False) ∧
        ∀ base : Heap, K.In base → base.Ns mainGlobals mg → FnOk l.prog w K mg base (L2.CX l.prog w) k fa fd [x] sp) :
    PySem.W.WalkO q loose XP YP l.row.toRowW d [] (fun f vs => PySem.call f vs) := by
  refine Att.attach_call hn hdf fun w s₀ s₁ mg mb fa o pm cd doc a vs ns G Y ho hd hcd hmg hobj hints hlen hg => ?_
  obtain ⟨K, fd, sp, KX, hb, hsp, hF⟩ := F w mg fa _ Y G.T.g hmg
  exact law_call KX G.T.g G.T.b G.T.builtins G.T.nolimit hg hobj hints (Nat.le_trans hlen hn2) hr hF hb (fun H hO hS => hsp H a ns hlen hO hS) fun H e s' ⟨_, _, _, _, _, _, _, _, _, _, _, _, z⟩ => z
theorem sp_law {K : PySem.W.Frag} {F : M1.Fn} (h : ∀ ns : List Int, ns.length ≤ 63 → ∃ S', F [.loc 0] [.frz (ns.map .int)] = .ok (.bl true) S') (H : Hp) (a : Addr) (ns : List Int) (hl : ns.length ≤ 63) (hO : Only H) (hS : SqL K H a (ns.map V.int)) :
    spM K 1 F [.ref a] H (fun v _ => v = .bl true) fun _ _ _ => False := by
  obtain ⟨S', e⟩ := h ns hl
  have rv : ∀ (m : Nat → Addr) (N : Nat) (l : List Int), Rvs K m N H (l.map .int) (l.map V.int) := fun m N l => by
    induction l with
    | nil => simp [Rvs]
    | cons x l ih => simp only [List.map_cons]; exact Rvs.cons rfl ih
  have fz : (∃ o, H a = some (.frz o (.lst (ns.map V.int)))) ∨ KLs K a (ns.map V.int) := by
    rcases hS with (h1 | ⟨o, h1⟩) | h1
    · rcases hO a with z | ⟨o, xs, z⟩
      · rw [z] at h1; cases h1
      · rw [z] at h1; cases h1
    · exact .inl ⟨o, h1⟩
    · exact .inr h1
  refine ⟨rfl, fun _ => a, [.frz (ns.map .int)], [.loc 0], ⟨fun n o h => ?_, fun i j oi oj h1 _ l1 _ _ => ?_⟩, Rvs.one (Rv.mk_loc (m := fun _ => a) (by simp)), ?_⟩
  · cases n with
    | zero => cases h; exact ⟨_, fz, rv _ _ _⟩
    | succ n => simp at h
  · cases i with
    | zero => cases h1; cases l1
    | succ n => simp at h1
  · rw [e]
    intro m' H' v g p
    exact p
end M1
namespace K04
open PySem PySem.Spec PyProof.Rows L2 M1
abbrev R : PySem.W.OpenRow := PySem.W.OpenLaw.row PySem.Challenge.rw_virtmonitor_k04_whole_encoding
abbrev hk : PySem.W.Hook := hookM 5 fa fn ex
def ob (s : PySem.W.SharedT) : He.AlD × Bool := obsMG 5 fa fn ex (HandSHeadRun.getT s)
theorem ob_eq (s : PySem.W.SharedT) : ob s = hk.obs s.abs := obsMG_eq (HandSHeadRun.getT_eq s)
def loose : List Str := ["__name__", "VirtError", "InvalidState", "DecodeError", "WORD_LIMIT", "MIN_MEMORY", "MAX_MEMORY", "SUPERVISOR", "USER", "is_integer", "is_word", "is_words", "is_state", "check_state", "BYTE", "DIGITS", "encode", "Decoder", "decode", "_law_mix", "_law_value", "_law_moves", "_law_custom_instruction", "_law_machine", "_law_instruction", "_law_state", "_law_bytes", "_law_decode", "_law_hex", "_law_result", "_law_changed", "_law_limits_right"]
theorem run (w : World) : HandSHeadRun.RunEq R (PySem.W.view R.prog [35]) hk ob 3000 loose w := by
  intro os
  kernel_rfl
theorem facts {P : Program} {w : World} {K : PySem.W.Frag} {h : Heap} {mg : Str → Option Value} {f : Addr} (X : K.In h) (G : h.Ns mainGlobals mg) (hfa : mg ("law" : Str) = some (.ref f)) (c : He.SaysD fa fn K) (e : ex K = true) :
    ∃ fd : FuncData, Dis K ∧ (∀ (s : Shared) (v : Value), BindsTo s fd ⟨[v], []⟩ [("_law_script", v)]) ∧ ∀ base : Heap, K.In base → base.Ns mainGlobals mg → FnOk P w K mg base (L2.CX P w) 9 f fd ["_law_script"] (spM K 1 (m_law K)) := by
  have hy := hy_of X G c e
  obtain ⟨fd, F⟩ := hy.f_law
  have ef := hfa.symm.trans hy.g_law
  cases ef
  have b := FunD.bindsA (ps := ["_law_script"]) F fun _ _ _ _ _ _ us hl => match us, hl with | [_], _ => rfl
  exact ⟨fd, dis_of hy, fun s v => b s [v] rfl, fun base _ _ => ok_law hy F⟩
end K04
open PySem PySem.W PySem.Calls PyProof.Rows
theorem PySem.Challenge.cw_virtmonitor_k04_whole_encoding_holds : PySem.Challenge.rw_virtmonitor_k04_whole_encoding.Holds := by
  w_on; o_law
  refine HandSHeadRun.head_any (r := OpenLaw.row PySem.Challenge.rw_virtmonitor_k04_whole_encoding) (q := view (OpenLaw.row PySem.Challenge.rw_virtmonitor_k04_whole_encoding).prog [35]) (H := K04.hk) (ob := K04.ob) (M := 3000) (loose := K04.loose) (d := HandSHeadRun.topDef (OpenLaw.row PySem.Challenge.rw_virtmonitor_k04_whole_encoding).prog 35) (kwd := []) K04.ob_eq
    (by kernel_rfl) (fun s => by kernel_rfl) K04.run (by kernel_rfl) (by kernel_rfl) (by kernel_rfl) (by rfl) (by first | assumption | decide +kernel) (by decide +kernel) ⟨rfl, rfl, rfl, rfl, rfl, by decide +kernel⟩ ?hw ?hc
  case hw => w_witness2
  case hc =>
    refine M1.walk_ofW (l := PySem.Challenge.rw_virtmonitor_k04_whole_encoding) (n := 63) (k := 9) (x := "_law_script") rfl (by decide) (by kernel_rfl) ⟨rfl, by decide, by decide⟩ ?F
    intro w mg fa h Y G hmg0
    obtain ⟨K, KX, c, e⟩ := Y
    have hmg : mg ("law" : PySem.Str) = some (.ref fa) := by
      have e : (HandSHeadRun.topDef (OpenLaw.row PySem.Challenge.rw_virtmonitor_k04_whole_encoding).prog 35).name = ("law" : PySem.Str) := by kernel_rfl
      rw [← e]
      exact hmg0
    obtain ⟨fd, hds, hb, hF⟩ := K04.facts (P := (PySem.Challenge.rw_virtmonitor_k04_whole_encoding).prog) (w := w) KX G hmg c e
    exact ⟨K, fd, M1.spM K 1 (K04.m_law K), KX, hb, fun H a ns hl hO hS => M1.sp_law (fun ns h => K04.law_right hds h) H a ns hl hO hS, hF⟩

end
