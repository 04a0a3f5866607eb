import PyProof.Rows.All
import Wide.All
import OpenK.AllK
import Wide.FinOn
import HandS.ForMost
import HandS.ForExc
import HandS.TupAny
import HandS.IsInst
import HandS.Conv
import HandS.Codes
import HandS.TupMul
import HandS.Style
import HandS.Defaults
import HandS.CallSlots
import KE.GoesComp
import KE.GoesRaise
import HandS.Comp
import HandS.More
import KE.KBytesHexOf
import HandS.ExcInit
import HandS.ExcOwn
import HandS.ExcField
import HandS.TryOnly
import HandS.Text
import HandS.StrMore
import HandS.ToBytes
import KE.KFromBytes
import HandS.Words
import HandS.WordsExc
import HandS.Head0
import HandS.Head1
import HandS.Head2
import HandS.HeadEnd
import HandS.HeadHook1
import HandS.HeadHook2
import HandS.Iter
import HandS.Zip
import HandS.Bytes
import KE.GoesMore
import PyProof.EnumMake
import HandS.Dict
import HandS.Small
import HandS.FStr
import HandS.Strs
import PyProof.StrBlock2
import PyProof.CollectIter
import HandS.Head3
import PySem.Challenge.RW_virtmonitor_k03_whole_assembly
set_option Elab.async false
set_option linter.all false
section
set_option maxRecDepth 100000
set_option maxHeartbeats 2000000
/-! M1: values, store, relation; the bridge from a deterministic mirror to the hand layer's judgements -/
namespace M1
open PySem PySem.Spec PyProof.Rows L2

abbrev St := L2.St
/-- a deep value: tuples by value, mutable things by their place in the store -/
inductive D where
  | non | bl (b : Bool) | int (i : Int) | str (x : Str) | byt (b : Array UInt8) | ty (n : String) | gl (a : Addr)
  | tup (xs : List D) | loc (n : Nat)

/-- what stands at a place of the store -/
inductive SO where
  /-- a list; one that is only read -/
  | lst (xs : List D) | frz (xs : List D)
  | dic (kvs : List (Key × D))
  | ins (C : Addr) (fs : List (Str × D))
  /-- an exception's own dict -/
  | xd (fs : List (Str × D))
  /-- nothing is said -/
  | dead
abbrev Store := List SO
abbrev Env := List (Option D)

section
variable (K : PySem.W.Frag)
mutual
/-- v is d -/
def Rv (m : Nat → Addr) (N : Nat) (H : Hp) : D → V → Prop
  | .non, v => v = .non
  | .bl b, v => v = .bl b
  | .int i, v => v = .int i
  | .str x, v => v = .str x
  | .byt b, v => v = .byt b
  | .ty n, v => v = .ty n
  | .gl a, v => v = .ref a
  | .loc n, v => n < N ∧ v = .ref (m n)
  | .tup ds, v => ∃ a vs, v = .ref a ∧ SqT K H a vs ∧ Rvs m N H ds vs
def Rvs (m : Nat → Addr) (N : Nat) (H : Hp) : List D → List V → Prop
  | [], vs => vs = []
  | d :: ds, vs => ∃ v r, vs = v :: r ∧ Rv m N H d v ∧ Rvs m N H ds r
end

def Rk (m : Nat → Addr) (N : Nat) (H : Hp) {κ : Type} : List (κ × D) → List (κ × V) → Prop
  | [], vs => vs = []
  | (k, d) :: ds, vs => ∃ v r, vs = (k, v) :: r ∧ Rv K m N H d v ∧ Rk m N H ds r

/-- a list that the module's heap holds -/
def KLs (a : Addr) (xs : List V) : Prop := ∃ (o : Obj) (its : Array Value) (n : Nat), K.lookup a = some o ∧ o.cls = .type "list" ∧ o.dict = none ∧ o.data = .seq its n ∧ its.size ≤ sizeLine ∧ Vals xs its.toList
/-- the place a holds o -/
def Ro (m : Nat → Addr) (N : Nat) (H : Hp) (a : Addr) : SO → Prop
  | .lst xs => ∃ vs, H a = some (.lst vs) ∧ Rvs K m N H xs vs
  | .frz xs => ∃ vs, ((∃ o, H a = some (.frz o (.lst vs))) ∨ KLs K a vs) ∧ Rvs K m N H xs vs
  | .dic kvs => ∃ vs, H a = some (.dK vs) ∧ Rk K m N H kvs vs
  | .ins C fs => ∃ dx vs, H a = some (.ins C dx vs) ∧ Rk K m N H fs vs
  | .xd fs => ∃ vs, H a = some (.xd vs) ∧ Rk K m N H fs vs
  | .dead => True

def live : SO → Bool
  | .dead => false
  | .frz _ => false
  | _ => true
structure RS (m : Nat → Addr) (S : Store) (H : Hp) : Prop where
  at_ : ∀ n o, S[n]? = some o → Ro K m S.length H (m n) o
  inj : ∀ i j oi oj, S[i]? = some oi → S[j]? = some oj → live oi = true → live oj = true → m i = m j → i = j

/-- every tuple stays -/
def Mono (H H' : Hp) : Prop := ∀ a xs, SqT K H a xs → SqT K H' a xs
structure Fin (m : Nat → Addr) (S : Store) (H : Hp) (m' : Nat → Addr) (S' : Store) (H' : Hp) : Prop where
  len : S.length ≤ S'.length
  ext : ∀ n, n < S.length → m' n = m n
  mono : Mono K H H'
  rs : RS K m' S' H'
end

section
variable {K : PySem.W.Frag} {m m' m2 : Nat → Addr} {N N' : Nat} {H H' H2 : Hp} {S S' S2 : Store}
theorem Mono.refl : Mono K H H := fun _ _ h => h
theorem Mono.trans (a : Mono K H H') (b : Mono K H' H2) : Mono K H H2 := fun x xs h => b x xs (a x xs h)
theorem Fin.refl (r : RS K m S H) : Fin K m S H m S H := ⟨Nat.le_refl _, fun _ _ => rfl, Mono.refl, r⟩
theorem Fin.trans (a : Fin K m S H m' S' H') (b : Fin K m' S' H' m2 S2 H2) : Fin K m S H m2 S2 H2 :=
  ⟨Nat.le_trans a.len b.len, fun n h => (b.ext n (Nat.lt_of_lt_of_le h a.len)).trans (a.ext n h), a.mono.trans b.mono, b.rs⟩

mutual
theorem Rv.up (hN : N ≤ N') (he : ∀ n, n < N → m' n = m n) (mo : Mono K H H') : ∀ {d : D} {v : V}, Rv K m N H d v → Rv K m' N' H' d v
  | .non, _, h => h
  | .bl _, _, h => h
  | .int _, _, h => h
  | .str _, _, h => h
  | .byt _, _, h => h
  | .ty _, _, h => h
  | .gl _, _, h => h
  | .loc n, _, h => by
    simp only [Rv] at h ⊢
    exact ⟨Nat.lt_of_lt_of_le h.1 hN, by rw [he n h.1]; exact h.2⟩
  | .tup ds, _, h => by
    simp only [Rv] at h ⊢
    obtain ⟨a, vs, e, q, r⟩ := h
    exact ⟨a, vs, e, mo a vs q, Rvs.up hN he mo r⟩
theorem Rvs.up (hN : N ≤ N') (he : ∀ n, n < N → m' n = m n) (mo : Mono K H H') : ∀ {ds : List D} {vs : List V}, Rvs K m N H ds vs → Rvs K m' N' H' ds vs
  | [], _, h => h
  | d :: ds, _, h => by
    simp only [Rvs] at h ⊢
    obtain ⟨v, r, e, h1, h2⟩ := h
    exact ⟨v, r, e, Rv.up hN he mo h1, Rvs.up hN he mo h2⟩
end
theorem Rk.up {κ : Type} (hN : N ≤ N') (he : ∀ n, n < N → m' n = m n) (mo : Mono K H H') : ∀ {ds : List (κ × D)} {vs : List (κ × V)}, Rk K m N H ds vs → Rk K m' N' H' ds vs
  | [], _, h => h
  | (k, d) :: ds, _, h => by
    simp only [Rk] at h ⊢
    obtain ⟨v, r, e, h1, h2⟩ := h
    exact ⟨v, r, e, h1.up hN he mo, Rk.up hN he mo h2⟩
theorem Fin.rv (f : Fin K m S H m' S' H') {d : D} {v : V} (h : Rv K m S.length H d v) : Rv K m' S'.length H' d v := h.up f.len f.ext f.mono
theorem Fin.rvs (f : Fin K m S H m' S' H') {d : List D} {v : List V} (h : Rvs K m S.length H d v) : Rvs K m' S'.length H' d v := h.up f.len f.ext f.mono
theorem Fin.rk (f : Fin K m S H m' S' H') {κ : Type} {d : List (κ × D)} {v : List (κ × V)} (h : Rk K m S.length H d v) : Rk K m' S'.length H' d v := h.up f.len f.ext f.mono

theorem Rvs.length : ∀ {ds : List D} {vs : List V}, Rvs K m N H ds vs → vs.length = ds.length
  | [], _, h => by simp only [Rvs] at h; subst h; rfl
  | d :: ds, _, h => by
    simp only [Rvs] at h
    obtain ⟨v, r, e, _, h2⟩ := h
    subst e
    simp [Rvs.length h2]
theorem Rvs.get : ∀ {ds : List D} {vs : List V} {i : Nat} {d : D}, Rvs K m N H ds vs → ds[i]? = some d → ∃ v, vs[i]? = some v ∧ Rv K m N H d v
  | [], _, _, _, _, e => by simp at e
  | d :: ds, _, i, x, h, e => by
    simp only [Rvs] at h
    obtain ⟨v, r, rfl, h1, h2⟩ := h
    cases i with
    | zero => simp at e; subst e; exact ⟨v, by simp, h1⟩
    | succ i => obtain ⟨w, h3, h4⟩ := Rvs.get (i := i) h2 (by simpa using e); exact ⟨w, by simpa using h3, h4⟩
theorem Rvs.append : ∀ {ds es : List D} {vs us : List V}, Rvs K m N H ds vs → Rvs K m N H es us → Rvs K m N H (ds ++ es) (vs ++ us)
  | [], _, _, _, h, k => by simp only [Rvs] at h; subst h; exact k
  | d :: ds, _, _, _, h, k => by
    simp only [Rvs] at h
    obtain ⟨v, r, rfl, h1, h2⟩ := h
    simp only [List.cons_append, Rvs]
    exact ⟨v, _, rfl, h1, Rvs.append h2 k⟩
theorem Rvs.take : ∀ {ds : List D} {vs : List V} (n : Nat), Rvs K m N H ds vs → Rvs K m N H (ds.take n) (vs.take n)
  | [], _, _, h => by simp only [Rvs] at h; subst h; simp [Rvs]
  | d :: ds, _, n, h => by
    simp only [Rvs] at h
    obtain ⟨v, r, rfl, h1, h2⟩ := h
    cases n with
    | zero => simp [Rvs]
    | succ n => simp only [List.take_succ_cons, Rvs]; exact ⟨v, _, rfl, h1, Rvs.take n h2⟩
theorem Rvs.drop : ∀ {ds : List D} {vs : List V} (n : Nat), Rvs K m N H ds vs → Rvs K m N H (ds.drop n) (vs.drop n)
  | [], _, _, h => by simp only [Rvs] at h; subst h; simp [Rvs]
  | d :: ds, _, n, h => by
    simp only [Rvs] at h
    obtain ⟨v, r, rfl, h1, h2⟩ := h
    cases n with
    | zero => simp only [List.drop_zero, Rvs]; exact ⟨v, _, rfl, h1, h2⟩
    | succ n => simp only [List.drop_succ_cons]; exact Rvs.drop n h2
theorem Rvs.set : ∀ {ds : List D} {vs : List V} (i : Nat) {d : D} {v : V}, Rvs K m N H ds vs → Rv K m N H d v → Rvs K m N H (ds.set i d) (vs.set i v)
  | [], _, _, _, _, h, _ => by simp only [Rvs] at h; subst h; simp [Rvs]
  | e :: ds, _, n, _, _, h, k => by
    simp only [Rvs] at h
    obtain ⟨v, r, rfl, h1, h2⟩ := h
    cases n with
    | zero => simp only [List.set_cons_zero, Rvs]; exact ⟨_, _, rfl, k, h2⟩
    | succ n => simp only [List.set_cons_succ, Rvs]; exact ⟨v, _, rfl, h1, Rvs.set n h2 k⟩
theorem Rvs.one {d : D} {v : V} (h : Rv K m N H d v) : Rvs K m N H [d] [v] := by
  simp only [Rvs]; exact ⟨v, [], rfl, h, rfl⟩
theorem Rvs.nil : Rvs K m N H [] [] := by simp only [Rvs]
theorem Rvs.cons {d : D} {v : V} {ds : List D} {vs : List V} (h : Rv K m N H d v) (k : Rvs K m N H ds vs) : Rvs K m N H (d :: ds) (v :: vs) := by
  simp only [Rvs]; exact ⟨v, vs, rfl, h, k⟩

/-! ### the heap changes -/
theorem SqT.stay {a : Addr} {xs : List V} (h : SqT K H a xs) (ne : ∀ u, (H a = some u) → H' a = some u) : SqT K H' a xs := by
  rcases h with (h | ⟨o, h⟩) | h
  · exact .inl (.inl (ne _ h))
  · exact .inl (.inr ⟨o, ne _ h⟩)
  · exact .inr h
theorem Mono.new {p : Addr} {o : HO} (hp : H p = none) : Mono K H (upd H p o) := fun a xs h => SqT.stay h fun u e => by
  rw [upd_ne (ne_of_none e hp)]; exact e
/-- what is written is no tuple -/
theorem Mono.write {p : Addr} {o o' : HO} (hp : H p = some o) (h1 : ∀ xs, o ≠ .tup xs) (h2 : ∀ ob xs, o ≠ .frz ob (.tup xs)) : Mono K H (upd H p o') := fun a xs h => by
  rcases h with (h | ⟨ob, h⟩) | h
  · refine .inl (.inl ?_)
    rw [upd_ne]; exact h
    rintro rfl; rw [hp] at h; exact h1 _ (Option.some.inj h)
  · refine .inl (.inr ⟨ob, ?_⟩)
    rw [upd_ne]; exact h
    rintro rfl; rw [hp] at h; exact h2 _ _ (Option.some.inj h)
  · exact .inr h
theorem Ro.up {a : Addr} {o : SO} (hN : N ≤ N') (he : ∀ n, n < N → m' n = m n) (mo : Mono K H H') (ha : ∀ u, H a = some u → H' a = some u) (h : Ro K m N H a o) : Ro K m' N' H' a o := by
  cases o with
  | lst xs => obtain ⟨vs, e, r⟩ := h; exact ⟨vs, ha _ e, r.up hN he mo⟩
  | frz xs => obtain ⟨vs, e, r⟩ := h; exact ⟨vs, e.imp (fun ⟨o, e⟩ => ⟨o, ha _ e⟩) id, r.up hN he mo⟩
  | dic xs => obtain ⟨vs, e, r⟩ := h; exact ⟨vs, ha _ e, r.up hN he mo⟩
  | ins C fs => obtain ⟨dx, vs, e, r⟩ := h; exact ⟨dx, vs, ha _ e, r.up hN he mo⟩
  | xd fs => obtain ⟨vs, e, r⟩ := h; exact ⟨vs, ha _ e, r.up hN he mo⟩
  | dead => trivial

/-- something is laid that the store does not speak of -/
theorem Fin.junk {p : Addr} {o : HO} (r : RS K m S H) (hp : H p = none) : Fin K m S H m S (upd H p o) :=
  ⟨Nat.le_refl _, fun _ _ => rfl, Mono.new hp, ⟨fun n ob e => (r.at_ n ob e).up (Nat.le_refl _) (fun _ _ => rfl) (Mono.new hp) fun u q => by rw [upd_ne (ne_of_none q hp)]; exact q, r.inj⟩⟩
/-- a new place -/
def ext1 (m : Nat → Addr) (n : Nat) (p : Addr) : Nat → Addr := fun k => if k = n then p else m k
theorem ext1_old {n k : Nat} {p : Addr} (h : k < n) : ext1 m n p k = m k := if_neg (Nat.ne_of_lt h)
theorem ext1_new {n : Nat} {p : Addr} : ext1 m n p n = p := if_pos rfl
/-- what lives is there -/
theorem Ro.there {a : Addr} {o : SO} (h : Ro K m N H a o) (l : live o = true) : ∃ u, H a = some u ∧ (∀ xs, u ≠ .tup xs) ∧ (∀ ob xs, u ≠ .frz ob xs) := by
  cases o with
  | lst xs => obtain ⟨vs, e, r⟩ := h; exact ⟨_, e, fun _ z => by (cases z), fun _ _ z => by (cases z)⟩
  | frz xs => exact absurd l (by simp [live])
  | dic xs => obtain ⟨vs, e, r⟩ := h; exact ⟨_, e, fun _ z => by (cases z), fun _ _ z => by (cases z)⟩
  | ins C fs => obtain ⟨dx, vs, e, r⟩ := h; exact ⟨_, e, fun _ z => by (cases z), fun _ _ z => by (cases z)⟩
  | xd fs => obtain ⟨vs, e, r⟩ := h; exact ⟨_, e, fun _ z => by (cases z), fun _ _ z => by (cases z)⟩
  | dead => exact absurd l (by simp [live])
theorem get_snoc {o : SO} {n : Nat} {x : SO} (h : (S ++ [o])[n]? = some x) : S[n]? = some x ∨ (n = S.length ∧ x = o) := by
  by_cases hn : n < S.length
  · rw [List.getElem?_append_left hn] at h; exact .inl h
  · rw [List.getElem?_append_right (by omega)] at h
    have : n - S.length = 0 := by
      by_cases e : n - S.length = 0
      · exact e
      · rw [List.getElem?_eq_none (by simp; omega)] at h; cases h
    rw [this] at h
    simp at h
    exact .inr ⟨by omega, h.symm⟩
theorem lt_of_get {n : Nat} {o : SO} (h : S[n]? = some o) : n < S.length := by
  by_cases hn : n < S.length
  · exact hn
  · rw [List.getElem?_eq_none (by omega)] at h; cases h
/-- a new place at p -/
theorem Fin.new {p : Addr} {o : SO} {u : HO} (r : RS K m S H) (hp : H p = none) (ho : Ro K (ext1 m S.length p) (S.length + 1) (upd H p u) p o) : Fin K m S H (ext1 m S.length p) (S ++ [o]) (upd H p u) := by
  have len : (S ++ [o]).length = S.length + 1 := by simp
  have up : ∀ n x, S[n]? = some x → Ro K (ext1 m S.length p) (S.length + 1) (upd H p u) (m n) x := fun n x e =>
    (r.at_ n x e).up (Nat.le_succ _) (fun k hk => ext1_old hk) (Mono.new hp) fun v q => by rw [upd_ne (ne_of_none q hp)]; exact q
  refine ⟨by simp, fun n h => ext1_old h, Mono.new hp, ⟨fun n x e => ?_, fun i j oi oj ei ej li lj em => ?_⟩⟩
  · rw [len]
    rcases get_snoc e with e | ⟨e1, e2⟩
    · rw [ext1_old (lt_of_get e)]; exact up n x e
    · subst e1; subst e2; rw [ext1_new]; exact ho
  · have hne : ∀ k ok, S[k]? = some ok → live ok = true → m k ≠ p := fun k ok e l z => by
      obtain ⟨v, q, _⟩ := (r.at_ k ok e).there l
      rw [z, hp] at q; cases q
    rcases get_snoc ei with ei | ⟨e1, e2⟩ <;> rcases get_snoc ej with ej | ⟨e3, e4⟩
    · rw [ext1_old (lt_of_get ei), ext1_old (lt_of_get ej)] at em
      exact r.inj i j oi oj ei ej li lj em
    · subst e3
      rw [ext1_old (lt_of_get ei), ext1_new] at em
      exact absurd em (hne i oi ei li)
    · subst e1
      rw [ext1_old (lt_of_get ej), ext1_new] at em
      exact absurd em.symm (hne j oj ej lj)
    · omega
theorem get_set {n k : Nat} {o x : SO} (h : (S.set n o)[k]? = some x) : (k ≠ n ∧ S[k]? = some x) ∨ (k = n ∧ x = o ∧ n < S.length) := by
  by_cases e : k = n
  · subst e
    by_cases hl : k < S.length
    · rw [List.getElem?_set_self hl] at h; cases h; exact .inr ⟨rfl, rfl, hl⟩
    · rw [List.getElem?_eq_none (by simp; omega)] at h; cases h
  · rw [List.getElem?_set_ne (Ne.symm e)] at h; exact .inl ⟨e, h⟩
/-- a living place is written -/
theorem Fin.write {n : Nat} {o o' : SO} {u : HO} (r : RS K m S H) (hn : S[n]? = some o) (l : live o = true) (ho : Ro K m S.length (upd H (m n) u) (m n) o') : Fin K m S H m (S.set n o') (upd H (m n) u) := by
  obtain ⟨v, q, t1, t2⟩ := (r.at_ n o hn).there l
  have mo : Mono K H (upd H (m n) u) := Mono.write q t1 fun ob xs => t2 ob _
  refine ⟨by simp, fun _ _ => rfl, mo, ⟨fun k x e => ?_, fun i j oi oj ei ej li lj em => ?_⟩⟩
  · rw [List.length_set]
    rcases get_set e with ⟨ne, e⟩ | ⟨e1, e2, _⟩
    · by_cases lx : live x = true
      · refine (r.at_ k x e).up (Nat.le_refl _) (fun _ _ => rfl) mo fun w qw => ?_
        rw [upd_ne fun z => ne (r.inj k n x o e hn lx l z)]; exact qw
      · cases x with
        | dead => trivial
        | frz xs =>
          obtain ⟨vs, q2, r2⟩ := r.at_ k _ e
          refine ⟨vs, q2.imp (fun ⟨ob, q2⟩ => ⟨ob, ?_⟩) id, r2.up (Nat.le_refl _) (fun _ _ => rfl) mo⟩
          rw [upd_ne fun z => ?_]
          · exact q2
          · rw [z, q] at q2; cases q2; exact t2 _ _ rfl
        | _ => exact absurd rfl lx
    · subst e1; subst e2; exact ho
  · have ex : ∀ k ok, (S.set n o')[k]? = some ok → live ok = true → ∃ ok', S[k]? = some ok' ∧ live ok' = true := fun k ok e lk => by
      rcases get_set e with ⟨_, e⟩ | ⟨e1, _, _⟩
      · exact ⟨ok, e, lk⟩
      · subst e1; exact ⟨o, hn, l⟩
    obtain ⟨_, a1, a2⟩ := ex i oi ei li
    obtain ⟨_, b1, b2⟩ := ex j oj ej lj
    exact r.inj i j _ _ a1 b1 a2 b2 em

/-! ### results -/
end

inductive R (α : Type) where
  | ok (a : α) (S : Store)
  /-- an exception: its class, its own dict's place -/
  | ex (C : Value) (d : Option Nat) (S : Store)
  | er
def R.bind {α β : Type} (r : R α) (k : α → Store → R β) : R β :=
  match r with
  | .ok a S => k a S
  | .ex C d S => .ex C d S
  | .er => .er
def R.of {α : Type} : Option (α × Store) → R α
  | some (a, S) => .ok a S
  | none => .er

abbrev Ex := Env → Store → R D
abbrev Tx := Env → Store → R Bool
abbrev Ax := Env → Store → R (List D)

section
variable {K : PySem.W.Frag} {m m1 m2 : Nat → Addr} {N : Nat} {H H1 H2 : Hp} {S S1 S2 : Store} {σ : St} {W : WX}
/-- what a result asks: P of its value and what the value is related to -/
def Aft {α β : Type} (K : PySem.W.Frag) (P : (Nat → Addr) → Nat → Hp → α → β → Prop) (W : WX) (r : R α) (m : Nat → Addr) (S : Store) (H : Hp) (σ : St) (Q : β → Hp → Prop) : Prop :=
  match r with
  | .ok d S' => ∀ m' H' v, Fin K m S H m' S' H' → P m' S'.length H' d v → Q v H'
  | .ex C d S' => ∀ m' H', Fin K m S H m' S' H' → W C (d.map m') σ H'
  | .er => False
abbrev AftE (K : PySem.W.Frag) := Aft (α := D) (β := V) K (Rv K)
abbrev AftA (K : PySem.W.Frag) := Aft (α := List D) (β := List V) K (Rvs K)
abbrev AftT (K : PySem.W.Frag) := Aft (α := Bool) (β := Bool) K (fun _ _ _ a b => b = a)

section
variable {α β γ δ : Type} {P : (Nat → Addr) → Nat → Hp → α → β → Prop} {P' : (Nat → Addr) → Nat → Hp → γ → δ → Prop}
theorem Aft.shift {r : R α} {Q : β → Hp → Prop} (f : Fin K m S H m1 S1 H1) (h : Aft K P W r m S H σ Q) : Aft K P W r m1 S1 H1 σ Q := by
  cases r with
  | ok d S' => exact fun m' H' v g p => h m' H' v (f.trans g) p
  | ex C d S' => exact fun m' H' g => h m' H' (f.trans g)
  | er => exact h
theorem Aft.mono {r : R α} {Q Q' : β → Hp → Prop} (h : Aft K P W r m S H σ Q) (hq : ∀ v H', Q v H' → Q' v H') : Aft K P W r m S H σ Q' := by
  cases r with
  | ok d S' => exact fun m' H' v g p => hq _ _ (h m' H' v g p)
  | ex C d S' => exact h
  | er => exact h
theorem Aft.bind {r : R α} {k : α → Store → R γ} {Q : δ → Hp → Prop} (h : Aft K P' W (r.bind k) m S H σ Q) :
    Aft K P W r m S H σ (fun v H1 => ∃ m1 S1 d, Fin K m S H m1 S1 H1 ∧ P m1 S1.length H1 d v ∧ Aft K P' W (k d S1) m1 S1 H1 σ Q) := by
  cases r with
  | ok d S' => exact fun m' H' v g p => ⟨m', S', d, g, p, Aft.shift g h⟩
  | ex C d S' => exact h
  | er => exact h
end

/-- the slots -/
def Renv (K : PySem.W.Frag) (m : Nat → Addr) (N : Nat) (H : Hp) (ρ : Env) (σ : St) : Prop := ∀ (i : Nat) (d : D), ρ[i]? = some (some d) → ∃ v, σ[i]? = some (some v) ∧ Rv K m N H d v
theorem Fin.renv {ρ : Env} {m' : Nat → Addr} {S' : Store} {H' : Hp} (f : Fin K m S H m' S' H') (h : Renv K m S.length H ρ σ) : Renv K m' S'.length H' ρ σ := fun i d e => by
  obtain ⟨v, a, b⟩ := h i d e
  exact ⟨v, a, f.rv b⟩

def tX {α β : Type} (K : PySem.W.Frag) (P : (Nat → Addr) → Nat → Hp → α → β → Prop) (W : WX) (f : Env → Store → R α) : St → Hp → (β → Hp → Prop) → Prop := fun σ H Q =>
  ∃ m S ρ, RS K m S H ∧ Renv K m S.length H ρ σ ∧ Aft K P W (f ρ S) m S H σ Q
def tE (K : PySem.W.Frag) (W : WX) (f : Ex) : TE := tX K (Rv K) W f
def tA (K : PySem.W.Frag) (W : WX) (f : Ax) : TA := tX K (Rvs K) W f
def tT (K : PySem.W.Frag) (W : WX) (f : Tx) : TT := tX K (fun _ _ _ a b => b = a) W f

/-- a part, then what follows it -/
def bnd {α γ : Type} (f : Env → Store → R α) (k : α → Env → Store → R γ) : Env → Store → R γ := fun ρ S => (f ρ S).bind fun d S1 => k d ρ S1
/-- the step from one part to what follows it -/
theorem tX_bind {α β γ δ : Type} {P : (Nat → Addr) → Nat → Hp → α → β → Prop} {P' : (Nat → Addr) → Nat → Hp → γ → δ → Prop} {f : Env → Store → R α} {k : α → Env → Store → R γ} {Q : δ → Hp → Prop}
    (h : tX K P' W (bnd f k) σ H Q) :
    tX K P W f σ H (fun v H1 => ∃ m1 S1 d ρ, RS K m1 S1 H1 ∧ Renv K m1 S1.length H1 ρ σ ∧ P m1 S1.length H1 d v ∧ Aft K P' W (k d ρ S1) m1 S1 H1 σ Q) := by
  obtain ⟨m, S, ρ, rs, re, h⟩ := h
  refine ⟨m, S, ρ, rs, re, (Aft.bind (P := P) h).mono fun v H1 ⟨m1, S1, d, g, p, q⟩ => ⟨m1, S1, d, ρ, g.rs, g.renv re, p, q⟩⟩
end

/-! ### judgements -/
section
variable {X : Cx} {W : WX}
theorem pe_imp {e : Expr} {t t' : TE} (h : PE X e t) (i : ∀ σ H Q, t' σ H Q → t σ H Q) : PE X e t' := ⟨fun pins s σ H Q I q => h.run pins s σ H Q I (i σ H Q q)⟩
theorem pt_imp {e : Expr} {t t' : TT} (h : PT X e t) (i : ∀ σ H Q, t' σ H Q → t σ H Q) : PT X e t' := ⟨fun pins s σ H Q I q => h.run pins s σ H Q I (i σ H Q q)⟩
theorem pa_imp {e : List Expr} {t t' : TA} (h : PA X e t) (i : ∀ σ H Q, t' σ H Q → t σ H Q) : PA X e t' := ⟨fun pos pins s σ H Q I q => h.run pos pins s σ H Q I (i σ H Q q)⟩
theorem ps_imp {e : Stmt} {t t' : TS} (h : PS X e t) (i : ∀ D σ H, t' D σ H → t D σ H) : PS X e t' := ⟨fun pins s σ H D I q => h.run pins s σ H D I (i D σ H q)⟩
theorem pss_imp {e : List Stmt} {t t' : TS} (h : PSs X e t) (i : ∀ D σ H, t' D σ H → t D σ H) : PSs X e t' := ⟨fun pins s σ H D I q => h.run pins s σ H D I (i D σ H q)⟩
abbrev ME (X : Cx) (W : WX) (e : Expr) (f : Ex) : Prop := PE X e (tE X.K W f)
abbrev MT (X : Cx) (W : WX) (e : Expr) (f : Tx) : Prop := PT X e (tT X.K W f)
abbrev MA (X : Cx) (W : WX) (e : List Expr) (f : Ax) : Prop := PA X e (tA X.K W f)

/-! ### names, constants -/
def eVar (i : Nat) : Ex := fun ρ S => match ρ[i]? with
  | some (some d) => .ok d S
  | _ => .er
theorem me_var {i : Nat} {e : Expr} (h : PE X e (tVar i)) : ME X W e (eVar i) := pe_imp h fun σ H Q ⟨m, S, ρ, rs, re, h⟩ => by
  unfold eVar at h
  split at h
  · rename_i d e
    obtain ⟨v, a, b⟩ := re i d e
    exact ⟨v, a, h m H v (Fin.refl rs) b⟩
  · exact h.elim
def eC (d : D) : Ex := fun _ S => .ok d S
theorem me_c {e : Expr} {v : V} {d : D} (h : PE X e (tC v)) (r : ∀ m N H, Rv X.K m N H d v) : ME X W e (eC d) := pe_imp h fun σ H Q ⟨m, S, ρ, rs, re, h⟩ => h m H v (Fin.refl rs) (r m _ H)
theorem me_int {i : Int} {j pos} : ME X W (.Constant (.int i) j pos) (eC (.int i)) := me_c pe_int fun _ _ _ => rfl
theorem me_bl {b : Bool} {j pos} : ME X W (.Constant (.bool b) j pos) (eC (.bl b)) := me_c pe_bl fun _ _ _ => rfl
theorem me_non {j pos} : ME X W (.Constant .none j pos) (eC .non) := me_c pe_non fun _ _ _ => rfl
theorem me_str {x : Str} {j pos} : ME X W (.Constant (.str x) j pos) (eC (.str x)) := me_c pe_str fun _ _ _ => rfl

/-! ### argument lists, displays -/
def aNil : Ax := fun _ S => .ok [] S
def aCons (f : Ex) (g : Ax) : Ax := bnd f fun d ρ S1 => (g ρ S1).bind fun ds S2 => .ok (d :: ds) S2
theorem ma_nil : MA X W [] aNil := pa_imp pa_nil fun σ H Q ⟨m, S, ρ, rs, re, h⟩ => h m H [] (Fin.refl rs) Rvs.nil
theorem ma_cons {e : Expr} {es : List Expr} {f : Ex} {g : Ax} (h1 : ME X W e f) (h2 : MA X W es g) (hs : starEach (e :: es) X.env = (false, eval e X.env) :: starEach es X.env := by rfl) : MA X W (e :: es) (aCons f g) :=
  pa_imp (pa_cons h1 h2 hs) fun σ H Q h => by
    obtain ⟨m, S, ρ, rs, re, h⟩ := tX_bind (P := Rv X.K) (f := f) h
    refine ⟨m, S, ρ, rs, re, h.mono fun v H1 ⟨m1, S1, d, ρ1, rs1, re1, p, q⟩ => ?_⟩
    refine ⟨m1, S1, ρ1, rs1, re1, (Aft.bind (P := Rvs X.K) q).mono fun vs H2 ⟨m2, S2, ds, g2, ps, q2⟩ => ?_⟩
    exact q2 m2 H2 _ (Fin.refl g2.rs) (Rvs.cons (g2.rv p) ps)
end
end M1

end

section
set_option maxRecDepth 100000
set_option maxHeartbeats 2000000
/-! M2: operators, comparisons, tests, subscripts by values -/
namespace M1
open PySem PySem.Spec PyProof.Rows L2

abbrev O (α : Type) := Option (α × Store)
/-- what an operation that raises nothing asks -/
def Ok1 {α β : Type} (K : PySem.W.Frag) (P : (Nat → Addr) → Nat → Hp → α → β → Prop) (o : O α) (m : Nat → Addr) (S : Store) (H : Hp) (Q : β → Hp → Prop) : Prop :=
  ∃ d S', o = some (d, S') ∧ ∀ m' H' v, Fin K m S H m' S' H' → P m' S'.length H' d v → Q v H'
section
variable {K : PySem.W.Frag} {m m1 m2 : Nat → Addr} {N : Nat} {H H1 H2 : Hp} {S S1 S2 : Store} {σ : St} {W : WX}
theorem Ok1.of {α β : Type} {P : (Nat → Addr) → Nat → Hp → α → β → Prop} {o : O α} {Q : β → Hp → Prop} (h : Aft K P W (R.of o) m S H σ Q) : Ok1 K P o m S H Q := by
  cases o with
  | none => exact h.elim
  | some p => exact ⟨p.1, p.2, rfl, h⟩
/-- relations of a two-place operation -/
def rO2 (K : PySem.W.Frag) (g : D → D → Store → O D) : R2 := fun v u H Q => ∃ m S x y, RS K m S H ∧ Rv K m S.length H x v ∧ Rv K m S.length H y u ∧ Ok1 K (Rv K) (g x y S) m S H Q
def rO1 (K : PySem.W.Frag) (g : D → Store → O D) : V → Hp → VK → Prop := fun v H Q => ∃ m S x, RS K m S H ∧ Rv K m S.length H x v ∧ Ok1 K (Rv K) (g x S) m S H Q
def rOL (K : PySem.W.Frag) (g : List D → Store → O D) : List V → Hp → VK → Prop := fun vs H Q => ∃ m S xs, RS K m S H ∧ Rvs K m S.length H xs vs ∧ Ok1 K (Rv K) (g xs S) m S H Q
def rOM (K : PySem.W.Frag) (g : D → List D → Store → O D) : V → List V → Hp → VK → Prop := fun v vs H Q => ∃ m S x xs, RS K m S H ∧ Rv K m S.length H x v ∧ Rvs K m S.length H xs vs ∧ Ok1 K (Rv K) (g x xs S) m S H Q

/-! ### what a value's form says -/
theorem Rv.int {i : Int} {v : V} (h : Rv K m N H (.int i) v) : v = .int i := h
theorem Rv.str {i : Str} {v : V} (h : Rv K m N H (.str i) v) : v = .str i := h
theorem Rv.loc {n : Nat} {v : V} (h : Rv K m N H (.loc n) v) : n < N ∧ v = .ref (m n) := by simpa only [Rv] using h
theorem Rv.tup {ds : List D} {v : V} (h : Rv K m N H (.tup ds) v) : ∃ a vs, v = .ref a ∧ SqT K H a vs ∧ Rvs K m N H ds vs := by simpa only [Rv] using h
theorem Rv.mk_int {i : Int} : Rv K m N H (.int i) (.int i) := rfl
theorem Rv.mk_loc {n : Nat} (h : n < N) : Rv K m N H (.loc n) (.ref (m n)) := by simp only [Rv]; exact ⟨h, trivial⟩
theorem Rv.mk_tup {ds : List D} {vs : List V} {a : Addr} (h : SqT K H a vs) (r : Rvs K m N H ds vs) : Rv K m N H (.tup ds) (.ref a) := by simp only [Rv]; exact ⟨a, vs, rfl, h, r⟩
/-- the ends of an operation: a value over the same store; a new tuple; a new list -/
theorem Ok1.same {d : D} {v : V} {Q : VK} {o : O D} (h : Ok1 K (Rv K) o m S H Q) (rs : RS K m S H) (e : o = some (d, S)) (r : Rv K m S.length H d v) : Q v H := by
  obtain ⟨d', S', e', q⟩ := h
  rw [e] at e'; cases e'
  exact q m H v (Fin.refl rs) r
theorem Ok1.tup {ds : List D} {vs : List V} {Q : VK} {o : O D} (h : Ok1 K (Rv K) o m S H Q) (rs : RS K m S H) (e : o = some (.tup ds, S)) (r : Rvs K m S.length H ds vs) {p : Addr} (hp : H p = none) : Q (.ref p) (upd H p (.tup vs)) := by
  obtain ⟨d', S', e', q⟩ := h
  rw [e] at e'; cases e'
  have f : Fin K m S H m S (upd H p (.tup vs)) := Fin.junk rs hp
  exact q m _ _ f (Rv.mk_tup (SqT.of upd_same) (f.rvs r))
theorem Ok1.lst {ds : List D} {vs : List V} {Q : VK} {o : O D} (h : Ok1 K (Rv K) o m S H Q) (rs : RS K m S H) (e : o = some (.loc S.length, S ++ [.lst ds])) (r : Rvs K m S.length H ds vs) {p : Addr} (hp : H p = none) : Q (.ref p) (upd H p (.lst vs)) := by
  obtain ⟨d', S', e', q⟩ := h
  rw [e] at e'; cases e'
  have f : Fin K m S H (ext1 m S.length p) (S ++ [.lst ds]) (upd H p (.lst vs)) := Fin.new rs hp ⟨vs, upd_same, r.up (Nat.le_succ _) (fun n hn => ext1_old hn) (Mono.new hp)⟩
  have : Rv K (ext1 m S.length p) (S ++ [SO.lst ds]).length (upd H p (.lst vs)) (.loc S.length) (.ref (ext1 m S.length p S.length)) := Rv.mk_loc (by simp)
  rw [ext1_new] at this
  exact q _ _ _ f this

/-- a list that is read -/
def lstOf (S : Store) (n : Nat) : Option (List D) := match S[n]? with
  | some (.lst xs) => some xs
  | some (.frz xs) => some xs
  | _ => none
theorem RS.list {n : Nat} {xs : List D} (rs : RS K m S H) (e : lstOf S n = some xs) : ∃ vs, SqL K H (m n) vs ∧ Rvs K m S.length H xs vs := by
  unfold lstOf at e
  split at e
  · rename_i ys h
    cases e
    obtain ⟨vs, q, r⟩ := rs.at_ n _ h
    exact ⟨vs, .inl (.inl q), r⟩
  · rename_i ys h
    cases e
    obtain ⟨vs, q, r⟩ := rs.at_ n _ h
    exact ⟨vs, q.elim (fun ⟨o, q⟩ => .inl (.inr ⟨o, q⟩)) .inr, r⟩
  · cases e
/-- a list that may be changed -/
def lstW (S : Store) (n : Nat) : Option (List D) := match S[n]? with
  | some (.lst xs) => some xs
  | _ => none
theorem RS.listW {n : Nat} {xs : List D} (rs : RS K m S H) (e : lstW S n = some xs) : S[n]? = some (.lst xs) ∧ ∃ vs, H (m n) = some (.lst vs) ∧ Rvs K m S.length H xs vs := by
  unfold lstW at e
  split at e
  · rename_i ys h
    cases e
    exact ⟨h, rs.at_ n _ h⟩
  · cases e

/-! ### deep data, for == -/
def toPy (S : Store) : Nat → D → Option PyData
  | _, .non => some .none
  | _, .bl b => some (.bool b)
  | _, .int i => some (.int i)
  | _, .str x => some (.str x)
  | f + 1, .tup ds => (ds.mapM (toPy S f)).map .tuple
  | f + 1, .loc n => (lstOf S n).bind fun xs => (xs.mapM (toPy S f)).map .list
  | _, _ => none
theorem mapM_dp (rs : RS K m S H) {f : D → Option PyData} (hf : ∀ d v p, f d = some p → Rv K m S.length H d v → Dp K H v p) : ∀ (ds : List D) (vs : List V) (ps : List PyData), ds.mapM f = some ps → Rvs K m S.length H ds vs → DpAll K H vs ps
  | [], vs, ps, e, r => by
    simp only [Rvs] at r
    subst r
    simp at e
    subst e
    exact .nil
  | d :: ds, vs, ps, e, r => by
    simp only [Rvs] at r
    obtain ⟨v, r', rfl, r1, r2⟩ := r
    simp only [List.mapM_cons] at e
    cases h1 : f d with
    | none => rw [h1] at e; simp at e
    | some p =>
      cases h2 : ds.mapM f with
      | none => rw [h1, h2] at e; simp at e
      | some qs =>
        rw [h1, h2] at e
        simp at e
        subst e
        exact .cons (hf d v p h1 r1) (mapM_dp rs hf ds r' qs h2 r2)
theorem toPy_dp (rs : RS K m S H) : ∀ (f : Nat) (d : D) (v : V) (p : PyData), toPy S f d = some p → Rv K m S.length H d v → Dp K H v p
  | f, .non, v, p, e, r => by cases f <;> (simp [toPy] at e; subst e; cases r; exact .non)
  | f, .bl b, v, p, e, r => by cases f <;> (simp [toPy] at e; subst e; cases r; exact .bl b)
  | f, .int i, v, p, e, r => by cases f <;> (simp [toPy] at e; subst e; cases r; exact .int i)
  | f, .str x, v, p, e, r => by cases f <;> (simp [toPy] at e; subst e; cases r; exact .str x)
  | f, .byt x, v, p, e, r => by cases f <;> simp [toPy] at e
  | f, .ty x, v, p, e, r => by cases f <;> simp [toPy] at e
  | f, .gl x, v, p, e, r => by cases f <;> simp [toPy] at e
  | 0, .tup ds, v, p, e, r => by simp [toPy] at e
  | 0, .loc ds, v, p, e, r => by simp [toPy] at e
  | f + 1, .tup ds, v, p, e, r => by
    simp only [toPy, Option.map_eq_some_iff] at e
    obtain ⟨ps, e1, rfl⟩ := e
    obtain ⟨a, vs, rfl, q, r2⟩ := r.tup
    exact .tup q (mapM_dp rs (toPy_dp rs f) ds vs ps e1 r2)
  | f + 1, .loc n, v, p, e, r => by
    simp only [toPy, Option.bind_eq_some_iff, Option.map_eq_some_iff] at e
    obtain ⟨xs, e0, ps, e1, rfl⟩ := e
    obtain ⟨hn, rfl⟩ := r.loc
    obtain ⟨vs, q, r2⟩ := rs.list e0
    exact .lst q (mapM_dp rs (toPy_dp rs f) xs vs ps e1 r2)
end

/-! ### the operations -/
def opAdd (x y : D) (S : Store) : O D := match x, y with
  | .int i, .int j => some (.int (i + j), S)
  | .str a, .str b => if a.length + b.length ≤ sizeLine then some (.str (a ++ b), S) else none
  | .tup a, .tup b => if a.length + b.length ≤ sizeLine then some (.tup (a ++ b), S) else none
  | .loc i, .loc j => (lstW S i).bind fun a => (lstW S j).bind fun b => if a.length + b.length ≤ sizeLine then some (.loc S.length, S ++ [.lst (a ++ b)]) else none
  | _, _ => none
def opSub (x y : D) (S : Store) : O D := match x, y with
  | .int i, .int j => some (.int (i - j), S)
  | _, _ => none
def small64 (i : Int) : Bool := decide (-(2 ^ 64) < i) && decide (i < 2 ^ 64)
def opMul (x y : D) (S : Store) : O D := match x, y with
  | .int i, .int j => if small64 i || small64 j then some (.int (i * j), S) else none
  | .loc l, .int k => (lstW S l).bind fun a => if -(2 ^ 63) ≤ k ∧ k < 2 ^ 63 ∧ a.length * k.toNat ≤ sizeLine then some (.loc S.length, S ++ [.lst (List.replicate k.toNat a).flatten]) else none
  | _, _ => none
def opFdiv (x y : D) (S : Store) : O D := match x, y with
  | .int i, .int j => if 0 < j ∧ j < 1073741824 then some (.int (i / j), S) else none
  | _, _ => none
def opMod (x y : D) (S : Store) : O D := match x, y with
  | .int i, .int j => if 0 < j then some (.int (i % j), S) else none
  | _, _ => none
def opPow (x y : D) (S : Store) : O D := match x, y with
  | .int i, .int j => if 0 ≤ j ∧ j ≤ 1000000 ∧ i.natAbs < 2 ^ 64 then some (.int (i ^ j.toNat), S) else none
  | _, _ => none
def opAnd (x y : D) (S : Store) : O D := match x, y with
  | .int i, .int j => some (.int (Builtin.bitAnd i j), S)
  | _, _ => none
def cmpI (p : Int → Int → Bool) (x y : D) (S : Store) : O D := match x, y with
  | .int i, .int j => some (.bl (p i j), S)
  | _, _ => none
abbrev opLt := cmpI fun i j => decide (i < j)
abbrev opLe := cmpI fun i j => decide (i ≤ j)
abbrev opGt := cmpI fun i j => decide (j < i)
abbrev opGe := cmpI fun i j => decide (j ≤ i)
def pyEq (S : Store) (x y : D) : Option Bool := (toPy S 60 x).bind fun d => (toPy S 60 y).bind fun e => if SeqAt.shaped d = true ∧ SeqAt.shaped e = true then some (PyData.eqv d e) else none
def opEq (x y : D) (S : Store) : O D := (pyEq S x y).map fun b => (.bl b, S)
def opNe (x y : D) (S : Store) : O D := (pyEq S x y).map fun b => (.bl (!b), S)
def isN : D → Bool
  | .non => true
  | _ => false
def opIsN (x y : D) (S : Store) : O D := match y with
  | .non => some (.bl (isN x), S)
  | _ => none
def opNotN (x y : D) (S : Store) : O D := match y with
  | .non => some (.bl (!isN x), S)
  | _ => none

section
variable {X : Cx} {W : WX}
theorem opp_add : OpR X (binaryOp .Add) (rO2 X.K opAdd) := by
  intro pins s σ H v u vv uu Q I rv ru h
  obtain ⟨m, S, x, y, rs, rx, ry, ok⟩ := h
  unfold opAdd at ok
  split at ok
  · cases rx; cases ry
    exact op_add pins s σ H _ _ vv uu Q I rv ru ⟨_, _, rfl, rfl, ok.same rs rfl rfl⟩
  · cases rx; cases ry
    split at ok
    · rename_i hz
      exact op_add_str pins s σ H _ _ vv uu Q I rv ru ⟨_, _, rfl, rfl, hz, ok.same rs rfl rfl⟩
    · obtain ⟨_, _, e, _⟩ := ok; cases e
  · split at ok
    · rename_i a b hz
      obtain ⟨p, vs, rfl, q1, r1⟩ := rx.tup
      obtain ⟨p2, us, rfl, q2, r2⟩ := ry.tup
      have l1 := r1.length
      have l2 := r2.length
      refine op_catA pins s σ H _ _ vv uu Q I rv ru ⟨p, p2, vs, us, rfl, rfl, q1, q2, by omega, fun e => ?_, fun _ e => ?_, fun _ _ q hq => ?_⟩
      · subst e
        refine ok.same rs rfl ?_
        have : a = [] := by cases a; rfl; simp at l1
        subst this
        exact Rv.mk_tup q2 (by simpa using r2)
      · subst e
        refine ok.same rs rfl ?_
        have : b = [] := by cases b; rfl; simp at l2
        subst this
        exact Rv.mk_tup q1 (by simpa using r1)
      · exact ok.tup rs rfl (r1.append r2) hq
    · obtain ⟨_, _, e, _⟩ := ok; cases e
  · rename_i i j
    cases ha : lstW S i with
    | none => rw [ha] at ok; obtain ⟨_, _, e, _⟩ := ok; cases e
    | some a =>
      cases hb : lstW S j with
      | none => rw [ha, hb] at ok; obtain ⟨_, _, e, _⟩ := ok; cases e
      | some b =>
        rw [ha, hb] at ok
        simp only [Option.bind_some] at ok
        split at ok
        · rename_i hz
          obtain ⟨_, rfl⟩ := rx.loc
          obtain ⟨_, rfl⟩ := ry.loc
          obtain ⟨_, vs, q1, r1⟩ := rs.listW ha
          obtain ⟨_, us, q2, r2⟩ := rs.listW hb
          have l1 := r1.length
          have l2 := r2.length
          exact op_cat pins s σ H _ _ vv uu Q I rv ru ⟨_, _, vs, us, rfl, rfl, q1, q2, by omega, fun p hp => ok.lst rs rfl (r1.append r2) hp⟩
        · obtain ⟨_, _, e, _⟩ := ok; cases e
  · obtain ⟨_, _, e, _⟩ := ok; cases e
theorem opp_sub : OpR X (binaryOp .Sub) (rO2 X.K opSub) := by
  intro pins s σ H v u vv uu Q I rv ru h
  obtain ⟨m, S, x, y, rs, rx, ry, ok⟩ := h
  unfold opSub at ok
  split at ok
  · cases rx; cases ry
    exact op_sub pins s σ H _ _ vv uu Q I rv ru ⟨_, _, rfl, rfl, ok.same rs rfl rfl⟩
  · obtain ⟨_, _, e, _⟩ := ok; cases e
theorem Rvs.rep {K : PySem.W.Frag} {m : Nat → Addr} {N : Nat} {H : Hp} {a : List D} {vs : List V} (r : Rvs K m N H a vs) : ∀ k : Nat, Rvs K m N H (List.replicate k a).flatten (List.replicate k vs).flatten
  | 0 => by simp [Rvs]
  | k + 1 => by simp only [List.replicate_succ, List.flatten_cons]; exact r.append (Rvs.rep r k)
theorem opp_mul : OpR X (binaryOp .Mult) (rO2 X.K opMul) := by
  intro pins s σ H v u vv uu Q I rv ru h
  obtain ⟨m, S, x, y, rs, rx, ry, ok⟩ := h
  unfold opMul at ok
  split at ok
  · cases rx; cases ry
    split at ok
    · rename_i hz
      refine op_mul pins s σ H _ _ vv uu Q I rv ru ⟨_, _, rfl, rfl, ?_, ok.same rs rfl rfl⟩
      simp only [small64, Bool.or_eq_true, Bool.and_eq_true, decide_eq_true_eq] at hz
      exact hz
    · obtain ⟨_, _, e, _⟩ := ok; cases e
  · rename_i l k
    cases ha : lstW S l with
    | none => rw [ha] at ok; obtain ⟨_, _, e, _⟩ := ok; cases e
    | some a =>
      rw [ha] at ok
      simp only [Option.bind_some] at ok
      split at ok
      · rename_i hz
        obtain ⟨_, rfl⟩ := rx.loc
        cases ry
        obtain ⟨_, vs, q1, r1⟩ := rs.listW ha
        have l1 := r1.length
        exact op_rep pins s σ H _ _ vv uu Q I rv ru ⟨_, _, vs, rfl, rfl, q1, hz.1, hz.2.1, by rw [l1]; exact hz.2.2, fun p hp => ok.lst rs rfl (r1.rep _) hp⟩
      · obtain ⟨_, _, e, _⟩ := ok; cases e
  · obtain ⟨_, _, e, _⟩ := ok; cases e
theorem opp_fdiv : OpR X (binaryOp .FloorDiv) (rO2 X.K opFdiv) := by
  intro pins s σ H v u vv uu Q I rv ru h
  obtain ⟨m, S, x, y, rs, rx, ry, ok⟩ := h
  unfold opFdiv at ok
  split at ok
  · cases rx; cases ry
    split at ok
    · rename_i hz
      exact op_fdiv pins s σ H _ _ vv uu Q I rv ru ⟨_, _, rfl, rfl, hz, ok.same rs rfl rfl⟩
    · obtain ⟨_, _, e, _⟩ := ok; cases e
  · obtain ⟨_, _, e, _⟩ := ok; cases e
theorem opp_mod : OpR X (binaryOp .Mod) (rO2 X.K opMod) := by
  intro pins s σ H v u vv uu Q I rv ru h
  obtain ⟨m, S, x, y, rs, rx, ry, ok⟩ := h
  unfold opMod at ok
  split at ok
  · cases rx; cases ry
    split at ok
    · rename_i hz
      exact op_mod pins s σ H _ _ vv uu Q I rv ru ⟨_, _, rfl, rfl, hz, ok.same rs rfl rfl⟩
    · obtain ⟨_, _, e, _⟩ := ok; cases e
  · obtain ⟨_, _, e, _⟩ := ok; cases e
theorem opp_pow : OpR X (binaryOp .Pow) (rO2 X.K opPow) := by
  intro pins s σ H v u vv uu Q I rv ru h
  obtain ⟨m, S, x, y, rs, rx, ry, ok⟩ := h
  unfold opPow at ok
  split at ok
  · cases rx; cases ry
    split at ok
    · rename_i hz
      exact op_pow pins s σ H _ _ vv uu Q I rv ru ⟨_, _, rfl, rfl, hz, ok.same rs rfl rfl⟩
    · obtain ⟨_, _, e, _⟩ := ok; cases e
  · obtain ⟨_, _, e, _⟩ := ok; cases e
theorem opp_and : OpR X (binaryOp .BitAnd) (rO2 X.K opAnd) := by
  intro pins s σ H v u vv uu Q I rv ru h
  obtain ⟨m, S, x, y, rs, rx, ry, ok⟩ := h
  unfold opAnd at ok
  split at ok
  · cases rx; cases ry
    exact op_and pins s σ H _ _ vv uu Q I rv ru ⟨_, _, rfl, rfl, ok.same rs rfl rfl⟩
  · obtain ⟨_, _, e, _⟩ := ok; cases e
theorem opp_cmpI {f : Value → Value → Sem Value} {p : Int → Int → Bool} (ho : OpR X f (rI0 fun i j => .bl (p i j))) : OpR X f (rO2 X.K (cmpI p)) := by
  intro pins s σ H v u vv uu Q I rv ru h
  obtain ⟨m, S, x, y, rs, rx, ry, ok⟩ := h
  unfold cmpI at ok
  split at ok
  · cases rx; cases ry
    exact ho pins s σ H _ _ vv uu Q I rv ru ⟨_, _, rfl, rfl, ok.same rs rfl rfl⟩
  · obtain ⟨_, _, e, _⟩ := ok; cases e
theorem opp_lt : OpR X (compareOp .Lt) (rO2 X.K opLt) := opp_cmpI op_lt
theorem opp_le : OpR X (compareOp .LtE) (rO2 X.K opLe) := opp_cmpI op_le
theorem opp_gt : OpR X (compareOp .Gt) (rO2 X.K opGt) := opp_cmpI op_gt
theorem opp_ge : OpR X (compareOp .GtE) (rO2 X.K opGe) := opp_cmpI op_ge
theorem pyEq_some {S : Store} {x y : D} {b : Bool} (h : pyEq S x y = some b) : ∃ d e, toPy S 60 x = some d ∧ toPy S 60 y = some e ∧ SeqAt.shaped d = true ∧ SeqAt.shaped e = true ∧ PyData.eqv d e = b := by
  unfold pyEq at h
  simp only [Option.bind_eq_some_iff] at h
  obtain ⟨d, h1, e, h2, h3⟩ := h
  split at h3
  · rename_i hs
    cases h3
    exact ⟨d, e, h1, h2, hs.1, hs.2, rfl⟩
  · cases h3
theorem opp_eq (hu : X.A.units + 64 < cLine) : OpR X (compareOp .Eq) (rO2 X.K opEq) := by
  intro pins s σ H v u vv uu Q I rv ru h
  obtain ⟨m, S, x, y, rs, rx, ry, ok⟩ := h
  unfold opEq at ok
  cases hb : pyEq S x y with
  | none => rw [hb] at ok; obtain ⟨_, _, e, _⟩ := ok; cases e
  | some b =>
    rw [hb] at ok
    obtain ⟨d, e, h1, h2, h3, h4, rfl⟩ := pyEq_some hb
    exact op_eqD hu pins s σ H _ _ vv uu Q I rv ru ⟨d, e, toPy_dp rs 60 x v d h1 rx, toPy_dp rs 60 y u e h2 ry, h3, h4, ok.same rs rfl rfl⟩
theorem opp_ne (hu : X.A.units + 64 < cLine) : OpR X (compareOp .NotEq) (rO2 X.K opNe) := by
  intro pins s σ H v u vv uu Q I rv ru h
  obtain ⟨m, S, x, y, rs, rx, ry, ok⟩ := h
  unfold opNe at ok
  cases hb : pyEq S x y with
  | none => rw [hb] at ok; obtain ⟨_, _, e, _⟩ := ok; cases e
  | some b =>
    rw [hb] at ok
    obtain ⟨d, e, h1, h2, h3, h4, rfl⟩ := pyEq_some hb
    exact op_neD hu pins s σ H _ _ vv uu Q I rv ru ⟨d, e, toPy_dp rs 60 x v d h1 rx, toPy_dp rs 60 y u e h2 ry, h3, h4, ok.same rs rfl rfl⟩
theorem isN_of {K : PySem.W.Frag} {m : Nat → Addr} {N : Nat} {H : Hp} {x : D} {v : V} (r : Rv K m N H x v) : isN x = decide (v = .non) := by
  cases x <;> first
    | (obtain ⟨_, rfl⟩ := r.loc; simp [isN])
    | (obtain ⟨_, _, rfl, _⟩ := r.tup; simp [isN])
    | (cases r; simp [isN])
theorem opp_isN : OpR X (compareOp .Is) (rO2 X.K opIsN) := by
  intro pins s σ H v u vv uu Q I rv ru h
  obtain ⟨m, S, x, y, rs, rx, ry, ok⟩ := h
  unfold opIsN at ok
  split at ok
  · cases ry
    exact op_isN pins s σ H _ _ vv uu Q I rv ru ⟨rfl, by rw [← isN_of rx]; exact ok.same rs rfl rfl⟩
  · obtain ⟨_, _, e, _⟩ := ok; cases e
theorem opp_notN : OpR X (compareOp .IsNot) (rO2 X.K opNotN) := by
  intro pins s σ H v u vv uu Q I rv ru h
  obtain ⟨m, S, x, y, rs, rx, ry, ok⟩ := h
  unfold opNotN at ok
  split at ok
  · cases ry
    exact op_notN pins s σ H _ _ vv uu Q I rv ru ⟨rfl, by rw [← isN_of rx]; exact ok.same rs rfl rfl⟩
  · obtain ⟨_, _, e, _⟩ := ok; cases e

/-! ### expressions of them -/
def eOp (g : D → D → Store → O D) (f h : Ex) : Ex := bnd f fun x ρ S1 => (h ρ S1).bind fun y S2 => R.of (g x y S2)
theorem tOp_of {K : PySem.W.Frag} {g : D → D → Store → O D} {f h : Ex} {σ : St} {H : Hp} {Q : VK} (q : tE K W (eOp g f h) σ H Q) : tOp (rO2 K g) (tE K W f) (tE K W h) σ H Q := by
  obtain ⟨m, S, ρ, rs, re, q⟩ := tX_bind (P := Rv K) (f := f) q
  refine ⟨m, S, ρ, rs, re, q.mono fun v H1 ⟨m1, S1, d, ρ1, rs1, re1, p, q1⟩ => ?_⟩
  refine ⟨m1, S1, ρ1, rs1, re1, (Aft.bind (P := Rv K) q1).mono fun u H2 ⟨m2, S2, d2, g2, p2, q2⟩ => ?_⟩
  exact ⟨m2, S2, d, d2, g2.rs, g2.rv p, p2, Ok1.of q2⟩
theorem me_op {op : Operator} {a b : Expr} {pos : Pos} {g : D → D → Store → O D} {f h : Ex} (ho : OpR X (binaryOp op) (rO2 X.K g)) (ha : ME X W a f) (hb : ME X W b h) : ME X W (.BinOp a op b pos) (eOp g f h) :=
  pe_imp (pe_op ho ha hb) fun _ _ _ => tOp_of
theorem me_cmp {op : CmpOp} {a b : Expr} {pos : Pos} {g : D → D → Store → O D} {f h : Ex} (ho : OpR X (compareOp op) (rO2 X.K g)) (ha : ME X W a f) (hb : ME X W b h) (hm : behindInMarks op b = false) : ME X W (.Compare a [op] [b] pos) (eOp g f h) :=
  pe_imp (pe_cmpR ho ha hb hm) fun _ _ _ => tOp_of
/-- a value as a test -/
def toB : D → Store → R Bool := fun d S => match d with
  | .bl b => .ok b S
  | _ => .er
def tBl (f : Ex) : Tx := bnd f fun d _ S1 => toB d S1
theorem tTest_of {K : PySem.W.Frag} {f : Ex} {σ : St} {H : Hp} {Q : Bool → Hp → Prop} (q : tT K W (tBl f) σ H Q) : tE K W f σ H fun x H' => ∃ k, x = .bl k ∧ Q k H' := by
  obtain ⟨m, S, ρ, rs, re, q⟩ := tX_bind (P := Rv K) (f := f) q
  refine ⟨m, S, ρ, rs, re, q.mono fun v H1 ⟨m1, S1, d, ρ1, rs1, re1, p, q1⟩ => ?_⟩
  unfold toB at q1
  split at q1
  · cases p
    exact ⟨_, rfl, q1 m1 H1 _ (Fin.refl rs1) rfl⟩
  · exact q1.elim
theorem tOp_mono {K : PySem.W.Frag} {r : R2} {f h : Ex} {σ : St} {H : Hp} {Q Q' : VK} (hr : ∀ x y H Q Q', (∀ v H, Q v H → Q' v H) → r x y H Q → r x y H Q') (hq : ∀ v H, Q v H → Q' v H) (q : tOp r (tE K W f) (tE K W h) σ H Q) : tOp r (tE K W f) (tE K W h) σ H Q' := by
  obtain ⟨m, S, ρ, rs, re, q⟩ := q
  refine ⟨m, S, ρ, rs, re, q.mono fun v H1 ⟨m1, S1, ρ1, rs1, re1, q1⟩ => ⟨m1, S1, ρ1, rs1, re1, q1.mono fun u H2 q2 => hr _ _ _ _ _ hq q2⟩⟩
theorem mt_cmp {op : CmpOp} {a b : Expr} {pos : Pos} {g : D → D → Store → O D} {f h : Ex} (ho : OpR X (compareOp op) (rO2 X.K g)) (ha : ME X W a f) (hb : ME X W b h) (hm : behindInMarks op b = false) : MT X W (.Compare a [op] [b] pos) (tBl (eOp g f h)) :=
  pt_imp (pt_cmpR ho ha hb hm) fun _ _ _ q => tOp_of (tTest_of q)
/-- a op b op' c -/
def eCh (g g' : D → D → Store → O D) (f h k : Ex) : Ex := bnd f fun x ρ S1 => (h ρ S1).bind fun y S2 => (R.of (g x y S2)).bind fun z S3 => (toB z S3).bind fun c S4 => if c = true then (k ρ S4).bind fun w S5 => R.of (g' y w S5) else .ok (.bl false) S4
theorem tChain_of {K : PySem.W.Frag} {g g' : D → D → Store → O D} {f h k : Ex} {σ : St} {H : Hp} {Q : VK} (q : tE K W (eCh g g' f h k) σ H Q) : tChain (rO2 K g) (rO2 K g') (tE K W f) (tE K W h) (tE K W k) σ H Q := by
  obtain ⟨m, S, ρ, rs, re, q⟩ := tX_bind (P := Rv K) (f := f) q
  refine ⟨m, S, ρ, rs, re, q.mono fun v H1 ⟨m1, S1, d, ρ1, rs1, re1, p, q1⟩ => ?_⟩
  refine ⟨m1, S1, ρ1, rs1, re1, (Aft.bind (P := Rv K) q1).mono fun u H2 ⟨m2, S2, d2, g2, p2, q2⟩ => ?_⟩
  have q3 := Aft.bind (P := Rv K) q2
  refine ⟨m2, S2, d, d2, g2.rs, g2.rv p, p2, ?_⟩
  obtain ⟨z, S3, e, q4⟩ := Ok1.of q3
  refine ⟨z, S3, e, fun m3 H3 w g3 p3 => ?_⟩
  obtain ⟨m4, S4, d4, g4, p4, q5⟩ := q4 m3 H3 w g3 p3
  unfold toB at q5
  split at q5
  · rename_i b
    cases p4
    refine ⟨b, rfl, ?_⟩
    cases b with
    | true =>
      simp only [R.bind, if_true] at q5 ⊢
      refine ⟨m4, S4, ρ1, g4.rs, g4.renv (g2.renv re1), (Aft.bind (P := Rv K) q5).mono fun u5 H5 ⟨m5, S5, d5, g5, p5, q6⟩ => ?_⟩
      exact ⟨m5, S5, d2, d5, g5.rs, g5.rv (g4.rv p2), p5, Ok1.of q6⟩
    | false =>
      simp only [R.bind, Bool.false_eq_true, if_false] at q5 ⊢
      exact q5 m4 H3 _ (Fin.refl g4.rs) rfl
  · exact q5.elim
theorem me_chain {op op' : CmpOp} {a b c : Expr} {pos : Pos} {g g' : D → D → Store → O D} {f h k : Ex} (ho : OpR X (compareOp op) (rO2 X.K g)) (ho' : OpR X (compareOp op') (rO2 X.K g')) (ha : ME X W a f) (hb : ME X W b h) (hc : ME X W c k)
    (hm : lastMarks [op, op'] [b, c] = false := by with_unfolding_all rfl) : ME X W (.Compare a [op, op'] [b, c] pos) (eCh g g' f h k) :=
  pe_imp (pe_chain ho ho' ha hb hc hm) fun _ _ _ => tChain_of
theorem mt_chain {op op' : CmpOp} {a b c : Expr} {pos : Pos} {g g' : D → D → Store → O D} {f h k : Ex} (ho : OpR X (compareOp op) (rO2 X.K g)) (ho' : OpR X (compareOp op') (rO2 X.K g')) (ha : ME X W a f) (hb : ME X W b h) (hc : ME X W c k)
    (hm : lastMarks [op, op'] [b, c] = false := by with_unfolding_all rfl) : MT X W (.Compare a [op, op'] [b, c] pos) (tBl (eCh g g' f h k)) :=
  pt_imp (pt_chain ho ho' ha hb hc hm) fun _ _ _ q => tChain_of (tTest_of q)
end
end M1

end

section
set_option maxRecDepth 100000
set_option maxHeartbeats 2000000
/-! M3: tests, and/or/not, displays, subscripts, slices, fields, built-in calls -/
namespace M1
open PySem PySem.Spec PyProof.Rows L2

/-! ### truth, and, or, not, if -/
def truD (S : Store) : D → Option Bool
  | .non => some false
  | .bl b => some b
  | .int i => some (i != 0)
  | .str y => if y.length ≤ sizeLine then some ((y.length : Int) != 0) else none
  | .tup ds => some (!ds.isEmpty)
  | .loc n => (lstOf S n).map fun xs => !xs.isEmpty
  | _ => none
theorem isEmpty_rvs {K : PySem.W.Frag} {m : Nat → Addr} {N : Nat} {H : Hp} {ds : List D} {vs : List V} (r : Rvs K m N H ds vs) : (!ds.isEmpty) = !vs.isEmpty := by
  have := r.length
  cases ds <;> cases vs <;> simp_all
theorem truD_ok {K : PySem.W.Frag} {m : Nat → Addr} {S : Store} {H : Hp} {d : D} {v : V} {b : Bool} (rs : RS K m S H) (r : Rv K m S.length H d v) (e : truD S d = some b) : TruV K v H b := by
  cases d with
  | non => cases r; simp only [truD, Option.some.injEq] at e; exact e.symm
  | bl c => cases r; simp only [truD, Option.some.injEq] at e; exact e.symm
  | int i => cases r; simp only [truD, Option.some.injEq] at e; exact e.symm
  | str y =>
    cases r
    simp only [truD] at e
    split at e
    · rename_i hz; simp only [Option.some.injEq] at e; exact ⟨hz, e.symm⟩
    · cases e
  | tup ds =>
    obtain ⟨a, vs, rfl, q, r2⟩ := r.tup
    simp only [truD, Option.some.injEq] at e
    exact .inr (.inl ⟨vs, q, by rw [← isEmpty_rvs r2]; exact e.symm⟩)
  | loc n =>
    obtain ⟨hn, rfl⟩ := r.loc
    simp only [truD, Option.map_eq_some_iff] at e
    obtain ⟨xs, e1, e2⟩ := e
    obtain ⟨vs, q, r2⟩ := rs.list e1
    exact .inl ⟨vs, q, by rw [← isEmpty_rvs r2]; exact e2.symm⟩
  | _ => simp [truD] at e
def tTru (f : Ex) : Tx := bnd f fun d ρ S1 => match truD S1 d with
  | some b => .ok b S1
  | none => .er
def tAndM (f g : Tx) : Tx := bnd f fun c ρ S1 => if c = true then g ρ S1 else .ok false S1
def tOrM (f g : Tx) : Tx := bnd f fun c ρ S1 => if c = true then .ok true S1 else g ρ S1
def tNotM (f : Tx) : Tx := bnd f fun c ρ S1 => .ok (!c) S1
def eAnd (f g : Ex) : Ex := bnd f fun d ρ S1 => (toB d S1).bind fun c S1 => if c = true then g ρ S1 else .ok (.bl false) S1
def eOr (f g : Ex) : Ex := bnd f fun d ρ S1 => (toB d S1).bind fun c S1 => if c = true then .ok (.bl true) S1 else g ρ S1
def eNot (f : Ex) : Ex := bnd f fun d ρ S1 => (toB d S1).bind fun c S1 => .ok (.bl (!c)) S1
def eIf (t : Tx) (f g : Ex) : Ex := bnd t fun c ρ S1 => if c = true then f ρ S1 else g ρ S1
def eNeg (f : Ex) : Ex := bnd f fun d ρ S1 => match d with
  | .int i => .ok (.int (-i)) S1
  | _ => .er

section
variable {X : Cx} {W : WX} {a b c : Expr} {rest : List Expr} {pos : Pos} {f g : Ex} {t u : Tx}
theorem mt_tru (ha : ME X W a f) (he : ∀ whole, isTrue a X.env whole = (do let v ← whole; standAt a.pos; holding [v] (truthy v)) := by intro _; rfl) : MT X W a (tTru f) :=
  pt_imp (pt_truth ha he) fun σ H Q q => by
    obtain ⟨m, S, ρ, rs, re, q⟩ := tX_bind (P := Rv X.K) (f := f) q
    refine ⟨m, S, ρ, rs, re, q.mono fun v H1 ⟨m1, S1, d, ρ1, rs1, re1, p, q1⟩ => ?_⟩
    cases e : truD S1 d with
    | none => simp only [e] at q1; exact q1.elim
    | some k => simp only [e] at q1; exact ⟨k, truD_ok rs1 p e, q1 m1 H1 k (Fin.refl rs1) rfl⟩
/-- a test whatever its whole is -/
abbrev MW (X : Cx) (W : WX) (e : Expr) (f : Tx) : Prop := PW X e (tT X.K W f)
theorem pw_imp {e : Expr} {t t' : TT} (h : PW X e t) (i : ∀ σ H Q, t' σ H Q → t σ H Q) : PW X e t' := ⟨fun wh pins s σ H Q I q => h.run wh pins s σ H Q I (i σ H Q q)⟩
theorem mw_pt (h : MW X W a t) : MT X W a t := PW.pt h
theorem mw_and1 (ha : MT X W a t) : MW X W (.BoolOp .And [a] pos) t := pw_and1 ha
theorem mw_or1 (ha : MT X W a t) : MW X W (.BoolOp .Or [a] pos) t := pw_or1 ha
theorem mw_and (ha : MT X W a t) (hb : MW X W (.BoolOp .And (b :: rest) pos) u) : MW X W (.BoolOp .And (a :: b :: rest) pos) (tAndM t u) :=
  pw_imp (pw_and ha hb) fun σ H Q q => by
    obtain ⟨m, S, ρ, rs, re, q⟩ := tX_bind (P := fun _ _ _ a b => b = a) (f := t) q
    refine ⟨m, S, ρ, rs, re, q.mono fun v H1 ⟨m1, S1, d, ρ1, rs1, re1, p, q1⟩ => ?_⟩
    subst p
    cases v with
    | true => simp only [if_true] at q1 ⊢; exact ⟨m1, S1, ρ1, rs1, re1, q1⟩
    | false => simp only [Bool.false_eq_true, if_false] at q1 ⊢; exact q1 m1 H1 _ (Fin.refl rs1) rfl
theorem mw_or (ha : MT X W a t) (hb : MW X W (.BoolOp .Or (b :: rest) pos) u) : MW X W (.BoolOp .Or (a :: b :: rest) pos) (tOrM t u) :=
  pw_imp (pw_or ha hb) fun σ H Q q => by
    obtain ⟨m, S, ρ, rs, re, q⟩ := tX_bind (P := fun _ _ _ a b => b = a) (f := t) q
    refine ⟨m, S, ρ, rs, re, q.mono fun v H1 ⟨m1, S1, d, ρ1, rs1, re1, p, q1⟩ => ?_⟩
    subst p
    cases v with
    | true => simp only [if_true] at q1 ⊢; exact q1 m1 H1 _ (Fin.refl rs1) rfl
    | false => simp only [Bool.false_eq_true, if_false] at q1 ⊢; exact ⟨m1, S1, ρ1, rs1, re1, q1⟩
theorem mt_not (ha : MT X W a t) : MT X W (.UnaryOp .Not a pos) (tNotM t) :=
  pt_imp (pt_not ha) fun σ H Q q => by
    obtain ⟨m, S, ρ, rs, re, q⟩ := tX_bind (P := fun _ _ _ a b => b = a) (f := t) q
    refine ⟨m, S, ρ, rs, re, q.mono fun v H1 ⟨m1, S1, d, ρ1, rs1, re1, p, q1⟩ => ?_⟩
    subst p
    exact q1 m1 H1 _ (Fin.refl rs1) rfl
theorem toB_at {K : PySem.W.Frag} {m : Nat → Addr} {S : Store} {H : Hp} {σ : St} {Q : VK} {d : D} {v : V} {k : Bool → Store → R D} (p : Rv K m S.length H d v) (q : AftE K W ((toB d S).bind k) m S H σ Q) : ∃ c, v = .bl c ∧ AftE K W (k c S) m S H σ Q := by
  unfold toB at q
  split at q
  · cases p; exact ⟨_, rfl, q⟩
  · exact q.elim
theorem me_one {op : BoolOp} (h : ME X W a f) : ME X W (.BoolOp op [a] pos) f := pe_one h
theorem me_and (ha : ME X W a f) (hb : ME X W (.BoolOp .And (b :: rest) pos) g) : ME X W (.BoolOp .And (a :: b :: rest) pos) (eAnd f g) :=
  pe_imp (pe_and ha hb) fun σ H Q q => by
    obtain ⟨m, S, ρ, rs, re, q⟩ := tX_bind (P := Rv X.K) (f := f) q
    refine ⟨m, S, ρ, rs, re, q.mono fun v H1 ⟨m1, S1, d, ρ1, rs1, re1, p, q1⟩ => ?_⟩
    obtain ⟨c, rfl, q2⟩ := toB_at p q1
    refine ⟨c, rfl, ?_⟩
    cases c with
    | true => simp only [if_true] at q2 ⊢; exact ⟨m1, S1, ρ1, rs1, re1, q2⟩
    | false => simp only [Bool.false_eq_true, if_false] at q2 ⊢; exact q2 m1 H1 _ (Fin.refl rs1) rfl
theorem me_or (ha : ME X W a f) (hb : ME X W (.BoolOp .Or (b :: rest) pos) g) : ME X W (.BoolOp .Or (a :: b :: rest) pos) (eOr f g) :=
  pe_imp (pe_or ha hb) fun σ H Q q => by
    obtain ⟨m, S, ρ, rs, re, q⟩ := tX_bind (P := Rv X.K) (f := f) q
    refine ⟨m, S, ρ, rs, re, q.mono fun v H1 ⟨m1, S1, d, ρ1, rs1, re1, p, q1⟩ => ?_⟩
    obtain ⟨c, rfl, q2⟩ := toB_at p q1
    refine ⟨c, rfl, ?_⟩
    cases c with
    | true => simp only [if_true] at q2 ⊢; exact q2 m1 H1 _ (Fin.refl rs1) rfl
    | false => simp only [Bool.false_eq_true, if_false] at q2 ⊢; exact ⟨m1, S1, ρ1, rs1, re1, q2⟩
theorem me_not (ha : ME X W a f) : ME X W (.UnaryOp .Not a pos) (eNot f) :=
  pe_imp (pe_not ha) fun σ H Q q => by
    obtain ⟨m, S, ρ, rs, re, q⟩ := tX_bind (P := Rv X.K) (f := f) q
    refine ⟨m, S, ρ, rs, re, q.mono fun v H1 ⟨m1, S1, d, ρ1, rs1, re1, p, q1⟩ => ?_⟩
    obtain ⟨c, rfl, q2⟩ := toB_at p q1
    exact ⟨c, rfl, q2 m1 H1 _ (Fin.refl rs1) rfl⟩
theorem me_neg (ha : ME X W a f) : ME X W (.UnaryOp .USub a pos) (eNeg f) :=
  pe_imp (pe_un un_neg ha) fun σ H Q q => by
    obtain ⟨m, S, ρ, rs, re, q⟩ := tX_bind (P := Rv X.K) (f := f) q
    refine ⟨m, S, ρ, rs, re, q.mono fun v H1 ⟨m1, S1, d, ρ1, rs1, re1, p, q1⟩ => ?_⟩
    cases d <;> first | exact q1.elim | skip
    cases p
    exact ⟨_, rfl, q1 m1 H1 _ (Fin.refl rs1) rfl⟩
theorem me_if (hc : MT X W c t) (ha : ME X W a f) (hb : ME X W b g) : ME X W (.IfExp c a b pos) (eIf t f g) :=
  pe_imp (pe_ifExp hc ha hb) fun σ H Q q => by
    obtain ⟨m, S, ρ, rs, re, q⟩ := tX_bind (P := fun _ _ _ a b => b = a) (f := t) q
    refine ⟨m, S, ρ, rs, re, q.mono fun v H1 ⟨m1, S1, d, ρ1, rs1, re1, p, q1⟩ => ?_⟩
    subst p
    cases v with
    | true => simp only [if_true] at q1 ⊢; exact ⟨m1, S1, ρ1, rs1, re1, q1⟩
    | false => simp only [Bool.false_eq_true, if_false] at q1 ⊢; exact ⟨m1, S1, ρ1, rs1, re1, q1⟩
end

/-! ### displays -/
def eTup (f : Ax) : Ex := bnd f fun ds ρ S1 => if ds.length ≤ sizeLine then .ok (.tup ds) S1 else .er
def eLst (f : Ax) : Ex := bnd f fun ds ρ S1 => if ds.length ≤ sizeLine then .ok (.loc S1.length) (S1 ++ [.lst ds]) else .er
section
variable {X : Cx} {W : WX} {es : List Expr} {pos : Pos} {f : Ax}
theorem me_tup {x1} (h : MA X W es f) : ME X W (.Tuple es x1 pos) (eTup f) :=
  pe_imp (pe_tup h) fun σ H Q q => by
    obtain ⟨m, S, ρ, rs, re, q⟩ := tX_bind (P := Rvs X.K) (f := f) q
    refine ⟨m, S, ρ, rs, re, q.mono fun vs H1 ⟨m1, S1, ds, ρ1, rs1, re1, p, q1⟩ => ?_⟩
    have l := p.length
    split at q1
    · rename_i hz
      refine ⟨by omega, fun a ha => ?_⟩
      have fn : Fin X.K m1 S1 H1 m1 S1 (upd H1 a (.tup vs)) := Fin.junk rs1 ha
      exact q1 m1 _ _ fn (Rv.mk_tup (SqT.of upd_same) (fn.rvs p))
    · exact q1.elim
theorem me_lst (h : MA X W es f) : ME X W (.List es pos) (eLst f) :=
  pe_imp (pe_lst h) fun σ H Q q => by
    obtain ⟨m, S, ρ, rs, re, q⟩ := tX_bind (P := Rvs X.K) (f := f) q
    refine ⟨m, S, ρ, rs, re, q.mono fun vs H1 ⟨m1, S1, ds, ρ1, rs1, re1, p, q1⟩ => ?_⟩
    have l := p.length
    split at q1
    · rename_i hz
      refine ⟨by omega, fun a ha => ?_⟩
      have ok : Ok1 X.K (Rv X.K) (some (.loc S1.length, S1 ++ [.lst ds])) m1 S1 H1 Q := ⟨_, _, rfl, q1⟩
      exact ok.lst rs1 rfl p ha
    · exact q1.elim
end

/-! ### subscripts -/
theorem Rvs.atI {K : PySem.W.Frag} {m : Nat → Addr} {N : Nat} {H : Hp} {ds : List D} {vs : List V} {i : Int} {d : D} (r : Rvs K m N H ds vs) (e : L2.atI ds i = some d) : ∃ v, L2.atI vs i = some v ∧ Rv K m N H d v := by
  unfold L2.atI at e ⊢
  rw [r.length]
  simp only [Option.bind_eq_some_iff] at e ⊢
  obtain ⟨j, h1, h2⟩ := e
  obtain ⟨v, h3, h4⟩ := r.get h2
  exact ⟨v, ⟨j, h1, h3⟩, h4⟩
def opIx (x y : D) (S : Store) : O D := match x, y with
  | .tup ds, .int i => (L2.atI ds i).map fun d => (d, S)
  | .loc n, .int i => (lstOf S n).bind fun ds => (L2.atI ds i).map fun d => (d, S)
  | .str z, .int i => if z.length ≤ sizeLine then (L2.atI z.cps.toList i).map fun c => (.str ⟨#[c]⟩, S) else none
  | _, _ => none
theorem ix_opIx {X : Cx} : IxR X (rO2 X.K opIx) := by
  intro value slice pins s σ H v u vv uu Q I rv ru h hs
  obtain ⟨m, S, x, y, rs, rx, ry, ok⟩ := h
  unfold opIx at ok
  split at ok
  · rename_i ds i
    cases e : L2.atI ds i with
    | none => rw [e] at ok; obtain ⟨_, _, e, _⟩ := ok; cases e
    | some d =>
      rw [e] at ok
      obtain ⟨a, vs, rfl, q, r⟩ := rx.tup
      cases ry
      obtain ⟨w, e2, rw2⟩ := r.atI e
      exact ix_tup value slice pins s σ H _ _ vv uu Q I rv ru ⟨a, vs, i, w, rfl, rfl, q, e2, ok.same rs rfl rw2⟩ hs
  · rename_i n i
    cases h1 : lstOf S n with
    | none => rw [h1] at ok; obtain ⟨_, _, e, _⟩ := ok; cases e
    | some ds =>
      rw [h1] at ok
      simp only [Option.bind_some] at ok
      cases e : L2.atI ds i with
      | none => rw [e] at ok; obtain ⟨_, _, e, _⟩ := ok; cases e
      | some d =>
        rw [e] at ok
        obtain ⟨_, rfl⟩ := rx.loc
        cases ry
        obtain ⟨vs, q, r⟩ := rs.list h1
        obtain ⟨w, e2, rw2⟩ := r.atI e
        exact ix_list value slice pins s σ H _ _ vv uu Q I rv ru ⟨m n, vs, i, w, rfl, rfl, q, e2, ok.same rs rfl rw2⟩ hs
  · rename_i z i
    split at ok
    · rename_i hz
      cases e : L2.atI z.cps.toList i with
      | none => rw [e] at ok; obtain ⟨_, _, e, _⟩ := ok; cases e
      | some c =>
        rw [e] at ok
        cases rx
        cases ry
        exact ix_str value slice pins s σ H _ _ vv uu Q I rv ru ⟨z, i, c, rfl, rfl, hz, e, ok.same rs rfl rfl⟩ hs
    · obtain ⟨_, _, e, _⟩ := ok; cases e
  · obtain ⟨_, _, e, _⟩ := ok; cases e
theorem me_ix {X : Cx} {W : WX} {a b : Expr} {pos : Pos} {f h : Ex} (ha : ME X W a f) (hb : ME X W b h) (hs : PlainIx b) : ME X W (.Subscript a b pos) (eOp opIx f h) :=
  pe_imp (pe_ix ix_opIx ha hb hs) fun _ _ _ => tOp_of

/-! ### slices -/
def cutD (xs : List D) (lo hi : Option Int) : List D := (xs.drop (HT.sIx xs.length 0 lo)).take (HT.sIx xs.length xs.length hi - HT.sIx xs.length 0 lo)
theorem Rvs.cut {K : PySem.W.Frag} {m : Nat → Addr} {N : Nat} {H : Hp} {ds : List D} {vs : List V} (r : Rvs K m N H ds vs) (lo hi : Option Int) : Rvs K m N H (cutD ds lo hi) (cutV vs lo hi) := by
  unfold cutD cutV
  rw [r.length]
  exact (r.drop _).take _
abbrev Px := Env → Store → R (Option Int)
def pNo : Px := fun _ S => .ok none S
def pAt (f : Ex) : Px := bnd f fun d ρ S1 => match d with
  | .int i => .ok (some i) S1
  | _ => .er
abbrev MP (X : Cx) (W : WX) (e : Option Expr) (f : Px) : Prop := PO X e (tX X.K (fun _ _ _ a b => b = a) W f)
theorem po_imp {X : Cx} {e : Option Expr} {t t' : TO} (h : PO X e t) (i : ∀ σ H Q, t' σ H Q → t σ H Q) : PO X e t' := ⟨fun pins s σ H Q I q => h.run pins s σ H Q I (i σ H Q q)⟩
theorem mp_no {X : Cx} {W : WX} : MP X W none pNo := po_imp po_none fun σ H Q ⟨m, S, ρ, rs, re, q⟩ => q m H none (Fin.refl rs) rfl
theorem mp_at {X : Cx} {W : WX} {e : Expr} {f : Ex} (h : ME X W e f) : MP X W (some e) (pAt f) := po_imp (po_some h) fun σ H Q q => by
  obtain ⟨m, S, ρ, rs, re, q⟩ := tX_bind (P := Rv X.K) (f := f) q
  refine ⟨m, S, ρ, rs, re, q.mono fun v H1 ⟨m1, S1, d, ρ1, rs1, re1, p, q1⟩ => ?_⟩
  cases d <;> first | exact q1.elim | skip
  cases p
  exact ⟨_, rfl, q1 m1 H1 _ (Fin.refl rs1) rfl⟩
def opSl (x : D) (lo hi : Option Int) (S : Store) : O D := match x with
  | .tup ds => some (.tup (cutD ds lo hi), S)
  | .loc n => (lstOf S n).map fun ds => (.loc S.length, S ++ [.lst (cutD ds lo hi)])
  | .str z => if z.length ≤ sizeLine then some (.str (Txt.slice z lo hi), S) else none
  | _ => none
def eSl (f : Ex) (l h : Px) : Ex := bnd f fun x ρ S1 => (l ρ S1).bind fun lo S2 => (h ρ S2).bind fun hi S3 => R.of (opSl x lo hi S3)
theorem sl_opSl {X : Cx} : SlR X (fun v lo hi H Q => ∃ m S x, RS X.K m S H ∧ Rv X.K m S.length H x v ∧ Ok1 X.K (Rv X.K) (opSl x lo hi S) m S H Q) := by
  intro pins s σ H v vv vl vu lo hi sl Q I rv hs pl pu h
  obtain ⟨m, S, x, rs, rx, ok⟩ := h
  unfold opSl at ok
  split at ok
  · rename_i ds
    obtain ⟨a, vs, rfl, q, r⟩ := rx.tup
    refine sl_tupA pins s σ H _ vv vl vu lo hi sl Q I rv hs pl pu ⟨a, vs, rfl, q, fun e => ?_, fun _ p hp => ok.tup rs rfl (r.cut lo hi) hp⟩
    refine ok.same rs rfl ?_
    have : cutV vs lo hi = vs := by
      unfold cutV
      rw [e.1, e.2]
      simp
    rw [← this] at q
    exact Rv.mk_tup q (r.cut lo hi)
  · rename_i n
    cases h1 : lstOf S n with
    | none => rw [h1] at ok; obtain ⟨_, _, e, _⟩ := ok; cases e
    | some ds =>
      rw [h1] at ok
      obtain ⟨_, rfl⟩ := rx.loc
      obtain ⟨vs, q, r⟩ := rs.list h1
      exact sl_list pins s σ H _ vv vl vu lo hi sl Q I rv hs pl pu ⟨_, vs, rfl, q, fun p hp => ok.lst rs rfl (r.cut lo hi) hp⟩
  · rename_i z
    split at ok
    · rename_i hz
      cases rx
      exact C8.sl_txt pins s σ H _ vv vl vu lo hi sl Q I rv hs pl pu ⟨z, rfl, hz, ok.same rs rfl rfl⟩
    · obtain ⟨_, _, e, _⟩ := ok; cases e
  · obtain ⟨_, _, e, _⟩ := ok; cases e
theorem me_sl {X : Cx} {W : WX} {e : Expr} {lo hi : Option Expr} {p2 pos : Pos} {f : Ex} {l h : Px} (he : ME X W e f) (hl : MP X W lo l) (hh : MP X W hi h) : ME X W (.Subscript e (.Slice lo hi none p2) pos) (eSl f l h) :=
  pe_imp (pe_slice sl_opSl he hl hh) fun σ H Q q => by
    obtain ⟨m, S, ρ, rs, re, q⟩ := tX_bind (P := Rv X.K) (f := f) q
    refine ⟨m, S, ρ, rs, re, q.mono fun v H1 ⟨m1, S1, d, ρ1, rs1, re1, p, q1⟩ => ?_⟩
    refine ⟨m1, S1, ρ1, rs1, re1, (Aft.bind (P := fun _ _ _ a b => b = a) q1).mono fun u H2 ⟨m2, S2, d2, g2, p2, q2⟩ => ?_⟩
    refine ⟨m2, S2, ρ1, g2.rs, g2.renv re1, (Aft.bind (P := fun _ _ _ a b => b = a) q2).mono fun w H3 ⟨m3, S3, d3, g3, p3, q3⟩ => ?_⟩
    subst p2; subst p3
    exact ⟨m3, S3, d, g3.rs, g3.rv (g2.rv p), Ok1.of q3⟩

/-! ### fields -/
theorem Rk.lookup {K : PySem.W.Frag} {m : Nat → Addr} {N : Nat} {H : Hp} : ∀ {fs : List (Str × D)} {vs : List (Str × V)} {f : Str} {d : D}, Rk K m N H fs vs → fs.lookup f = some d → ∃ v, vs.lookup f = some v ∧ Rv K m N H d v
  | [], _, _, _, _, e => by simp at e
  | (k, x) :: fs, _, f, d, r, e => by
    simp only [Rk] at r
    obtain ⟨v, r', rfl, r1, r2⟩ := r
    rw [List.lookup_cons] at e ⊢
    cases h : f == k with
    | true => rw [h] at e; cases e; exact ⟨v, rfl, r1⟩
    | false => rw [h] at e; exact Rk.lookup r2 e
theorem Rk.length {K : PySem.W.Frag} {m : Nat → Addr} {N : Nat} {H : Hp} {κ : Type} : ∀ {fs : List (κ × D)} {vs : List (κ × V)}, Rk K m N H fs vs → vs.length = fs.length
  | [], _, h => by simp only [Rk] at h; subst h; rfl
  | (k, d) :: ds, _, h => by
    simp only [Rk] at h
    obtain ⟨v, r, rfl, _, h2⟩ := h
    simp [Rk.length h2]
def putD (f : Str) (v : D) : List (Str × D) → List (Str × D)
  | [] => [(f, v)]
  | (g, x) :: r => if g = f then (g, v) :: r else (g, x) :: putD f v r
theorem Rk.put {K : PySem.W.Frag} {m : Nat → Addr} {N : Nat} {H : Hp} : ∀ {fs : List (Str × D)} {vs : List (Str × V)} {f : Str} {d : D} {v : V}, Rk K m N H fs vs → Rv K m N H d v → Rk K m N H (putD f d fs) (putF f v vs)
  | [], _, _, _, _, r, h => by
    simp only [Rk] at r
    subst r
    simp only [putD, putF, Rk]
    exact ⟨_, _, rfl, h, rfl⟩
  | (k, x) :: fs, _, f, d, v, r, h => by
    simp only [Rk] at r
    obtain ⟨w, r', rfl, r1, r2⟩ := r
    unfold putD putF
    split
    · simp only [Rk]; exact ⟨_, _, rfl, h, r2⟩
    · simp only [Rk]; exact ⟨_, _, rfl, r1, Rk.put r2 h⟩
/-- the instance at a place, its class among cs -/
def insOf (cs : List Addr) (S : Store) : D → Option (Addr × List (Str × D))
  | .loc n => match S[n]? with
    | some (.ins C fs) => if C ∈ cs then some (C, fs) else none
    | _ => none
  | _ => none
theorem RS.ins {K : PySem.W.Frag} {m : Nat → Addr} {S : Store} {H : Hp} {cs : List Addr} {d : D} {v : V} {C : Addr} {fs : List (Str × D)} (rs : RS K m S H) (r : Rv K m S.length H d v) (e : insOf cs S d = some (C, fs)) :
    ∃ n dx vs, d = .loc n ∧ v = .ref (m n) ∧ S[n]? = some (.ins C fs) ∧ C ∈ cs ∧ H (m n) = some (.ins C dx vs) ∧ Rk K m S.length H fs vs := by
  unfold insOf at e
  split at e
  · rename_i n
    obtain ⟨_, rfl⟩ := r.loc
    split at e
    · rename_i C' fs' h
      split at e
      · rename_i hc
        cases e
        obtain ⟨dx, vs, q, r2⟩ := rs.at_ n _ h
        exact ⟨n, dx, vs, rfl, rfl, h, hc, q, r2⟩
      · cases e
    · cases e
  · cases e
def eFld (cs : List Addr) (f : Ex) (nm : Str) : Ex := bnd f fun d ρ S1 => match insOf cs S1 d with
  | some (_, fs) => match fs.lookup nm with
    | some v => .ok v S1
    | none => .er
  | none => .er
theorem me_fld {X : Cx} {W : WX} {e : Expr} {nm : Str} {pos : Pos} {f : Ex} {cs : List Addr} (he : ME X W e f) (hcs : ∀ C ∈ cs, Cls X.K C ∧ NoAttr X.K C nm) (hb : attributeBase e nm X.env (eval e X.env) = eval e X.env) : ME X W (.Attribute e nm pos) (eFld cs f nm) :=
  pe_imp (pe_fld he hb) fun σ H Q q => by
    obtain ⟨m, S, ρ, rs, re, q⟩ := tX_bind (P := Rv X.K) (f := f) q
    refine ⟨m, S, ρ, rs, re, q.mono fun v H1 ⟨m1, S1, d, ρ1, rs1, re1, p, q1⟩ => ?_⟩
    cases e1 : insOf cs S1 d with
    | none => simp only [e1] at q1; exact q1.elim
    | some pr =>
      obtain ⟨C, fs⟩ := pr
      simp only [e1] at q1
      cases e2 : fs.lookup nm with
      | none => simp only [e2] at q1; exact q1.elim
      | some w =>
        simp only [e2] at q1
        obtain ⟨n, dx, vs, rfl, rfl, _, hc, q2, r2⟩ := rs1.ins p e1
        obtain ⟨u, e3, r3⟩ := r2.lookup e2
        exact ⟨m1 n, C, dx, vs, u, rfl, q2, (hcs C hc).1, (hcs C hc).2, e3, q1 m1 H1 _ (Fin.refl rs1) r3⟩

/-! ### built-in functions and types, called -/
def eCall (g : List D → Store → O D) (f : Ax) : Ex := bnd f fun ds ρ S1 => R.of (g ds S1)
theorem tCB_of {K : PySem.W.Frag} {W : WX} {g : List D → Store → O D} {f : Ax} {σ : St} {H : Hp} {Q : VK} (q : tE K W (eCall g f) σ H Q) : tCB (rOL K g) (tA K W f) σ H Q := by
  obtain ⟨m, S, ρ, rs, re, q⟩ := tX_bind (P := Rvs K) (f := f) q
  exact ⟨m, S, ρ, rs, re, q.mono fun v H1 ⟨m1, S1, d, ρ1, rs1, re1, p, q1⟩ => ⟨m1, S1, d, rs1, p, Ok1.of q1⟩⟩
section
variable {X : Cx} {W : WX} {x : Str} {p pos : Pos} {e : Expr} {es : List Expr} {f : Ax} {g : List D → Store → O D} {id T : String}
theorem me_callB (hc : CallR X (.builtin id) (rOL X.K g)) (hg : Gl X x) (hm : X.mg x = none) (hv : bootBuiltins x = some (.builtin id)) (ha : MA X W (e :: es) f) (hn : x ≠ "__name__" := by decide) (hdb : (x == ("__debug__" : Str)) = false := by decide)
    (he : starEach (e :: es) X.env = (false, eval e X.env) :: starEach es X.env := by rfl) (hpl : (backTo pos (starEach es X.env)).any (·.1) = false := by rfl) : ME X W (.Call (.Name x p) (e :: es) [] pos) (eCall g f) :=
  pe_imp (pe_callB hc hg hm hv ha hn hdb he hpl) fun _ _ _ => tCB_of
end
end M1

end

section
set_option maxRecDepth 100000
set_option maxHeartbeats 2000000
/-! M4: statements, targets, loops -/
namespace M1
open PySem PySem.Spec PyProof.Rows L2

inductive Out where
  | nx (ρ : Env) (S : Store) | rt (d : D) (S : Store) | bk (ρ : Env) (S : Store) | ct (ρ : Env) (S : Store)
  | ex (C : Value) (d : Option Nat) (ρ : Env) (S : Store)
  | er
abbrev Sm := Env → Store → Out
def R.out {α : Type} (r : R α) (ρ : Env) (k : α → Store → Out) : Out :=
  match r with
  | .ok a S => k a S
  | .ex C d S => .ex C d ρ S
  | .er => .er
def Out.seq (o : Out) (k : Sm) : Out :=
  match o with
  | .nx ρ S => k ρ S
  | .rt d S => .rt d S | .bk ρ S => .bk ρ S | .ct ρ S => .ct ρ S | .ex C d ρ S => .ex C d ρ S | .er => .er

section
variable {K : PySem.W.Frag} {m m1 m2 : Nat → Addr} {N : Nat} {H H1 H2 : Hp} {S S1 S2 : Store} {σ : St} {W : WX}
/-- the slots, their number -/
structure RE (K : PySem.W.Frag) (m : Nat → Addr) (N : Nat) (H : Hp) (ρ : Env) (σ : St) : Prop where
  len : ρ.length ≤ σ.length
  at_ : Renv K m N H ρ σ
theorem Fin.re {ρ : Env} (f : Fin K m S H m1 S1 H1) (h : RE K m S.length H ρ σ) : RE K m1 S1.length H1 ρ σ := ⟨h.len, f.renv h.at_⟩
theorem RE.set {ρ : Env} {i : Nat} {d : D} {v : V} (h : RE K m N H ρ σ) (r : Rv K m N H d v) : RE K m N H (ρ.set i (some d)) (σ.set i (some v)) := by
  refine ⟨by simpa using h.len, fun j e q => ?_⟩
  by_cases hj : j = i
  · subst hj
    by_cases hl : j < ρ.length
    · rw [List.getElem?_set_self hl] at q
      cases q
      exact ⟨v, by rw [List.getElem?_set_self (Nat.lt_of_lt_of_le hl h.len)], r⟩
    · rw [List.getElem?_eq_none (by simpa using hl)] at q; cases q
  · rw [List.getElem?_set_ne (Ne.symm hj)] at q
    obtain ⟨w, a, b⟩ := h.at_ j e q
    exact ⟨w, by rw [List.getElem?_set_ne (Ne.symm hj)]; exact a, b⟩

def AftS (K : PySem.W.Frag) (W : WX) (o : Out) (m : Nat → Addr) (S : Store) (H : Hp) (E : Ends) : Prop :=
  match o with
  | .nx ρ S' => ∀ m' H' σ', Fin K m S H m' S' H' → RE K m' S'.length H' ρ σ' → E.nx σ' H'
  | .rt d S' => ∀ m' H' v, Fin K m S H m' S' H' → Rv K m' S'.length H' d v → E.rt v H'
  | .bk ρ S' => ∀ m' H' σ', Fin K m S H m' S' H' → RE K m' S'.length H' ρ σ' → E.bk σ' H'
  | .ct ρ S' => ∀ m' H' σ', Fin K m S H m' S' H' → RE K m' S'.length H' ρ σ' → E.ct σ' H'
  | .ex C d ρ S' => ∀ m' H' σ', Fin K m S H m' S' H' → RE K m' S'.length H' ρ σ' → W C (d.map m') σ' H'
  | .er => False
theorem AftS.shift {o : Out} {E : Ends} (f : Fin K m S H m1 S1 H1) (h : AftS K W o m S H E) : AftS K W o m1 S1 H1 E := by
  cases o with
  | nx ρ S' => exact fun m' H' v g p => h m' H' v (f.trans g) p
  | rt ρ S' => exact fun m' H' v g p => h m' H' v (f.trans g) p
  | bk ρ S' => exact fun m' H' v g p => h m' H' v (f.trans g) p
  | ct ρ S' => exact fun m' H' v g p => h m' H' v (f.trans g) p
  | ex C d ρ S' => exact fun m' H' v g p => h m' H' v (f.trans g) p
  | er => exact h
def tS (K : PySem.W.Frag) (W : WX) (f : Sm) : TS := fun E σ H => ∃ m S ρ, RS K m S H ∧ RE K m S.length H ρ σ ∧ AftS K W (f ρ S) m S H E
/-- an expression, then what the statement does with it -/
def sE {α : Type} (f : Env → Store → R α) (k : α → Sm) : Sm := fun ρ S => (f ρ S).out ρ fun d S1 => k d ρ S1
theorem tS_bind {α β : Type} {P : (Nat → Addr) → Nat → Hp → α → β → Prop} {f : Env → Store → R α} {k : α → Sm} {E : Ends} (h : tS K W (sE f k) E σ H) :
    tX K P W f σ H (fun v H1 => ∃ m1 S1 d ρ, RS K m1 S1 H1 ∧ RE K m1 S1.length H1 ρ σ ∧ P m1 S1.length H1 d v ∧ AftS K W (k d ρ S1) m1 S1 H1 E) := by
  obtain ⟨m, S, ρ, rs, re, h⟩ := h
  refine ⟨m, S, ρ, rs, re.at_, ?_⟩
  unfold sE at h
  cases e : f ρ S with
  | ok d S' => rw [e] at h; exact fun m' H' v g p => ⟨m', S', d, ρ, g.rs, g.re re, p, AftS.shift g h⟩
  | ex C d S' => rw [e] at h; exact fun m' H' g => h m' H' σ g (g.re re)
  | er => rw [e] at h; exact h
end

section
variable {X : Cx} {W : WX} {st : Stmt} {rest : List Stmt} {e : Expr} {pos : Pos} {f : Ex} {t : Tx} {s u : Sm}
abbrev MS (X : Cx) (W : WX) (st : Stmt) (f : Sm) : Prop := PS X st (tS X.K W f)
abbrev MSs (X : Cx) (W : WX) (st : List Stmt) (f : Sm) : Prop := PSs X st (tS X.K W f)
def sNil : Sm := fun ρ S => .nx ρ S
def sSeq (f g : Sm) : Sm := fun ρ S => (f ρ S).seq g
theorem mss_nil : MSs X W [] sNil := pss_imp pss_nil fun E σ H ⟨m, S, ρ, rs, re, h⟩ => h m H σ (Fin.refl rs) re
theorem mss_cons (h1 : MS X W st s) (h2 : MSs X W rest u) : MSs X W (st :: rest) (sSeq s u) := pss_imp (pss_cons h1 h2) fun E σ H ⟨m, S, ρ, rs, re, h⟩ => by
  refine ⟨m, S, ρ, rs, re, ?_⟩
  unfold sSeq at h
  cases e : s ρ S with
  | nx ρ' S' => rw [e] at h; exact fun m' H' σ' g p => ⟨m', S', ρ', g.rs, p, AftS.shift g h⟩
  | rt d S' => rw [e] at h; exact h
  | bk d S' => rw [e] at h; exact h
  | ct d S' => rw [e] at h; exact h
  | ex C d ρ' S' => rw [e] at h; exact h
  | er => rw [e] at h; exact h
theorem mss_one (h1 : MS X W st s) : MSs X W [st] s := pss_one h1
theorem ms_pass : MS X W (.Pass pos) sNil := ps_imp ps_pass fun E σ H ⟨m, S, ρ, rs, re, h⟩ => h m H σ (Fin.refl rs) re
def sBrk : Sm := fun ρ S => .bk ρ S
def sCnt : Sm := fun ρ S => .ct ρ S
theorem ms_break : MS X W (.Break pos) sBrk := ps_imp ps_break fun E σ H ⟨m, S, ρ, rs, re, h⟩ => h m H σ (Fin.refl rs) re
theorem ms_continue : MS X W (.Continue pos) sCnt := ps_imp ps_continue fun E σ H ⟨m, S, ρ, rs, re, h⟩ => h m H σ (Fin.refl rs) re
def sRet (f : Ex) : Sm := sE f fun d _ S => .rt d S
theorem ms_ret (he : ME X W e f) : MS X W (.Return (some e) pos) (sRet f) := ps_imp (ps_ret he) fun E σ H q => by
  obtain ⟨m, S, ρ, rs, re, q⟩ := tS_bind (P := Rv X.K) (f := f) q
  exact ⟨m, S, ρ, rs, re, q.mono fun v H1 ⟨m1, S1, d, ρ1, rs1, re1, p, q1⟩ => q1 m1 H1 v (Fin.refl rs1) p⟩
def sRetN : Sm := fun _ S => .rt .non S
theorem ms_retN : MS X W (.Return none pos) sRetN := ps_imp ps_retN fun E σ H ⟨m, S, ρ, rs, re, h⟩ => h m H _ (Fin.refl rs) rfl
def sExpr (f : Ex) : Sm := sE f fun _ ρ S => .nx ρ S
theorem ms_expr (he : ME X W e f) (hs : swapsWith e none pos.line X.env = pure false := by rfl) : MS X W (.Expr e pos) (sExpr f) := ps_imp (ps_expr he hs) fun E σ H q => by
  obtain ⟨m, S, ρ, rs, re, q⟩ := tS_bind (P := Rv X.K) (f := f) q
  exact ⟨m, S, ρ, rs, re, q.mono fun v H1 ⟨m1, S1, d, ρ1, rs1, re1, p, q1⟩ => q1 m1 H1 σ (Fin.refl rs1) re1⟩
def sIf (t : Tx) (f g : Sm) : Sm := sE t fun c ρ S => if c = true then f ρ S else g ρ S
theorem ms_if {c : Expr} {a b : List Stmt} (hc : MT X W c t) (ha : MSs X W a s) (hb : MSs X W b u) : MS X W (.If c a b pos) (sIf t s u) := ps_imp (ps_if hc ha hb) fun E σ H q => by
  obtain ⟨m, S, ρ, rs, re, q⟩ := tS_bind (P := fun _ _ _ a b => b = a) (f := t) q
  refine ⟨m, S, ρ, rs, re, q.mono fun v H1 ⟨m1, S1, d, ρ1, rs1, re1, p, q1⟩ => ?_⟩
  subst p
  cases v with
  | true => simp only [if_true] at q1 ⊢; exact ⟨m1, S1, ρ1, rs1, re1, q1⟩
  | false => simp only [Bool.false_eq_true, if_false] at q1 ⊢; exact ⟨m1, S1, ρ1, rs1, re1, q1⟩
end

/-! ### targets -/
abbrev Gm := D → Store → Env → Option Env
abbrev Gs := List D → Store → Env → Option Env
def tG (K : PySem.W.Frag) (g : Gm) : TG := fun v σ H Q => ∃ m S d ρ ρ', RS K m S H ∧ RE K m S.length H ρ σ ∧ Rv K m S.length H d v ∧ g d S ρ = some ρ' ∧ ∀ σ', RE K m S.length H ρ' σ' → Q σ' H
def tGs (K : PySem.W.Frag) (g : Gs) : TGs := fun v σ H Q => ∃ m S d ρ ρ', RS K m S H ∧ RE K m S.length H ρ σ ∧ Rvs K m S.length H d v ∧ g d S ρ = some ρ' ∧ ∀ σ', RE K m S.length H ρ' σ' → Q σ' H
section
variable {X : Cx} {pos : Pos}
abbrev MG (X : Cx) (e : Expr) (g : Gm) : Prop := PG X e (tG X.K g)
abbrev MGs (X : Cx) (e : List Expr) (g : Gs) : Prop := PGs X e (tGs X.K g)
theorem pg_imp {e : Expr} {t t' : TG} (h : PG X e t) (i : ∀ v σ H Q, t' v σ H Q → t v σ H Q) : PG X e t' := ⟨fun pins s σ H v u Q I r q => h.run pins s σ H v u Q I r (i v σ H Q q)⟩
theorem pgs_imp {e : List Expr} {t t' : TGs} (h : PGs X e t) (i : ∀ v σ H Q, t' v σ H Q → t v σ H Q) : PGs X e t' := ⟨fun pins s σ H v u Q I r q => h.run pins s σ H v u Q I r (i v σ H Q q)⟩
def gN (i : Nat) : Gm := fun d _ ρ => some (ρ.set i (some d))
theorem mg_name {e : Expr} {i : Nat} (h : PG X e (gName i)) : MG X e (gN i) := pg_imp h fun v σ H Q ⟨m, S, d, ρ, ρ', rs, re, rv, e, q⟩ => by
  cases e
  exact q _ (re.set rv)
def gsNil : Gs := fun ds _ ρ => match ds with
  | [] => some ρ
  | _ => none
def gsCons (g : Gm) (h : Gs) : Gs := fun ds S ρ => match ds with
  | d :: r => (g d S ρ).bind fun ρ' => h r S ρ'
  | _ => none
theorem mgs_nil : MGs X [] gsNil := pgs_imp pgs_nil fun v σ H Q ⟨m, S, d, ρ, ρ', rs, re, rv, e, q⟩ => by
  cases d with
  | nil => cases e; simp only [Rvs] at rv; exact ⟨rv, q _ re⟩
  | cons _ _ => cases e
theorem mgs_cons {e : Expr} {es : List Expr} {g : Gm} {h : Gs} (h1 : MG X e g) (h2 : MGs X es h) (hs : (assignEach (e :: es) X.env).map (·.2) = assign e X.env :: (assignEach es X.env).map (·.2) := by rfl) : MGs X (e :: es) (gsCons g h) :=
  pgs_imp (pgs_cons h1 h2 hs) fun v σ H Q ⟨m, S, d, ρ, ρ', rs, re, rv, e, q⟩ => by
    cases d with
    | nil => cases e
    | cons d ds =>
      simp only [Rvs] at rv
      obtain ⟨v1, r, rfl, r1, r2⟩ := rv
      simp only [gsCons, Option.bind_eq_some_iff] at e
      obtain ⟨ρ1, e1, e2⟩ := e
      exact ⟨v1, r, rfl, m, S, d, ρ, ρ1, rs, re, r1, e1, fun σ1 re1 => ⟨m, S, ds, ρ1, ρ', rs, re1, r2, e2, q⟩⟩
/-- (a, b, ..) = a tuple of that length -/
def gT (n : Nat) (g : Gs) : Gm := fun d S ρ => match d with
  | .tup ds => if ds.length = n then g ds S ρ else none
  | _ => none
theorem mg_tup {es : List Expr} {k n : Nat} {g : Gs} (hc : X.calm = true) (h : MGs X es g) (hn : (assignEach es X.env).length = n := by rfl) (hst : (assignEach es X.env).findIdx? (·.1) = none := by rfl) : MG X (.Tuple es k pos) (gT n g) :=
  pg_imp (pg_tup hc h hn hst) fun v σ H Q ⟨m, S, d, ρ, ρ', rs, re, rv, e, q⟩ => by
    unfold gT at e
    split at e
    · rename_i ds
      split at e
      · rename_i hl
        obtain ⟨a, vs, rfl, q1, r1⟩ := rv.tup
        exact ⟨a, vs, rfl, q1, by rw [r1.length]; exact hl, m, S, ds, ρ, ρ', rs, re, r1, e, q⟩
      · cases e
    · cases e
/-- (a, b, ..) = a list of that length -/
def gL (n : Nat) (g : Gs) : Gm := fun d S ρ => match d with
  | .loc l => match lstOf S l with
    | some ds => if ds.length = n then g ds S ρ else none
    | none => none
  | _ => none
theorem mg_lst {es : List Expr} {k n : Nat} {g : Gs} (hc : X.calm = true) (h : MGs X es g) (hn : (assignEach es X.env).length = n := by rfl) (hst : (assignEach es X.env).findIdx? (·.1) = none := by rfl) : MG X (.Tuple es k pos) (gL n g) :=
  pg_imp (pg_lst hc h hn hst) fun v σ H Q ⟨m, S, d, ρ, ρ', rs, re, rv, e, q⟩ => by
    unfold gL at e
    split at e
    · rename_i l
      split at e
      · rename_i ds hds
        split at e
        · rename_i hl
          obtain ⟨_, rfl⟩ := rv.loc
          obtain ⟨vs, q1, r1⟩ := rs.list hds
          exact ⟨_, vs, rfl, q1, by rw [r1.length]; exact hl, m, S, ds, ρ, ρ', rs, re, r1, e, q⟩
        · cases e
      · cases e
    · cases e
/-- (a, b, ..) = a tuple or a list of that length -/
def gA (n : Nat) (g : Gs) : Gm := fun d S ρ => match d with
  | .tup _ => gT n g d S ρ
  | _ => gL n g d S ρ
theorem mg_any {es : List Expr} {k n : Nat} {g : Gs} (hc : X.calm = true) (h : MGs X es g) (hn : (assignEach es X.env).length = n := by rfl) (hst : (assignEach es X.env).findIdx? (·.1) = none := by rfl) : MG X (.Tuple es k pos) (gA n g) := by
  have h1 : MG X (.Tuple es k pos) (gT n g) := mg_tup hc h hn hst
  have h2 : MG X (.Tuple es k pos) (gL n g) := mg_lst hc h hn hst
  refine ⟨fun pins s σ H v u Q I r q => ?_⟩
  obtain ⟨m, S, d, ρ, ρ', rs, re, rv, e, q⟩ := q
  unfold gA at e
  split at e
  · exact h1.run pins s σ H v u Q I r ⟨m, S, _, ρ, ρ', rs, re, rv, e, q⟩
  · exact h2.run pins s σ H v u Q I r ⟨m, S, d, ρ, ρ', rs, re, rv, e, q⟩
end

/-! ### assignments -/
section
variable {X : Cx} {W : WX} {e tg : Expr} {pos : Pos} {f : Ex} {g : Gm}
def sAsg (f : Ex) (g : Gm) : Sm := sE f fun d ρ S => match g d S ρ with
  | some ρ' => .nx ρ' S
  | none => .er
theorem tAsg_of {K : PySem.W.Frag} {E : Ends} {σ : St} {H : Hp} (q : tS K W (sAsg f g) E σ H) : tAsg (tE K W f) (tG K g) E σ H := by
  obtain ⟨m, S, ρ, rs, re, q⟩ := tS_bind (P := Rv K) (f := f) q
  refine ⟨m, S, ρ, rs, re, q.mono fun v H1 ⟨m1, S1, d, ρ1, rs1, re1, p, q1⟩ => ?_⟩
  cases e1 : g d S1 ρ1 with
  | none => simp only [e1] at q1; exact q1.elim
  | some ρ' => simp only [e1] at q1; exact ⟨m1, S1, d, ρ1, ρ', rs1, re1, p, e1, fun σ' re' => q1 m1 H1 σ' (Fin.refl rs1) re'⟩
theorem ms_asg (he : ME X W e f) (hg : MG X tg g) (hs : swapsWithSole [tg] e pos.line X.env = pure false := by rfl) (hw : swappedStores [tg] e X.env = pure none := by rfl)
    (h1 : (assignEach [tg] X.env).map (·.2) = [assign tg X.env] := by rfl) : MS X W (.Assign [tg] e pos) (sAsg f g) :=
  ps_imp (ps_asg he hg hs hw h1) fun _ _ _ => tAsg_of
/-- a, b = x, y of plain local names -/
def sPar2 (i j : Nat) (f : Ax) : Sm := sE f fun ds ρ S => match ds with
  | [a, b] => .nx ((ρ.set i (some a)).set j (some b)) S
  | _ => .er
theorem ms_par2 {i j : Nat} {x y : Str} {a b : Expr} {fa : Ax} {px py pt : Pos} {kt k2 pt2} (hc : X.calm = true) (hN : X.N.Nodup) (hi : X.N[i]? = some x) (hj : X.N[j]? = some y) (hij : i ≠ j)
    (hx : X.env.scope.names.lookup x = some .local) (hy : X.env.scope.names.lookup y = some .local) (ha : MA X W [a, b] fa)
    (hw : swappedStores [.Tuple [.Name x px, .Name y py] kt pt] (.Tuple [a, b] k2 pt2) X.env = pure (some [x, y]))
    (hs : swapsWithSole [.Tuple [.Name x px, .Name y py] kt pt] (.Tuple [a, b] k2 pt2) pos.line X.env = pure false := by rfl) :
    MS X W (.Assign [.Tuple [.Name x px, .Name y py] kt pt] (.Tuple [a, b] k2 pt2) pos) (sPar2 i j fa) := by
  refine ps_imp (ps_par hc hN hi hj hij hx hy ha hw hs) fun E σ H q => ?_
  obtain ⟨m, S, ρ, rs, re, q⟩ := tS_bind (P := Rvs X.K) (f := fa) q
  refine ⟨m, S, ρ, rs, re, q.mono fun vs H1 h1 => ?_⟩
  obtain ⟨m1, S1, ds, ρ1, rs1, re1, p, q1⟩ := h1
  split at q1
  · simp only [Rvs] at p
    obtain ⟨v1, _, rfl, r1, v2, _, rfl, r2, rfl⟩ := p
    exact ⟨v1, v2, rfl, q1 m1 H1 _ (Fin.refl rs1) ((re1.set r1).set r2)⟩
  · exact q1.elim
end

/-! ### while -/
section
variable {X : Cx} {W : WX} {pos : Pos}
def whileN (t : Tx) (b : Sm) : Nat → Sm
  | 0, _, _ => .er
  | n + 1, ρ, S => (t ρ S).out ρ fun c S1 => if c = true then match b ρ S1 with
      | .nx ρ' S' => whileN t b n ρ' S'
      | .ct ρ' S' => whileN t b n ρ' S'
      | .bk ρ' S' => .nx ρ' S'
      | o => o
    else .nx ρ S1
theorem ms_while {c : Expr} {body : List Stmt} {t : Tx} {b : Sm} (n : Nat) (hp : PassesOwn (model X.prog X.w) X.A X.env X.xe) (hc : MT X W c t) (hb : MSs X W body b) : MS X W (.While c body [] pos) (whileN t b n) :=
  ps_imp (ps_while hp hc hb) fun E σ H ⟨m, S, ρ, rs, re, q⟩ => by
    refine ⟨fun k σ H => ∃ m S ρ, RS X.K m S H ∧ RE X.K m S.length H ρ σ ∧ AftS X.K W (whileN t b k ρ S) m S H E, ⟨n, m, S, ρ, rs, re, q⟩, ?_⟩
    rintro k σ1 H1 ⟨m1, S1, ρ1, rs1, re1, q1⟩
    cases k with
    | zero => exact q1.elim
    | succ k =>
      have q2 : tS X.K W (sE t fun c ρ S1 => if c = true then match b ρ S1 with
          | .nx ρ' S' => whileN t b k ρ' S'
          | .ct ρ' S' => whileN t b k ρ' S'
          | .bk ρ' S' => .nx ρ' S'
          | o => o
        else .nx ρ S1) E σ1 H1 := ⟨m1, S1, ρ1, rs1, re1, q1⟩
      obtain ⟨m, S, ρ, rs, re, q3⟩ := tS_bind (P := fun _ _ _ a b => b = a) (f := t) q2
      refine ⟨m, S, ρ, rs, re, q3.mono fun v H2 ⟨m2, S2, d, ρ2, rs2, re2, p, q4⟩ => ?_⟩
      subst p
      cases v with
      | false => simp only [Bool.false_eq_true, if_false] at q4 ⊢; exact q4 m2 H2 σ1 (Fin.refl rs2) re2
      | true =>
        simp only [if_true] at q4 ⊢
        refine ⟨fun σ' H' => ∃ m S ρ, RS X.K m S H' ∧ RE X.K m S.length H' ρ σ' ∧ AftS X.K W (whileN t b k ρ S) m S H' E, fun σ' H' h => ⟨k, Nat.lt_succ_self _, h⟩, m2, S2, ρ2, rs2, re2, ?_⟩
        cases e : b ρ2 S2 with
        | nx ρ' S' => rw [e] at q4; exact fun m' H' σ' g p => ⟨m', S', ρ', g.rs, p, AftS.shift g q4⟩
        | ct ρ' S' => rw [e] at q4; exact fun m' H' σ' g p => ⟨m', S', ρ', g.rs, p, AftS.shift g q4⟩
        | bk ρ' S' => rw [e] at q4; exact fun m' H' σ' g p => q4 m' H' σ' g p
        | rt d S' => rw [e] at q4; exact q4
        | ex C d ρ' S' => rw [e] at q4; exact q4
        | er => rw [e] at q4; exact q4
end

/-! ### what a for or a comprehension walks -/
/-- at turn i: an error, the end, an item; it may lay new places -/
structure Src where
  item : Nat → Store → Option (Option D)
  bound : Nat
structure ItRel (K : PySem.W.Frag) (src : Src) (J : It) (m : Nat → Addr) (S : Store) (H : Hp) : Prop where
  go : ∀ m2 S2 H2, Fin K m S H m2 S2 H2 → ∀ i d, src.item i S2 = some (some d) → J.go i H2
  yld : ∀ m2 S2 H2, Fin K m S H m2 S2 H2 → ∀ i d, src.item i S2 = some (some d) → ∀ x H3, J.yld i H2 x H3 → Fin K m2 S2 H2 m2 S2 H3 ∧ Rv K m2 S2.length H3 d x
  stop : ∀ m2 S2 H2, Fin K m S H m2 S2 H2 → ∀ i, src.item i S2 = some none → J.stop i H2
abbrev Ix := Env → Store → R Src
def tI (K : PySem.W.Frag) (W : WX) (f : Ix) : TI := fun σ H R => ∃ m S ρ, RS K m S H ∧ Renv K m S.length H ρ σ ∧
  match f ρ S with
  | .ok src S' => ∀ m' H' J, Fin K m S H m' S' H' → ItRel K src J m' S' H' → R J H'
  | .ex C d S' => ∀ m' H', Fin K m S H m' S' H' → W C (d.map m') σ H'
  | .er => False
abbrev MI (X : Cx) (W : WX) (tg iter : Expr) (f : Ix) : Prop := PI X tg iter (tI X.K W f)
section
variable {X : Cx} {W : WX} {tg iter : Expr} {pos : Pos}
theorem pi_imp {t t' : TI} (h : PI X tg iter t) (i : ∀ σ H R, t' σ H R → t σ H R) : PI X tg iter t' := ⟨fun pins s σ H R I q => h.run pins s σ H R I (i σ H R q)⟩
/-- the loop from turn i with n turns at most -/
def forN (src : Src) (g : Gm) (b : Sm) : Nat → Nat → Sm
  | 0, _, _, _ => .er
  | n + 1, i, ρ, S => match src.item i S with
    | none => .er
    | some none => .nx ρ S
    | some (some d) => match g d S ρ with
      | none => .er
      | some ρ1 => match b ρ1 S with
        | .nx ρ' S' => forN src g b n (i + 1) ρ' S'
        | .ct ρ' S' => forN src g b n (i + 1) ρ' S'
        | .bk ρ' S' => .nx ρ' S'
        | o => o
def sFor (f : Ix) (g : Gm) (b : Sm) : Sm := sE f fun src ρ S => forN src g b (src.bound + 1) 0 ρ S
theorem ms_for {f : Ix} {g : Gm} {b : Sm} {body : List Stmt} (hp : PassesOwn (model X.prog X.w) X.A X.env X.xe) (hc : X.calm = true) (hi : MI X W tg iter f) (hg : MG X tg g) (hb : MSs X W body b)
    (hs : ∀ x, foldedSetIterable iter X.env x = pure x := by intro _; rfl) : MS X W (.For tg iter body [] pos) (sFor f g b) :=
  ps_imp (ps_for hp hc hi hg hb hs) fun E σ H ⟨m, S, ρ, rs, re, q⟩ => by
    refine ⟨m, S, ρ, rs, re.at_, ?_⟩
    unfold sFor sE at q
    cases e : f ρ S with
    | er => rw [e] at q; exact q
    | ex C d S' => rw [e] at q; exact fun m' H' g => q m' H' σ g (g.re re)
    | ok src S' =>
      rw [e] at q
      intro m' H' J g0 ir
      refine ⟨fun i k σ H => ∃ m2 S2 ρ, Fin X.K m' S' H' m2 S2 H ∧ RE X.K m2 S2.length H ρ σ ∧ AftS X.K W (forN src g b k i ρ S2) m2 S2 H E, ⟨src.bound + 1, m', S', ρ, Fin.refl g0.rs, g0.re re, AftS.shift g0 q⟩, ?_⟩
      rintro i k σ1 H1 ⟨m1, S1, ρ1, f1, re1, q1⟩
      cases k with
      | zero => exact q1.elim
      | succ k =>
        unfold forN at q1
        cases e1 : src.item i S1 with
        | none => simp only [e1] at q1; exact q1.elim
        | some o =>
          cases o with
          | none => simp only [e1] at q1; exact .inl ⟨ir.stop m1 S1 H1 f1 i e1, q1 m1 H1 σ1 (Fin.refl f1.rs) re1⟩
          | some d =>
            simp only [e1] at q1
            cases e2 : g d S1 ρ1 with
            | none => simp only [e2] at q1; exact q1.elim
            | some ρ2 =>
              simp only [e2] at q1
              refine .inr ⟨ir.go m1 S1 H1 f1 i d e1, fun σ' H'' => ∃ m2 S2 ρ, Fin X.K m' S' H' m2 S2 H'' ∧ RE X.K m2 S2.length H'' ρ σ' ∧ AftS X.K W (forN src g b k (i + 1) ρ S2) m2 S2 H'' E, fun σ' H'' h => ⟨k, Nat.lt_succ_self _, h⟩, fun x H3 y => ?_⟩
              obtain ⟨g3, rv⟩ := ir.yld m1 S1 H1 f1 i d e1 x H3 y
              refine ⟨m1, S1, d, ρ1, ρ2, g3.rs, g3.re re1, rv, e2, fun σ' re' => ?_⟩
              refine ⟨m1, S1, ρ2, g3.rs, re', ?_⟩
              cases e3 : b ρ2 S1 with
              | nx ρ' S3 => simp only [e3] at q1; exact fun m4 H4 σ4 g4 p => ⟨m4, S3, ρ', (f1.trans g3).trans g4, p, AftS.shift (g3.trans g4) q1⟩
              | ct ρ' S3 => simp only [e3] at q1; exact fun m4 H4 σ4 g4 p => ⟨m4, S3, ρ', (f1.trans g3).trans g4, p, AftS.shift (g3.trans g4) q1⟩
              | bk ρ' S3 => simp only [e3] at q1; exact fun m4 H4 σ4 g4 p => q1 m4 H4 σ4 (g3.trans g4) p
              | rt d S3 => simp only [e3] at q1; exact AftS.shift g3 q1
              | ex C d ρ' S3 => simp only [e3] at q1; exact AftS.shift g3 q1
              | er => simp only [e3] at q1; exact q1
/-- fixed items -/
def seqSrc (ds : List D) : Src := ⟨fun i _ => some ds[i]?, ds.length⟩
/-- the items of a list as it stands -/
def lstSrc (n : Nat) (b : Nat) : Src := ⟨fun i S => (lstOf S n).map fun ds => ds[i]?, b⟩
def iSeq (f : Ex) : Ix := bnd f fun d _ S => match d with
  | .tup ds => .ok (seqSrc ds) S
  | _ => .er
def iLst (f : Ex) : Ix := bnd f fun d _ S => match d with
  | .loc n => match lstOf S n with
    | some ds => .ok (lstSrc n ds.length) S
    | none => .er
  | _ => .er
theorem tI_bind {α β : Type} {K : PySem.W.Frag} {P : (Nat → Addr) → Nat → Hp → α → β → Prop} {f : Env → Store → R α} {k : α → Env → Store → R Src} {σ : St} {H : Hp} {Rr : It → Hp → Prop} (h : tI K W (bnd f k) σ H Rr) :
    tX K P W f σ H (fun v H1 => ∃ m1 S1 d ρ, RS K m1 S1 H1 ∧ Renv K m1 S1.length H1 ρ σ ∧ P m1 S1.length H1 d v ∧ match k d ρ S1 with
      | .ok src S' => ∀ m' H' J, Fin K m1 S1 H1 m' S' H' → ItRel K src J m' S' H' → Rr J H'
      | .ex C d S' => ∀ m' H', Fin K m1 S1 H1 m' S' H' → W C (d.map m') σ H'
      | .er => False) := by
  obtain ⟨m, S, ρ, rs, re, h⟩ := h
  refine ⟨m, S, ρ, rs, re, ?_⟩
  unfold bnd at h
  cases e : f ρ S with
  | er => rw [e] at h; exact h
  | ex C d S' => rw [e] at h; exact h
  | ok d S' =>
    rw [e] at h
    intro m' H' v g p
    refine ⟨m', S', d, ρ, g.rs, g.renv re, p, ?_⟩
    simp only [R.bind] at h
    cases e2 : k d ρ S' with
    | er => rw [e2] at h; exact h
    | ex C d S' => rw [e2] at h; exact fun m2 H2 g2 => h m2 H2 (g.trans g2)
    | ok d S' => rw [e2] at h; exact fun m2 H2 J g2 => h m2 H2 J (g.trans g2)
theorem itrel_tup {K : PySem.W.Frag} {m : Nat → Addr} {S : Store} {H : Hp} {a : Addr} {vs : List V} {ds : List D} (q : SqT K H a vs) (r : Rvs K m S.length H ds vs) : ItRel K (seqSrc ds) (Itt K a) m S H where
  go := fun m2 S2 H2 f i d e => by
    obtain ⟨v, hv, _⟩ := r.get (i := i) (d := d) (by simpa [seqSrc] using e)
    exact ⟨vs, v, f.mono a vs q, hv⟩
  yld := fun m2 S2 H2 f i d e x H3 y => by
    obtain ⟨rfl, y⟩ := y
    obtain ⟨v, hv, rv⟩ := r.get (i := i) (d := d) (by simpa [seqSrc] using e)
    have := y vs (f.mono a vs q)
    rw [hv] at this; cases this
    exact ⟨Fin.refl f.rs, f.rv rv⟩
  stop := fun m2 S2 H2 f i e => by
    refine ⟨vs, f.mono a vs q, ?_⟩
    have : ds[i]? = none := by simpa [seqSrc] using e
    rw [r.length]
    exact List.getElem?_eq_none_iff.mp this
theorem itrel_lst {K : PySem.W.Frag} {m : Nat → Addr} {S : Store} {H : Hp} {n b : Nat} (hn : n < S.length) : ItRel K (lstSrc n b) (Itl K (m n)) m S H where
  go := fun m2 S2 H2 f i d e => by
    simp only [lstSrc, Option.map_eq_some_iff] at e
    obtain ⟨ds, e1, e2⟩ := e
    obtain ⟨vs, q, r⟩ := f.rs.list e1
    rw [f.ext n hn] at q
    obtain ⟨v, hv, _⟩ := r.get e2
    exact ⟨vs, v, q, hv⟩
  yld := fun m2 S2 H2 f i d e x H3 y => by
    simp only [lstSrc, Option.map_eq_some_iff] at e
    obtain ⟨ds, e1, e2⟩ := e
    obtain ⟨vs, q, r⟩ := f.rs.list e1
    rw [f.ext n hn] at q
    obtain ⟨v, hv, rv⟩ := r.get e2
    obtain ⟨rfl, y⟩ := y
    have := y vs q
    rw [hv] at this; cases this
    exact ⟨Fin.refl f.rs, rv⟩
  stop := fun m2 S2 H2 f i e => by
    simp only [lstSrc, Option.map_eq_some_iff] at e
    obtain ⟨ds, e1, e2⟩ := e
    obtain ⟨vs, q, r⟩ := f.rs.list e1
    rw [f.ext n hn] at q
    refine ⟨vs, q, ?_⟩
    rw [r.length]
    exact List.getElem?_eq_none_iff.mp e2
theorem mi_tup {f : Ex} (h : ME X W iter f) : MI X W tg iter (iSeq f) := pi_imp (pi_tup h) fun σ H R q => by
  obtain ⟨m, S, ρ, rs, re, q⟩ := tI_bind (P := Rv X.K) (f := f) q
  refine ⟨m, S, ρ, rs, re, q.mono fun v H1 ⟨m1, S1, d, ρ1, rs1, re1, p, q1⟩ => ?_⟩
  cases d <;> first | exact q1.elim | skip
  obtain ⟨a, vs, rfl, qs, r⟩ := p.tup
  exact ⟨a, rfl, ⟨vs, qs⟩, q1 m1 H1 _ (Fin.refl rs1) (itrel_tup qs r)⟩
theorem mi_lst {f : Ex} (h : ME X W iter f) : MI X W tg iter (iLst f) := pi_imp (pi_list h) fun σ H R q => by
  obtain ⟨m, S, ρ, rs, re, q⟩ := tI_bind (P := Rv X.K) (f := f) q
  refine ⟨m, S, ρ, rs, re, q.mono fun v H1 ⟨m1, S1, d, ρ1, rs1, re1, p, q1⟩ => ?_⟩
  cases d <;> first | exact q1.elim | skip
  rename_i n
  cases e : lstOf S1 n with
  | none => simp only [e] at q1
  | some ds =>
    simp only [e] at q1
    obtain ⟨hn, rfl⟩ := p.loc
    obtain ⟨vs, qs, r⟩ := rs1.list e
    exact ⟨m1 n, rfl, ⟨vs, qs⟩, q1 m1 H1 _ (Fin.refl rs1) (itrel_lst hn)⟩
def rngD (lo : Int) (n : Nat) : Src := ⟨fun i _ => some (if i < n then some (.int (lo + i)) else none), n⟩
theorem itrel_rng {K : PySem.W.Frag} {m : Nat → Addr} {S : Store} {H : Hp} {lo : Int} {n : Nat} : ItRel K (rngD lo n) (Itr lo n) m S H where
  go := fun m2 S2 H2 f i d e => by
    simp only [rngD, Option.some.injEq] at e
    split at e
    · assumption
    · cases e
  yld := fun m2 S2 H2 f i d e x H3 y => by
    obtain ⟨rfl, rfl⟩ := y
    simp only [rngD, Option.some.injEq] at e
    split at e
    · cases e; exact ⟨Fin.refl f.rs, rfl⟩
    · cases e
  stop := fun m2 S2 H2 f i e => by
    simp only [rngD, Option.some.injEq] at e
    split at e
    · cases e
    · show n ≤ i; omega
def iRng1 (f : Ax) : Ix := bnd f fun ds _ S => match ds with
  | [.int j] => if -(2 ^ 62) ≤ j ∧ j < 2 ^ 62 then .ok (rngD 0 j.toNat) S else .er
  | _ => .er
def iRng2 (f : Ax) : Ix := bnd f fun ds _ S => match ds with
  | [.int i, .int j] => if -(2 ^ 62) ≤ i ∧ i < 2 ^ 62 ∧ -(2 ^ 62) ≤ j ∧ j < 2 ^ 62 then .ok (rngD i (j - i).toNat) S else .er
  | _ => .er
theorem mi_rng1 {a : Expr} {fa : Ax} {p pos : Pos} (hg : Gl X "range") (hm : X.mg "range" = none) (ha : MA X W [a] fa) (hs : starEach [a] X.env = [(false, eval a X.env)] := by rfl) : MI X W tg (.Call (.Name "range" p) [a] [] pos) (iRng1 fa) :=
  pi_imp (pi_range1 hg hm ha hs) fun σ H R q => by
    obtain ⟨m, S, ρ, rs, re, q⟩ := tI_bind (P := Rvs X.K) (f := fa) q
    refine ⟨m, S, ρ, rs, re, q.mono fun v H1 ⟨m1, S1, ds, ρ1, rs1, re1, p1, q1⟩ => ?_⟩
    split at q1
    · rename_i src S2 hh
      split at hh
      · rename_i j
        split at hh
        · rename_i hj
          cases hh
          simp only [Rvs] at p1
          obtain ⟨v1, _, rfl, rfl, rfl⟩ := p1
          exact ⟨_, rfl, hj.1, hj.2, q1 m1 H1 _ (Fin.refl rs1) itrel_rng⟩
        · cases hh
      · cases hh
    · rename_i hh
      split at hh
      · split at hh <;> cases hh
      · cases hh
    · exact q1.elim
theorem mi_rng2 {a b : Expr} {fa : Ax} {p pos : Pos} (hg : Gl X "range") (hm : X.mg "range" = none) (ha : MA X W [a, b] fa) (hs : starEach [a, b] X.env = [(false, eval a X.env), (false, eval b X.env)] := by rfl) (hs2 : starEach [b] X.env = [(false, eval b X.env)] := by rfl) : MI X W tg (.Call (.Name "range" p) [a, b] [] pos) (iRng2 fa) :=
  pi_imp (pi_range2 hg hm ha hs hs2) fun σ H R q => by
    obtain ⟨m, S, ρ, rs, re, q⟩ := tI_bind (P := Rvs X.K) (f := fa) q
    refine ⟨m, S, ρ, rs, re, q.mono fun v H1 ⟨m1, S1, ds, ρ1, rs1, re1, p1, q1⟩ => ?_⟩
    split at q1
    · rename_i src S2 hh
      split at hh
      · rename_i i j
        split at hh
        · rename_i hj
          cases hh
          simp only [Rvs] at p1
          obtain ⟨v1, _, rfl, rfl, v2, _, rfl, rfl, rfl⟩ := p1
          exact ⟨_, _, rfl, hj, q1 m1 H1 _ (Fin.refl rs1) itrel_rng⟩
        · cases hh
      · cases hh
    · rename_i hh
      split at hh
      · split at hh <;> cases hh
      · cases hh
    · exact q1.elim
end
end M1

end

section
set_option maxRecDepth 100000
set_option maxHeartbeats 2000000
/-! M5: defs, calls, methods, new instances, fields stored -/
namespace M1
open PySem PySem.Spec PyProof.Rows L2

abbrev Fn := List D → Store → R D
def startE (N : Nat) (ds : List D) : Env := ds.map some ++ List.replicate (N - ds.length) none
def mkFn (n N : Nat) (b : Sm) : Fn := fun ds S => if ds.length = n then match b (startE N ds) S with
    | .nx _ S' => .ok .non S'
    | .rt d S' => .ok d S'
    | .ex C d _ S' => .ex C d S'
    | _ => .er
  else .er
/-- a def's promise by its mirror -/
def AftF (K : PySem.W.Frag) (r : R D) (m : Nat → Addr) (S : Store) (H : Hp) (Q : VK) (E : XK) : Prop :=
  match r with
  | .ok d S' => ∀ m' H' v, Fin K m S H m' S' H' → Rv K m' S'.length H' d v → Q v H'
  | .ex C d S' => ∀ m' H', Fin K m S H m' S' H' → E C (d.map m') H'
  | .er => False
def spM (K : PySem.W.Frag) (n : Nat) (F : Fn) : Sp := fun vs H Q E => vs.length = n ∧ ∃ m S ds, RS K m S H ∧ Rvs K m S.length H ds vs ∧ AftF K (F ds S) m S H Q E

section
variable {P : Program} {w : World} {K : PySem.W.Frag} {mg : Str → Option Value} {base : Heap} {x qual : Str} {params : Arguments} {body : List Stmt} {scope : Scope} {dvs : List V} {kws : List (Str × V)} {f : Addr} {fd : FuncData}
theorem re_start {m : Nat → Addr} {S : Store} {H : Hp} {N : List Str} {ds : List D} {vs : List V} (r : Rvs K m S.length H ds vs) : RE K m S.length H (startE N.length ds) (L2.start N vs) := by
  have l := r.length
  refine ⟨by simp [startE, L2.start, l], fun i d e => ?_⟩
  unfold startE at e
  by_cases hi : i < ds.length
  · rw [List.getElem?_append_left (by simpa using hi), List.getElem?_map] at e
    cases e1 : ds[i]? with
    | none => rw [e1] at e; cases e
    | some x =>
      rw [e1] at e
      cases e
      obtain ⟨v, h1, h2⟩ := r.get e1
      refine ⟨v, ?_, h2⟩
      unfold L2.start
      rw [List.getElem?_append_left (by rw [List.length_map, l]; exact hi), List.getElem?_map, h1]
      rfl
  · rw [List.getElem?_append_right (by simpa using hi), List.getElem?_replicate] at e
    split at e <;> cases e
theorem fn_mk {N ps : List Str} {k : Nat} {b : Sm} (F : FunD K x qual params body scope dvs kws f fd) (S : FnScope N ps scope)
    (hb : ∀ (cdv : Value) (A : Around) (outer : List PySem.Env) (s : Shared) (H : Hp) (E : XK), Room k (A.deeper (envOfC qual scope s.heap.objs.size f cdv)) →
      MSs (cxOf (L2.CX P w) P w K mg base N qual scope f cdv A outer s H E) (fun cls d _ H => E cls d H) body b) :
    FnOk P w K mg base (L2.CX P w) (k + 1) f fd ps (spM K ps.length (mkFn ps.length N.length b)) := by
  refine F.ok S (fun vs H Q E h => h.1) fun cdv A outer s H vs Q E hr h => ⟨_, hb cdv A outer s H E hr, ?_⟩
  obtain ⟨hl, m, S', ds, rs, r, q⟩ := h
  have l := r.length
  refine ⟨m, S', startE N.length ds, rs, re_start r, ?_⟩
  unfold mkFn at q
  rw [if_pos (by omega)] at q
  cases e : b (startE N.length ds) S' with
  | nx ρ S2 => rw [e] at q; exact fun m' H' σ' g _ => q m' H' _ g rfl
  | rt d S2 => rw [e] at q; exact q
  | bk ρ S2 => rw [e] at q; exact q.elim
  | ct ρ S2 => rw [e] at q; exact q.elim
  | ex C d ρ S2 => rw [e] at q; exact fun m' H' σ' g _ => q m' H' g
  | er => rw [e] at q; exact q.elim
end

/-! ### what a caller knows of a def, of a method, of a class -/
def LenOk (n : Nat) (F : Fn) : Prop := ∀ ds S, ds.length ≠ n → F ds S = .er
theorem lenOk_mk {n N : Nat} {b : Sm} : LenOk n (mkFn n N b) := fun ds S h => by unfold mkFn; rw [if_neg h]
structure Cal (P : Program) (w : World) (K : PySem.W.Frag) (mg : Str → Option Value) (base : Heap) (k : Nat) (x : Str) (F : Fn) (dd : List D) : Prop where
  ex : ∃ (n : Nat) (f : Addr) (fd : FuncData) (ps : List Str) (dvs : List V) (ds : List Value), LenOk n F ∧ FnOk P w K mg base (L2.CX P w) k f fd ps (spM K n F) ∧ mg x = some (.ref f) ∧ PySem.W.keepIn K (.ref f) = true ∧ Binds K fd ps ds ∧ Vals dvs ds ∧ ∀ m N H, Rvs K m N H dd dvs
structure Met (P : Program) (w : World) (K : PySem.W.Frag) (mg : Str → Option Value) (base : Heap) (k : Nat) (C : Addr) (x : Str) (F : Fn) (dd : List D) : Prop where
  ex : ∃ (n : Nat) (f : Addr) (fd : FuncData) (ps : List Str) (dvs : List V) (ds : List Value), LenOk n F ∧ FnOk P w K mg base (L2.CX P w) k f fd ps (spM K n F) ∧ Cls K C ∧ Meth K C x f ∧ Binds K fd ps ds ∧ Vals dvs ds ∧ ∀ m N H, Rvs K m N H dd dvs
structure Mak (P : Program) (w : World) (K : PySem.W.Frag) (mg : Str → Option Value) (base : Heap) (k : Nat) (x : Str) (C : Addr) (F : Fn) (dd : List D) : Prop where
  ex : ∃ (n : Nat) (f : Addr) (fd : FuncData) (ps : List Str) (dvs : List V) (ds : List Value), LenOk n F ∧ FnOk P w K mg base (L2.CX P w) k f fd ps (spM K n F) ∧ mg x = some (.ref C) ∧ Mk K C f ∧ Binds K fd ps ds ∧ Vals dvs ds ∧ ∀ m N H, Rvs K m N H dd dvs

section
variable {X : Cx} {W : WX} {k j : Nat} {x mm : Str} {p pos apos : Pos} {e o : Expr} {es : List Expr} {F : Fn} {dd : List D} {fa : Ax} {fo : Ex} {C : Addr}
theorem Aft.toF {K : PySem.W.Frag} {r : R D} {m : Nat → Addr} {S : Store} {H : Hp} {σ : St} {Q : VK} (h : AftE K W r m S H σ Q) : AftF K r m S H Q (WE W σ) := by
  cases r with
  | ok d S' => exact h
  | ex C d S' => exact h
  | er => exact h
theorem AftF.len {K : PySem.W.Frag} {n : Nat} {m : Nat → Addr} {S : Store} {H : Hp} {Q : VK} {E : XK} {ds : List D} (hl : LenOk n F) (h : AftF K (F ds S) m S H Q E) : ds.length = n := by
  by_cases e : ds.length = n
  · exact e
  · rw [hl ds S e] at h; exact h.elim
def eF (F : Fn) (dd : List D) (fa : Ax) : Ex := bnd fa fun ds _ S => F (ds ++ dd) S
/-- the promise at the arguments that are there -/
theorem spM_at {K : PySem.W.Frag} {n : Nat} {m : Nat → Addr} {S : Store} {H : Hp} {σ : St} {Q : VK} {ds : List D} {vs : List V} (hl : LenOk n F) (rs : RS K m S H) (r : Rvs K m S.length H ds vs) (q : AftE K W (F ds S) m S H σ Q) : spM K n F vs H Q (WE W σ) :=
  ⟨by rw [r.length]; exact AftF.len hl q.toF, m, S, ds, rs, r, q.toF⟩
theorem me_call (c : Cal X.prog X.w X.K X.mg X.base k x F dd) (hr : Room j X.A) (hk : k ≤ j) (tk : Takes X W) (hg : Gl X x) (ha : MA X W (e :: es) fa)
    (hdb : (x == ("__debug__" : Str)) = false := by decide) (he : starEach (e :: es) X.env = (false, eval e X.env) :: starEach es X.env := by rfl) (hpl : (backTo pos (starEach es X.env)).any (·.1) = false := by rfl) : ME X W (.Call (.Name x p) (e :: es) [] pos) (eF F dd fa) := by
  obtain ⟨n, f, fd, ps, dvs, ds, hl, G, hm, hkp, hb, hd, hdd⟩ := c.ex
  refine pe_imp (pe_callSD (E := WE W) G (hr.mono hk) hg hm hkp hb hd (fun σ => passAt tk σ) ha hdb he hpl) fun σ H Q q => ?_
  obtain ⟨m, S, ρ, rs, re, q⟩ := tX_bind (P := Rvs X.K) (f := fa) q
  exact ⟨m, S, ρ, rs, re, q.mono fun vs H1 ⟨m1, S1, ds1, ρ1, rs1, re1, p, q1⟩ => spM_at hl rs1 (p.append (hdd _ _ _)) q1⟩
/-- f() -/
def noX : R D → R D
  | .ok d S => .ok d S
  | _ => .er
def eF0 (F : Fn) (dd : List D) : Ex := fun _ S => noX (F dd S)
theorem me_call0 (c : Cal X.prog X.w X.K X.mg X.base k x F dd) (hr : Room j X.A) (hk : k ≤ j) (hg : Gl X x) (hdb : (x == ("__debug__" : Str)) = false := by decide) : ME X W (.Call (.Name x p) [] [] pos) (eF0 F dd) := by
  obtain ⟨n, f, fd, ps, dvs, ds, hl, G, hm, hkp, hb, hd, hdd⟩ := c.ex
  refine pe_imp (pe_call0 (E := E0) G (hr.mono hk) hg hm hkp hb hd passL hdb) fun σ H Q ⟨m, S, ρ, rs, re, q⟩ => ?_
  have q2 : AftF X.K (F dd S) m S H Q E0 := by
    unfold eF0 noX at q
    cases e : F dd S with
    | ok d S' => rw [e] at q; exact q
    | ex C d S' => rw [e] at q; exact q.elim
    | er => rw [e] at q; exact q
  exact ⟨by rw [List.nil_append, (hdd m S.length H).length]; exact AftF.len hl q2, m, S, dd, rs, hdd _ _ _, q2⟩

/-! ### methods -/
theorem Rk.none {K : PySem.W.Frag} {m : Nat → Addr} {N : Nat} {H : Hp} : ∀ {fs : List (Str × D)} {vs : List (Str × V)} {f : Str}, Rk K m N H fs vs → fs.lookup f = Option.none → vs.lookup f = Option.none
  | [], _, _, r, _ => by simp only [Rk] at r; subst r; rfl
  | (k, x) :: fs, _, f, r, e => by
    simp only [Rk] at r
    obtain ⟨v, r', rfl, r1, r2⟩ := r
    rw [List.lookup_cons] at e ⊢
    cases h : f == k with
    | true => rw [h] at e; cases e
    | false => rw [h] at e; exact Rk.none r2 e
/-- a method's name is no field of the instance -/
def metOf (C : Addr) (mm : Str) (S : Store) (d : D) : Bool := match insOf [C] S d with
  | some (_, fs) => (fs.lookup mm).isNone
  | none => false
def tMethS (C : Addr) (m : Str) (sp : Sp) (dvs : List V) (E : St → XK) (ta : TE) (t : TA) : TE := fun σ H Q => ta σ H fun x H1 => ∃ a dx fs, x = .ref a ∧ H1 a = some (.ins C dx fs) ∧ fs.lookup m = none ∧
  t σ H1 fun vs H2 => sp (x :: (vs ++ dvs)) H2 Q (E σ)
theorem pe_methSD {CX : CXT} {f : Addr} {fd : FuncData} {ps : List Str} {sp : Sp} {dvs : List V} {ds : List Value} {E : St → XK} {ta : TE} {t : TA} {pl : Sem Bool} (he : PE X o ta) (c : Cls X.K C) (hm : Meth X.K C mm f) (F : FnOk X.prog X.w X.K X.mg X.base CX k f fd ps sp) (hr : Room k X.A) (hb : Binds X.K fd ps ds) (hd : Vals dvs ds) (hx : ∀ σ, PassesAt CX X σ (E σ)) (ha : PA X (e :: es) t)
    (hst : starEach (e :: es) X.env = (false, eval e X.env) :: starEach es X.env := by rfl) (hpl : (backTo pos (starEach es X.env)).any (·.1) = false := by rfl)
    (ht : eval (.Call (.Attribute o mm apos) (e :: es) [] pos) X.env = (do
      let ov ← eval o X.env
      standAt apos.atName
      let (f, first) ← holding [ov] (getMethod ov mm pl)
      callWith pos f first (backTo pos (starEach (e :: es) X.env)) (backToKw pos (keywordEach [] X.env))) := by rfl) :
    PE X (.Call (.Attribute o mm apos) (e :: es) [] pos) (tMethS C mm sp dvs E ta t) := by
  refine ⟨fun pins s σ H Q I h => ?_⟩
  refine PySem.W.methodCall_KW (pl := pl) (thn (he.run pins s σ H _ I h) fun u s1 ⟨x, H1, I1, rx, a, dx, fs, ex, ea, l, q⟩ => ?_) ht
  subst ex
  obtain rfl : u = Value.ref a := rx
  refine getmeth_ok I1 ea c hm l ?_
  refine PySem.W.callWith_K (first := [.ref a]) (h₀ := X.base) I.ok.mod.kin hm.kp (thn (ha.run pos pins s1 σ H1 _ I1 q) fun us s2 ⟨vs, H2, I2, r, q2⟩ => ⟨I2.kIn, ?_⟩) hst hpl
  exact run_fnSD (us := .ref a :: us) (vs := .ref a :: vs) F hr hb hd (hx σ) I2 (.cons rfl r) q2
def eM (C : Addr) (mm : Str) (F : Fn) (dd : List D) (fo : Ex) (fa : Ax) : Ex := bnd fo fun o ρ S1 => if metOf C mm S1 o = true then (fa ρ S1).bind fun ds S2 => F (o :: (ds ++ dd)) S2 else .er
theorem met_at {K : PySem.W.Frag} {m : Nat → Addr} {S : Store} {H : Hp} {d : D} {v : V} (rs : RS K m S H) (r : Rv K m S.length H d v) (e : metOf C mm S d = true) : ∃ a dx vs, v = .ref a ∧ H a = some (.ins C dx vs) ∧ vs.lookup mm = none := by
  unfold metOf at e
  cases e1 : insOf [C] S d with
  | none => rw [e1] at e; cases e
  | some pr =>
    obtain ⟨C', fs⟩ := pr
    rw [e1] at e
    obtain ⟨n, dx, vs, rfl, rfl, _, hc, q, r2⟩ := rs.ins r e1
    have : C' = C := by simpa using hc
    subst this
    exact ⟨m n, dx, vs, rfl, q, r2.none (by simpa using e)⟩
theorem me_meth {pl : Sem Bool} (c : Met X.prog X.w X.K X.mg X.base k C mm F dd) (hr : Room j X.A) (hk : k ≤ j) (tk : Takes X W) (ho : ME X W o fo) (ha : MA X W (e :: es) fa)
    (hst : starEach (e :: es) X.env = (false, eval e X.env) :: starEach es X.env := by rfl) (hpl : (backTo pos (starEach es X.env)).any (·.1) = false := by rfl)
    (ht : eval (.Call (.Attribute o mm apos) (e :: es) [] pos) X.env = (do
      let ov ← eval o X.env
      standAt apos.atName
      let (f, first) ← holding [ov] (getMethod ov mm pl)
      callWith pos f first (backTo pos (starEach (e :: es) X.env)) (backToKw pos (keywordEach [] X.env))) := by rfl) : ME X W (.Call (.Attribute o mm apos) (e :: es) [] pos) (eM C mm F dd fo fa) := by
  obtain ⟨n, f, fd, ps, dvs, ds, hl, G, cl, hm, hb, hd, hdd⟩ := c.ex
  refine pe_imp (pe_methSD (E := WE W) ho cl hm G (hr.mono hk) hb hd (fun σ => passAt tk σ) ha hst hpl ht) fun σ H Q q => ?_
  obtain ⟨m, S, ρ, rs, re, q⟩ := tX_bind (P := Rv X.K) (f := fo) q
  refine ⟨m, S, ρ, rs, re, q.mono fun v H1 ⟨m1, S1, d, ρ1, rs1, re1, p, q1⟩ => ?_⟩
  split at q1
  · rename_i hmt
    obtain ⟨a, dx, vs, rfl, ha2, hno⟩ := met_at rs1 p hmt
    refine ⟨a, dx, vs, rfl, ha2, hno, m1, S1, ρ1, rs1, re1, (Aft.bind (P := Rvs X.K) q1).mono fun us H2 ⟨m2, S2, ds2, g2, p2, q2⟩ => ?_⟩
    exact spM_at hl g2.rs (.cons (g2.rv p) (p2.append (hdd _ _ _))) q2
  · exact q1.elim
theorem pe_methSD0 {CX : CXT} {f : Addr} {fd : FuncData} {ps : List Str} {sp : Sp} {dvs : List V} {ds : List Value} {E : St → XK} {ta : TE} {pl : Sem Bool} (he : PE X o ta) (c : Cls X.K C) (hm : Meth X.K C mm f) (F : FnOk X.prog X.w X.K X.mg X.base CX k f fd ps sp) (hr : Room k X.A) (hb : Binds X.K fd ps ds) (hd : Vals dvs ds) (hx : ∀ σ, PassesAt CX X σ (E σ))
    (ht : eval (.Call (.Attribute o mm apos) [] [] pos) X.env = (do
      let ov ← eval o X.env
      standAt apos.atName
      let (f, first) ← holding [ov] (getMethod ov mm pl)
      callWith pos f first (backTo pos (starEach [] X.env)) (backToKw pos (keywordEach [] X.env))) := by rfl) :
    PE X (.Call (.Attribute o mm apos) [] [] pos) (tMethS C mm sp dvs E ta tNil) := by
  refine ⟨fun pins s σ H Q I h => ?_⟩
  refine PySem.W.methodCall_KW (pl := pl) (thn (he.run pins s σ H _ I h) fun u s1 ⟨x, H1, I1, rx, a, dx, fs, ex, ea, l, q⟩ => ?_) ht
  subst ex
  obtain rfl : u = Value.ref a := rx
  refine getmeth_ok I1 ea c hm l ?_
  exact PySem.W.callWith_K0 (first := [.ref a]) I1.kIn hm.kp (run_fnSD (us := [.ref a]) (vs := [.ref a]) F hr hb hd (hx σ) I1 (.cons rfl .nil) q)
theorem me_meth0 {pl : Sem Bool} (c : Met X.prog X.w X.K X.mg X.base k C mm F dd) (hr : Room j X.A) (hk : k ≤ j) (tk : Takes X W) (ho : ME X W o fo)
    (ht : eval (.Call (.Attribute o mm apos) [] [] pos) X.env = (do
      let ov ← eval o X.env
      standAt apos.atName
      let (f, first) ← holding [ov] (getMethod ov mm pl)
      callWith pos f first (backTo pos (starEach [] X.env)) (backToKw pos (keywordEach [] X.env))) := by rfl) : ME X W (.Call (.Attribute o mm apos) [] [] pos) (eM C mm F dd fo aNil) := by
  obtain ⟨n, f, fd, ps, dvs, ds, hl, G, cl, hm, hb, hd, hdd⟩ := c.ex
  refine pe_imp (pe_methSD0 (E := WE W) ho cl hm G (hr.mono hk) hb hd (fun σ => passAt tk σ) ht) fun σ H Q q => ?_
  obtain ⟨m, S, ρ, rs, re, q⟩ := tX_bind (P := Rv X.K) (f := fo) q
  refine ⟨m, S, ρ, rs, re, q.mono fun v H1 ⟨m1, S1, d, ρ1, rs1, re1, p, q1⟩ => ?_⟩
  split at q1
  · rename_i hmt
    obtain ⟨a, dx, vs, rfl, ha2, hno⟩ := met_at rs1 p hmt
    exact ⟨a, dx, vs, rfl, ha2, hno, spM_at hl rs1 (.cons p (Rvs.append Rvs.nil (hdd _ _ _))) q1⟩
  · exact q1.elim

/-! ### a new instance -/
theorem run_makeS {CX : CXT} {f : Addr} {fd : FuncData} {ps : List Str} {sp : Sp} {dvs : List V} {ds : List Value} {E : XK} {pins : List (Addr × Obj)} {σ : St} {H : Hp} {s : Shared} {Q : VK} {us : List Value} {vs : List V} (M : Mk X.K C f) (F : FnOk X.prog X.w X.K X.mg X.base CX k f fd ps sp) (hr : Room (k + 1) X.A) (hb : Binds X.K fd ps ds) (hd : Vals dvs ds)
    (hx : PassesAt CX X σ E) (I : Inv X pins σ H s) (r : Vals vs us)
    (h : ∀ x dx, H x = none → H dx = none → dx ≠ x → sp (.ref x :: (vs ++ dvs)) (upd (upd H dx (.own x)) x (.ins C dx [])) (fun v H2 => v = .non ∧ Q (.ref x) H2) E) :
    wpAny (model X.prog X.w) X.A (call (.ref C) us) (EP X pins σ Q) X.xe s := by
  have hq := h (s.heap.objs.size + 1) s.heap.objs.size (I.hok.fresh (Nat.le_succ _)) (I.hok.fresh (Nat.le_refl _)) (Nat.ne_of_lt (Nat.lt_succ_self _))
  have I2 := Inv.made (C := C) I
  have r2 : Vals (V.ref (s.heap.objs.size + 1) :: (vs ++ dvs)) (Value.ref (s.heap.objs.size + 1) :: (us ++ ds)) := .cons rfl (r.append hd)
  have hl : (Value.ref (s.heap.objs.size + 1) :: us ++ ds).length = ps.length := by
    have e := r2.length
    rw [F.len _ _ _ _ hq] at e
    exact e.symm
  refine wpAny_call (make_map (f := f) I.kIn M.makes M.init (beq_iff_eq.mp M.fn) (codeAny_mono (F.run _ X.stack _ _ ⟨Value.ref (s.heap.objs.size + 1) :: us, []⟩ (Value.ref (s.heap.objs.size + 1) :: (us ++ ds)) _ _ E (hr.make C us [])
    (I2.env0.make C us []) (hb _ (Value.ref (s.heap.objs.size + 1) :: us) I2.kIn hl) r2 hq) fun r s' hq' => ?_))
  cases r with
  | error e => exact hx pins _ _ e s' I2 hq'
  | ok fl =>
    cases fl with
    | ret u =>
      obtain ⟨v, H', I3, rv, ev, q3⟩ := I2.after hq'
      subst ev
      exact ⟨rv, ⟨V.ref (s.heap.objs.size + 1), H', I3, rfl, q3⟩⟩
    | next => exact False.elim hq'
    | brk => exact False.elim hq'
    | cont => exact False.elim hq'
def tMakeS (C : Addr) (sp : Sp) (dvs : List V) (E : St → XK) (t : TA) : TE := fun σ H Q => t σ H fun vs H1 => ∀ x dx, H1 x = none → H1 dx = none → dx ≠ x →
  sp (.ref x :: (vs ++ dvs)) (upd (upd H1 dx (.own x)) x (.ins C dx [])) (fun v H2 => v = .non ∧ Q (.ref x) H2) (E σ)
theorem pe_makeSD {CX : CXT} {f : Addr} {fd : FuncData} {ps : List Str} {sp : Sp} {dvs : List V} {ds : List Value} {E : St → XK} {t : TA} (M : Mk X.K C f) (F : FnOk X.prog X.w X.K X.mg X.base CX k f fd ps sp) (hr : Room (k + 1) X.A) (hg : Gl X x) (hm : X.mg x = some (.ref C)) (hb : Binds X.K fd ps ds) (hd : Vals dvs ds) (hx : ∀ σ, PassesAt CX X σ (E σ))
    (ha : PA X (e :: es) t) (hdb : (x == ("__debug__" : Str)) = false := by decide) (he : starEach (e :: es) X.env = (false, eval e X.env) :: starEach es X.env := by rfl) (hpl : (backTo pos (starEach es X.env)).any (·.1) = false := by rfl) :
    PE X (.Call (.Name x p) (e :: es) [] pos) (tMakeS C sp dvs E t) := by
  refine ⟨fun pins s σ H Q I h => ?_⟩
  refine wpAny_Call_Name_kw (ld_glob I hg hm ?_ hdb)
  refine PySem.W.callWith_K (h₀ := X.base) I.ok.mod.kin M.kp (thn (ha.run pos pins s σ H _ I h) fun us s1 ⟨vs, H1, I1, r, q⟩ => ⟨I1.kIn, ?_⟩) he hpl
  exact run_makeS M F hr hb hd (hx σ) I1 r q
def eMk (C : Addr) (F : Fn) (dd : List D) (fa : Ax) : Ex := bnd fa fun ds _ S1 => (F (.loc S1.length :: (ds ++ dd)) (S1 ++ [.ins C []])).bind fun r S2 => match r with
  | .non => .ok (.loc S1.length) S2
  | _ => .er
theorem made_at {K : PySem.W.Frag} {n : Nat} {m : Nat → Addr} {S : Store} {H : Hp} {σ : St} {Q : VK} {ds : List D} {vs : List V} (hl : LenOk n F) (rs : RS K m S H) (r : Rvs K m S.length H ds vs)
    (q : AftE K W ((F (.loc S.length :: ds) (S ++ [.ins C []])).bind fun r S2 => match r with | .non => .ok (.loc S.length) S2 | _ => .er) m S H σ Q) {x dx : Addr} (hx : H x = none) (hdx : H dx = none) (ne : dx ≠ x) :
    spM K n F (.ref x :: vs) (upd (upd H dx (.own x)) x (.ins C dx [])) (fun v H2 => v = .non ∧ Q (.ref x) H2) (WE W σ) := by
  have f1 : Fin K m S H m S (upd H dx (.own x)) := Fin.junk rs hdx
  have hx1 : (upd H dx (.own x)) x = none := by rw [upd_ne (Ne.symm ne)]; exact hx
  have f2 : Fin K m S (upd H dx (.own x)) (ext1 m S.length x) (S ++ [.ins C []]) (upd (upd H dx (.own x)) x (.ins C dx [])) := Fin.new f1.rs hx1 ⟨dx, [], upd_same, by simp only [Rk]⟩
  have f := f1.trans f2
  have rl : Rv K (ext1 m S.length x) (S ++ [SO.ins C []]).length (upd (upd H dx (.own x)) x (.ins C dx [])) (.loc S.length) (.ref x) := by
    have := Rv.mk_loc (K := K) (m := ext1 m S.length x) (N := (S ++ [SO.ins C []]).length) (H := upd (upd H dx (.own x)) x (.ins C dx [])) (n := S.length) (by simp)
    rw [ext1_new] at this
    exact this
  have rr := Rvs.cons rl (f.rvs r)
  have key : AftF K (F (.loc S.length :: ds) (S ++ [.ins C []])) (ext1 m S.length x) (S ++ [.ins C []]) (upd (upd H dx (.own x)) x (.ins C dx [])) (fun v H2 => v = .non ∧ Q (.ref x) H2) (WE W σ) := by
    have q2 := Aft.shift f q
    cases e : F (.loc S.length :: ds) (S ++ [.ins C []]) with
    | ok d S' =>
      rw [e] at q2
      simp only [R.bind] at q2
      intro m' H' v g p
      cases d <;> first | exact q2.elim | skip
      cases p
      refine ⟨rfl, ?_⟩
      exact q2 m' H' _ g (g.rv rl)
    | ex C d S' => rw [e] at q2; exact q2
    | er => rw [e] at q2; exact q2
  exact ⟨by rw [rr.length]; exact AftF.len hl key, _, _, _, f.rs, rr, key⟩
theorem me_make (c : Mak X.prog X.w X.K X.mg X.base k x C F dd) (hr : Room j X.A) (hk : k + 1 ≤ j) (tk : Takes X W) (hg : Gl X x) (ha : MA X W (e :: es) fa)
    (hdb : (x == ("__debug__" : Str)) = false := by decide) (he : starEach (e :: es) X.env = (false, eval e X.env) :: starEach es X.env := by rfl) (hpl : (backTo pos (starEach es X.env)).any (·.1) = false := by rfl) : ME X W (.Call (.Name x p) (e :: es) [] pos) (eMk C F dd fa) := by
  obtain ⟨n, f, fd, ps, dvs, ds, hl, G, hm, M, hb, hd, hdd⟩ := c.ex
  refine pe_imp (pe_makeSD (E := WE W) M G (hr.mono hk) hg hm hb hd (fun σ => passAt tk σ) ha hdb he hpl) fun σ H Q q => ?_
  obtain ⟨m, S, ρ, rs, re, q⟩ := tX_bind (P := Rvs X.K) (f := fa) q
  exact ⟨m, S, ρ, rs, re, q.mono fun vs H1 ⟨m1, S1, ds1, ρ1, rs1, re1, p, q1⟩ a dx ha hdx ne => made_at hl rs1 (p.append (hdd _ _ _)) q1 ha hdx ne⟩

/-! ### fields stored -/
def sFld (cs : List Addr) (fo : Ex) (nm : Str) (fv : Ex) : Sm := sE fv fun v ρ S => (fo ρ S).out ρ fun o S2 => match o, insOf cs S2 o with
  | .loc n, some (C, fs) => if fs.length < 1000 then .nx ρ (S2.set n (.ins C (putD nm v fs))) else .er
  | _, _ => .er
theorem ms_fld {nm : Str} {value : Expr} {pos' : Pos} {cs : List Addr} {fv : Ex} (ho : ME X W o fo) (hv : ME X W value fv) (hcs : ∀ C ∈ cs, Cls X.K C ∧ NoAttr X.K C nm) (hs : swapsWith value (some (.Attribute o nm pos')) pos.line X.env = pure false := by rfl) : MS X W (.Assign [.Attribute o nm pos'] value pos) (sFld cs fo nm fv) := by
  refine ps_imp (ps_fld ho hv hs) fun E σ H q => ?_
  obtain ⟨m, S, ρ, rs, re, q⟩ := tS_bind (P := Rv X.K) (f := fv) q
  refine ⟨m, S, ρ, rs, re, q.mono fun v H1 ⟨m1, S1, d, ρ1, rs1, re1, p, q1⟩ => ?_⟩
  have q2 : tS X.K W (sE fo fun o ρ S2 => match o, insOf cs S2 o with
    | .loc n, some (C, fs) => if fs.length < 1000 then .nx ρ (S2.set n (.ins C (putD nm d fs))) else .er
    | _, _ => .er) E σ H1 := ⟨m1, S1, ρ1, rs1, re1, q1⟩
  clear q2
  refine ⟨m1, S1, ρ1, rs1, re1.at_, ?_⟩
  cases e1 : fo ρ1 S1 with
  | er => rw [e1] at q1; exact q1
  | ex C d S' => rw [e1] at q1; exact fun m' H' g => q1 m' H' σ g (g.re re1)
  | ok o2 S2 =>
    rw [e1] at q1
    intro m2 H2 u g2 p2
    have q3 := AftS.shift g2 q1
    simp only [R.out] at q3
    split at q3
    · rename_i n C fs hi
      split at q3
      · rename_i hz
        obtain ⟨n', dx, vs, en, rfl, hS, hc, hH, r2⟩ := g2.rs.ins p2 hi
        cases en
        refine ⟨m2 n, C, dx, vs, rfl, hH, (hcs C hc).1, (hcs C hc).2, by rw [r2.length]; exact hz, ?_⟩
        have mo : Mono X.K H2 (upd H2 (m2 n) (.ins C dx (putF nm v vs))) := Mono.write hH (fun _ z => by cases z) (fun _ _ z => by cases z)
        have fw : Fin X.K m2 S2 H2 m2 (S2.set n (.ins C (putD nm d fs))) (upd H2 (m2 n) (.ins C dx (putF nm v vs))) :=
          Fin.write g2.rs hS rfl ⟨dx, _, upd_same, (r2.up (Nat.le_refl _) (fun _ _ => rfl) mo).put ((g2.rv p).up (Nat.le_refl _) (fun _ _ => rfl) mo)⟩
        exact q3 m2 _ σ fw (fw.re (g2.re re1))
      · exact q3.elim
    · exact q3.elim
end
end M1

end

section
set_option maxRecDepth 100000
set_option maxHeartbeats 2000000
/-! M6a: an exception out of a comprehension's block -/
namespace M1
open PySem PySem.Spec PyProof.Rows L2

section
variable {M : Model} {A : Around} {E : Value → Shared → Prop} {s : Shared} {Z : Obj → Prop} {base : Heap} {env : Env} {outer l : List PySem.Env} {L e : Addr}
/-- noted from another frame's hand -/
theorem looks_atZ {Q : Unit → Shared → Prop} {env : PySem.Env} {fl : Value} (hZ : HandSPX.Steady Z) (hfr : A.frames = some (env :: outer)) (hf : env.frame = some L) (hkb : base.StaysIn s.heap) (hen : base.get? e = none) (hl : s.heap.FunFrames base (env :: outer)) (ht : HandSPX.TracedZ s.heap base e Z fl) (hne : (fl == rawInt L) = false)
    (hQ : ∀ h', HandSPX.HeldZ base (env :: outer) e Z L h' → s.heap.UpToSlots h' → Q () { s with heap := h' }) : wpAny M A (noteFrame (.ref e) env) Q E s := by
  obtain ⟨oe, vs, T, oT, ts, he, hz, hd, h1, hnT, hTe, hT, hdT, h3⟩ := ht
  unfold noteFrame
  simp only [hf]
  refine wpAny_bind (wpAny_field he hd h1 ?_)
  rw [if_pos (show (Value.ref T != Value.none) = true from by simp)]
  refine wpAny_bind (wpAny_field hT hdT h3 ?_)
  rw [if_neg (by rw [hne]; decide)]
  refine wpAny_bind (wpAny_setField hT hdT (Array.getElem?_eq_some_iff.mp h3).1 ?_)
  have other : ∀ b, b ≠ T → (s.heap.update T (Obj.mapFields (·.setIfInBounds 3 Value.none))).get? b = s.heap.get? b := fun b hb => Heap.get?_update_other _ _ (Ne.symm hb)
  have noRecord : ∀ b o, s.heap.get? b = some o → (∀ vs, o.data ≠ .fields vs) → b ≠ T := fun b o hb hnf q => by
    rw [q, hT] at hb; injection hb with hb; subst hb; exact hnf ts hdT
  refine HandSPX.wpAny_entryZ hZ hfr (hl.of_keeps fun b o hb hnf => ⟨o, (other b (noRecord b o hb hnf)).trans hb, rfl⟩) hf ((other e (Ne.symm hTe)).trans he)
    (fun b o hbo => (other b fun q => by rw [q, hnT] at hbo; cases hbo).trans (hkb b o hbo)) hen hd (Array.getElem?_eq_some_iff.mp h1).1 hz fun h' hN => ?_
  obtain ⟨x1, x2, x3, x4⟩ := hN
  exact hQ h' ⟨x1, hen, x2, x3⟩ fun b o hb hnf => x4 b o ((other b (noRecord b o hb hnf)).trans hb) hnf
theorem traced_hide {h h' : Heap} {C : Addr} {fl : Value} {m : Str → Option Value} (x : HandSPX.TracedZ h base e Z fl) (hn : h.Ns C m) (hs : Heap.SameBut C h h') : HandSPX.TracedZ h' (PySem.W.hideAll base [C]) e Z fl := by
  obtain ⟨oe, vs, T, oT, ts, he, hc, hd, h1, hnT, hTe, hT, hdT, h3⟩ := x
  obtain ⟨oL, es, ep, hoL, hdL, _⟩ := hn
  have neE : e ≠ C := fun q => by
    rw [q, hoL] at he
    have z := Option.some.inj he
    rw [← z, hdL] at hd
    cases hd
  have neT : T ≠ C := fun q => by
    rw [q, hoL] at hT
    have z := Option.some.inj hT
    rw [← z, hdL] at hdT
    cases hdT
  refine ⟨oe, vs, T, oT, ts, (hs.2 e neE).trans he, hc, hd, h1, ?_, hTe, (hs.2 T neT).trans hT, hdT, h3⟩
  cases q : (PySem.W.hideAll base [C]).get? T with
  | none => rfl
  | some o => have z := PySem.W.of_hideAll _ q; rw [hnT] at z; cases z
end

section
variable {X : Cx} {W : WX} {pins : List (Addr × Obj)} {σ : St} {H : Hp} {s : Shared}
/-- the context of a block, what leaves it owed to X -/
abbrev blkX (X : Cx) (s : Shared) (H : Hp) (scope : Scope) (ce : PySem.Env) (fp : List Addr) : Cx :=
  { X.blk s H scope ce fp with xe := notedBy (model X.prog X.w) X.A ce (CompFails (model X.prog X.w) X.A X.xe ce) }
theorem takes_blk {scope : Scope} {ce : PySem.Env} {fp : List Addr} (I3 : Inv X pins σ H s) (hs : X.stack = X.env :: X.outer) (hf : X.env.frame = some X.env.locals) (hcf : ce.frame = X.env.frame) (cL : ce.locals = s.heap.objs.size)
    (f3 : ∀ b ∈ fp, FpOk X pins H b ∧ b < s.heap.objs.size) (tk : Takes X W) : Takes (blkX X s H scope ce fp) (fun cls d _ H' => W cls d σ H') := by
  rintro u s' ⟨a, B, sI, pins', σ', H', cls, d, rfl, I, nb, up, sky, na, os, ag, w⟩
  have hfr : X.A.frames = some (X.env :: X.outer) := by rw [I3.ok.frames, hs]
  have hfree : H' s.heap.objs.size = none := by have z : H' ce.locals = none := I.free; rw [cL] at z; exact z
  have hlt : X.env.locals < s.heap.objs.size := I3.lt
  -- the state without the block
  have noC : ∀ {h : Heap} {b : Addr} {o : Obj}, (PySem.W.hideAll h [s.heap.objs.size]).get? b = some o → b ≠ s.heap.objs.size := fun {h b o} e z => by
    rw [PySem.W.hideAll_none [s.heap.objs.size] (by simp [z])] at e; cases e
  have getC : ∀ {h : Heap} {b : Addr} {o : Obj}, h.get? b = some o → b ≠ s.heap.objs.size → (PySem.W.hideAll h [s.heap.objs.size]).get? b = some o := fun {h b o} e n => PySem.W.hideAll_get _ e (by simpa using n)
  have old : ∀ {b : Addr} {o : Obj}, s.heap.get? b = some o → b ≠ s.heap.objs.size := fun {b o} e => Nat.ne_of_lt (Heap.lt_size e)
  have un : Un (frs X.stack) fp H H' s.heap (PySem.W.hideAll sI.heap [s.heap.objs.size]) := by
    have u := I.base
    refine ⟨fun b o e n hb hx => getC (u.keep b o e n hb hx) (old e), fun b o e n hb hx => ?_, u.free, fun b o e hx => ?_, u.tups, u.frzs, u.tbls⟩
    · obtain ⟨sl, q⟩ := u.slot b o e n hb hx
      exact ⟨sl, getC q (old e)⟩
    · obtain ⟨o', q⟩ := u.there b o e hx
      exact ⟨o', getC q (old e)⟩
  have hok : HOk X.prog X.w H' (PySem.W.hideAll sI.heap [s.heap.objs.size]) := fun b o q =>
    (I.hok b o q).stay (fun c u hc r => getC r fun z => by
      rcases hc with hc | hc
      · rw [← hc, z, hfree] at q; cases q
      · rw [z, hfree] at hc; cases hc) (fun _ r => r) fun _ _ r => r
  have J : Inv X pins σ H' { sI with heap := PySem.W.hideAll sI.heap [s.heap.objs.size] } :=
    I3.call' (ch := fp) (s' := { sI with heap := PySem.W.hideAll sI.heap [s.heap.objs.size] }) I.os un hok I.bare fun b hb => ⟨(f3 b hb).1.2.2.2.1, (f3 b hb).1.2.1, (f3 b hb).1.2.2.2.2.1, (f3 b hb).1.2.2.2.2.2⟩
  obtain ⟨m, hn, _⟩ := I.loc
  have hn : sI.heap.Ns s.heap.objs.size m := by have z : sI.heap.Ns ce.locals m := hn; rw [cL] at z; exact z
  have hn1 : s'.heap.Ns s.heap.objs.size m := up.ns hn
  have fin : ∀ h1, HandSPX.HeldZ B (X.env :: X.outer) a (Zc cls d) X.env.locals h1 → s'.heap.UpToSlots h1 → CompFails (model X.prog X.w) X.A X.xe ce (.ref a) { s' with heap := h1 } := fun h1 hh up1 => by
    refine ⟨m, by rw [cL]; exact up1.ns hn1, fun h2 m2 hn2 hs2 => ?_⟩
    rw [cL] at hn2 hs2
    obtain ⟨b1, b0, f1, t1⟩ := hh
    have t2 := traced_hide t1 (up1.ns hn1) hs2
    have ft2 : h2.FunFrames B (X.env :: X.outer) := Heap.FunFrames.sameBut hs2 hn2 f1
    have hB' : ∀ {b : Addr}, B.get? b = none → (PySem.W.hideAll B [s.heap.objs.size]).get? b = none := fun {b} e => by
      cases q : (PySem.W.hideAll B [s.heap.objs.size]).get? b with
      | none => rfl
      | some o => have z := PySem.W.of_hideAll _ q; rw [e] at z; cases z
    have f2 : h2.FunFrames (PySem.W.hideAll B [s.heap.objs.size]) (X.env :: X.outer) := funFrames_none ft2 fun L hL => hB' (ft2.mem hL).1
    have b2 : (PySem.W.hideAll B [s.heap.objs.size]).StaysIn h2 := fun b o e => (hs2.2 b (noC e)).trans (b1 b o (PySem.W.of_hideAll _ e))
    have hh2 : HandSPX.HeldZ (PySem.W.hideAll B [s.heap.objs.size]) (X.env :: X.outer) a (Zc cls d) X.env.locals h2 := ⟨b2, hB' b0, f2, t2⟩
    obtain ⟨oe, vs, T, oT, ts, he, hc, hd, h1', r⟩ := t2
    unfold PySem.passOn
    refine wpAny_bind (wpAny_field he hd h1' ?_)
    rw [if_neg (show ¬ ((Value.ref T == Value.none) = true) from by simp)]
    rw [hcf, hf]
    refine wpAny_bind (HandSPX.setFlight_onZ (s := { { s' with heap := h1 } with heap := h2 }) hh2 fun h3 hh3 up3 => ?_)
    refine wpAny_throw ?_
    refine tk _ _ ⟨a, PySem.W.hideAll B [s.heap.objs.size], { sI with heap := PySem.W.hideAll sI.heap [s.heap.objs.size] }, pins, σ, H', cls, d, rfl, J, fun b o e hb => getC (nb b o (PySem.W.of_hideAll _ e) hb) (noC e), fun b o e hd' => ?_, .inr (.inr (by rw [hs]; exact hh3)), na, os, ag, w⟩
    obtain ⟨sl, e1⟩ := up b o (PySem.W.of_hideAll _ e) hd'
    obtain ⟨sl2, e2⟩ := up1 b _ e1 hd'
    obtain ⟨sl3, e3⟩ := up3 b _ ((hs2.2 b (noC e)).trans e2) hd'
    exact ⟨sl3, e3⟩
  show wpAny _ _ (noteFrame (.ref a) ce) _ _ s'
  rw [noteFrame_env _ hcf]
  have sky : Sky B (X.env :: X.outer) a (Zc cls d) ce.locals s'.heap := by have z : Sky B X.stack a (Zc cls d) ce.locals s'.heap := sky; rw [hs] at z; exact z
  rcases sky with ⟨hB, hn', hl, oe, vs, he, hz, hd, h1⟩ | fl | hh
  · exact HandSPX.look_newZ Zc.steady hfr hl hf he hB hn' hd h1 hz fin
  · exact HandSPX.looks_onZ Zc.steady hfr hf fl fin
  · refine looks_atZ Zc.steady hfr hf hh.1 hh.2.1 hh.2.2.1 hh.2.2.2 ?_ fin
    rw [cL]
    simp only [rawInt, beq_eq_false_iff_ne, ne_eq, Value.int.injEq, Int.ofNat_inj]
    intro z
    exact absurd hlt (by simp_all)
end
end M1

end

section
set_option maxRecDepth 100000
set_option maxHeartbeats 2000000
/-! M6b: list comprehensions whose tests and elements may raise (after HandS's own rule, its proof turned to a block that raises) -/
namespace M1
open PySem PySem.Spec PyProof.Rows L2

abbrev blkE (X : Cx) (s : Shared) (H : Hp) (scope : Scope) (ce : PySem.Env) (fp : List Addr) (xe : Value → Shared → Prop) : Cx := { X.blk s H scope ce fp with xe := xe }
theorem thnE {α : Type} {t : Sem α} {Q Q' : α → Shared → Prop} {M : Model} {A : Around} {E E' : Value → Shared → Prop} {s : Shared} (h : wpAny M A t Q E s) (hE : ∀ e s, E e s → E' e s) (hQ : ∀ a s, Q a s → Q' a s) : wpAny M A t Q' E' s := wpAny_mono h hQ hE

def tLcX (wi : TI) (g : TG) (tt : St → TT) (te : St → TE) (vs : List Nat) : TE := fun σ H Q => wi σ H fun J H1 => ∀ D, H1 D = none → ∃ W : Nat → Nat → Hp → Prop, (∃ m, W 0 m (upd H1 D (.lst []))) ∧ ∀ i m H, W i m H →
  (J.stop i H ∧ Q (.ref D) H) ∨ (J.go i H ∧ ∃ Nx : Hp → Prop, (∀ H', Nx H' → ∃ m', m' < m ∧ W (i + 1) m' H') ∧ ∀ x H', J.yld i H x H' → g x (wipe σ vs) H' fun σ2 H2 => wipe σ2 vs = wipe σ vs ∧ tt σ σ2 H2 fun b H3 =>
    if b = true then te σ σ2 H3 fun y H4 => ∃ acc, H4 D = some (.lst acc) ∧ acc.length < sizeLine ∧ Nx (upd H4 D (.lst (acc ++ [y]))) else Nx H3)

theorem _root_.L2.Inv.reX {X : Cx} {pins : List (Addr × Obj)} {σ : St} {H : Hp} {s : Shared} (I : Inv X pins σ H s) (xe : Value → Shared → Prop) : Inv { X with xe := xe } pins σ H s :=
  ⟨I.ok.toTry X.pn xe, I.os, I.bare, I.base, I.loc, I.cell, I.free, I.freeC, I.pin, I.hok, I.len⟩
section
variable {X : Cx} {W0 : WX}
theorem lc_coreX {pins : List (Addr × Obj)} {s : Shared} {σ : St} {H : Hp} {Q : VK} {elt tg iter : Expr} {ifs : List Expr} {scope : Scope} {own : List (Str × Nat)} {pos pos' : Pos} {wi : TI} {g : TG} {tt : St → TT} {te : St → TE} {use : Option (Value → Sem Unit)} {Qf : Value → Shared → Prop}
    (hst : X.stack = X.env :: X.outer) (hf : X.env.frame = some X.env.locals) (tk : Takes X W0)
    (hc : X.calm = true) (hN : X.N.Nodup) (I : Inv X pins σ H s) (hi : PI X tg iter wi) (ok : BlkOk X.N X.env.scope scope own)
    (hg : ∀ (s : Shared) (H : Hp) (C : Addr) (cl : List (Str × Addr)) (fp : List Addr) (xe : Value → Shared → Prop), PG (blkE X s H scope (compEnvC scope cl C X.env) fp xe) tg g)
    (ht : ∀ (σ : St) (s : Shared) (H : Hp) (C : Addr) (cl : List (Str × Addr)) (fp : List Addr) (xe : Value → Shared → Prop), Takes (blkE X s H scope (compEnvC scope cl C X.env) fp xe) (fun c d _ H => W0 c d σ H) → PTs (blkE X s H scope (compEnvC scope cl C X.env) fp xe) ifs (tt σ))
    (he : ∀ (σ : St) (s : Shared) (H : Hp) (C : Addr) (cl : List (Str × Addr)) (fp : List Addr) (xe : Value → Shared → Prop), Takes (blkE X s H scope (compEnvC scope cl C X.env) fp xe) (fun c d _ H => W0 c d σ H) → PE (blkE X s H scope (compEnvC scope cl C X.env) fp xe) elt (te σ)) (hs : ∀ x, foldedSetIterable iter X.env x = pure x)
    (h : tLcX wi g tt te (own.map (·.2)) σ H Q)
    (hRR : ∀ D (ce : PySem.Env) s' m H', Inv X pins σ H' s' → Q (.ref D) H' → s'.heap.Ns ce.locals m → FpOk X pins H' ce.locals → compEnds (model X.prog X.w) X.A X.xe use Qf (.ref D) ce (.ok .next) s') :
    wpAny (model X.prog X.w) X.A (comprehension (.ListComp elt [⟨tg, iter, ifs, 0⟩] scope pos) scope X.env pos' (newList []) false (eval iter X.env) use) Qf X.xe s := by
  have hfree : ∀ y ∈ scope.names, y.2 = .free → ∃ c, X.env.cells.lookup y.1 = some c := fun y hy e => by
    rcases ok.free y hy e with k | k
    · exact I.ok.has _ (.inl k)
    · exact I.ok.has _ (.inr k)
  refine comprehension_at (use := use) rfl hs (closure_ok hfree) ok.kind (fun y hy e => by rw [ok.uniq y hy, e])
    (thn (hi.run pins s σ H _ I h) fun xv s1 hx => thn hx fun itv s2 h2 => ?_)
  obtain ⟨it, fp, tn, J, H2, e, I2, T, st2, f2, q⟩ := h2
  subst e
  refine wpAny_newObj_type (newEnv_comp ?_) (by show 0 ≤ sizeLine; decide)
  generalize hD : s2.heap.objs.size = D
  have hDn : H2 D = none := I2.hok.fresh (Nat.le_of_eq hD)
  obtain ⟨W, ⟨m0, w0⟩, turn⟩ := q D hDn
  generalize hs3 : ({ s2 with heap := s2.heap.push { cls := .type "list", data := .seq ([] : List Value).toArray } } : Shared) = s3
  have I3 : Inv X pins σ (upd H2 D (.lst [])) s3 := by
    rw [← hs3]
    refine I2.laid (t' := s2.toks) (fun b o e => Heap.get?_push_of_some _ e) (Nat.le_of_eq hD) ⟨Nat.zero_le _, [], 0, .nil, ?_⟩
    rw [← hD]
    exact Heap.get?_push_size _ rfl
  have h3 : s3.heap = s2.heap.push { cls := .type "list", data := .seq ([] : List Value).toArray } := by rw [← hs3]
  have sz : ∀ b ∈ fp, b < s2.heap.objs.size := fun b hb => by
    obtain ⟨o, e, _⟩ := T.obj _ _ st2 b hb
    exact Heap.lt_size e
  have f3 : ∀ b ∈ fp, FpOk X pins (upd H2 D (.lst [])) b ∧ b < s3.heap.objs.size := fun b hb => by
    have hlt := sz b hb
    refine ⟨⟨?_, (f2 b hb).2⟩, by rw [h3, Heap.size_push]; exact Nat.lt_succ_of_lt hlt⟩
    rw [upd_ne (by rw [← hD]; exact Nat.ne_of_lt hlt)]
    exact (f2 b hb).1
  have st3 : tn 0 s3.heap := T.keep _ _ _ st2 fun b _ o e => by rw [h3]; exact Heap.get?_push_of_some _ e
  have I4 := block_start I3 ok hN f3
  generalize hxe : notedBy (model X.prog X.w) X.A (compEnvC scope (cellsFrom (s3.heap.objs.size + 1) scope.names (cloFrom X.env.cells scope.names [])) s3.heap.objs.size X.env) (CompFails (model X.prog X.w) X.A X.xe (compEnvC scope (cellsFrom (s3.heap.objs.size + 1) scope.names (cloFrom X.env.cells scope.names [])) s3.heap.objs.size X.env)) = xe
  have tkb : Takes (blkE X s3 (upd H2 D (.lst [])) scope (compEnvC scope (cellsFrom (s3.heap.objs.size + 1) scope.names (cloFrom X.env.cells scope.names [])) s3.heap.objs.size X.env) fp xe) (fun c d _ H => W0 c d σ H) := by
    rw [← hxe]
    exact takes_blk I3 hst hf rfl rfl f3 tk
  have pg := hg s3 (upd H2 D (.lst [])) s3.heap.objs.size (cellsFrom (s3.heap.objs.size + 1) scope.names (cloFrom X.env.cells scope.names [])) fp xe
  have pt := ht σ s3 (upd H2 D (.lst [])) s3.heap.objs.size (cellsFrom (s3.heap.objs.size + 1) scope.names (cloFrom X.env.cells scope.names [])) fp xe tkb
  have pe := he σ s3 (upd H2 D (.lst [])) s3.heap.objs.size (cellsFrom (s3.heap.objs.size + 1) scope.names (cloFrom X.env.cells scope.names [])) fp xe tkb
  have hxe' : ∀ e s', xe e s' → notedBy (model X.prog X.w) X.A (compEnvC scope (cellsFrom (s3.heap.objs.size + 1) scope.names (cloFrom X.env.cells scope.names [])) s3.heap.objs.size X.env) (fun e s' => compEnds (model X.prog X.w) X.A X.xe use Qf (.ref D) (compEnvC scope (cellsFrom (s3.heap.objs.size + 1) scope.names (cloFrom X.env.cells scope.names [])) s3.heap.objs.size X.env) (.error e) s') e s' := fun e s' h => by
    rw [← hxe] at h
    exact wpAny_mono h (fun _ _ c => by cases use <;> exact c) (fun _ _ c => by cases use <;> exact c)
  show codeAny _ _ (.compStart (.ListComp elt [⟨tg, iter, ifs, 0⟩] scope pos) 0 (.ref it) (.ref D) (compEnvC scope (cellsFrom (s3.heap.objs.size + 1) scope.names (cloFrom X.env.cells scope.names [])) s3.heap.objs.size X.env)) (compEnds (model X.prog X.w) X.A X.xe use Qf (.ref D) (compEnvC scope (cellsFrom (s3.heap.objs.size + 1) scope.names (cloFrom X.env.cells scope.names [])) s3.heap.objs.size X.env)) { s3 with heap := pushCells (s3.heap.push { cls := .type "dict", data := .dict #[] }) scope.names }
  have nfp : ∀ b ∈ fp, (upd H2 D (.lst [])) b = none := fun b hb => (f3 b hb).1.1
  generalize hce : compEnvC scope (cellsFrom (s3.heap.objs.size + 1) scope.names (cloFrom X.env.cells scope.names [])) s3.heap.objs.size X.env = ce at I4 pg pt pe hxe' ⊢
  have cL : ce.locals = s3.heap.objs.size := by subst hce; rfl
  generalize hH3 : upd H2 D (.lst []) = H3 at I3 I4 pg pt pe w0 nfp f3
  have I4 : Inv (blkE X s3 H3 scope ce fp xe) [] (wipe σ (own.map (·.2))) H3 { s3 with heap := pushCells (s3.heap.push { cls := .type "dict", data := .dict #[] }) scope.names } := I4.reX xe
  generalize hs4 : ({ s3 with heap := pushCells (s3.heap.push { cls := .type "dict", data := .dict #[] }) scope.names } : Shared) = s4 at I4 ⊢
  have st4 : tn 0 s4.heap := T.keep _ _ _ st3 fun b _ o e => by rw [← hs4]; exact pushCells_keeps _ _ _ _ (Heap.get?_push_of_some _ e)
  have stat : ∀ {σ' : St} {H' : Hp} {s' : Shared}, Inv (blkE X s3 H3 scope ce fp xe) [] σ' H' s' → (∀ b ∈ fp, H' b = none) → ∀ b ∈ fp, FpOk (blkE X s3 H3 scope ce fp xe) [] H' b := fun {σ' H' s'} I' hn b hb =>
    ⟨hn b hb, (I'.ok.exf b hb).1, I'.ok.exfs b hb, .inl hb, fun x c e => (I'.ok.exf b hb).2 x c e, fun p hp => absurd (show p ∈ ([] : List (Addr × Obj)) ++ [] from hp) (by simp)⟩
  have loop : codeAny (model X.prog X.w) X.A (.compLoop (.ListComp elt [⟨tg, iter, ifs, 0⟩] scope pos) 0 (.ref it) (.ref D) ce) (compEnds (model X.prog X.w) X.A X.xe use Qf (.ref D) ce) s4 := by
    refine compLoop_any (fun n s' => ∃ i H', Inv (blkE X s3 H3 scope ce fp xe) [] (wipe σ (own.map (·.2))) H' s' ∧ tn i s'.heap ∧ (∀ b ∈ fp, H' b = none) ∧ W i n H') ?_ m0 ⟨0, H3, I4, st4, nfp, w0⟩
    rintro n s5 ⟨i, H5, I5, st5, n5, w5⟩
    rcases turn i n H5 w5 with ⟨stop, qq⟩ | ⟨go, Nx, hNx, step⟩
    · have td := T.done (blkE X s3 H3 scope ce fp xe) rfl rfl rfl hc i [] s5 _ H5 (fun _ _ => False) I5 (stat I5 n5) st5 stop
      refine thnF td fun r s6 ⟨hr, I6⟩ => ?_
      subst hr
      have I7 : Inv X pins σ H5 s6 := I3.call' (ch := fp) I6.os I6.base I6.hok I6.bare fun b hb => ⟨(f3 b hb).1.2.2.2.1, (f3 b hb).1.2.1, (f3 b hb).1.2.2.2.2.1, (f3 b hb).1.2.2.2.2.2⟩
      have nC : H5 s3.heap.objs.size = none := by
        have z : H5 ce.locals = none := I6.free
        rw [cL] at z
        exact z
      obtain ⟨m, hn, _⟩ := I6.loc
      have hn : s6.heap.Ns ce.locals m := hn
      exact hRR D ce s6 m H5 I7 qq hn (by rw [cL]; exact I3.fpOk (Nat.le_refl _) nC)
    · have ti := T.item (blkE X s3 H3 scope ce fp xe) rfl rfl rfl hc i [] s5 _ H5 (fun _ _ => False) I5 (stat I5 n5) st5 go
      refine thnF ti fun r s6 ⟨u, hr, h6⟩ => ?_
      subst hr
      refine thnF h6 fun _ s7 ⟨x, H7, I7, r7, y7, st7, n7⟩ => ?_
      have I7' := I7.pinned (stat I7 n7) (T.obj _ _ st7)
      refine thnE (pg.run _ s7 _ H7 x u _ I7' r7 (step x H7 y7)) hxe' fun _ s8 ⟨σ8, H8, I8, hw8, q8⟩ => ?_
      refine thnE (pt.run _ s8 σ8 H8 _ I8 q8) hxe' fun b s9 ⟨H9, I9, q9⟩ => ?_
      have fin : ∀ {s' : Shared} {H' : Hp}, Inv (blkE X s3 H3 scope ce fp xe) ([] ++ pinsAt fp s7.heap) σ8 H' s' → Nx H' → ∃ m, m < n ∧ ∃ i H', Inv (blkE X s3 H3 scope ce fp xe) [] (wipe σ (own.map (·.2))) H' s' ∧ tn i s'.heap ∧ (∀ b ∈ fp, H' b = none) ∧ W i m H' := fun {s' H'} I' nx => by
        obtain ⟨m', hm, w'⟩ := hNx H' nx
        have pin' : ∀ b ∈ fp, ∀ o, s7.heap.get? b = some o → s'.heap.get? b = some o ∧ H' b = none := fun b hb o e =>
          let z := I'.pin (b, o) (List.mem_append_right _ (List.mem_append_right _ (mem_pinsAt hb e)))
          ⟨z.1, z.2.1⟩
        have hl : (wipe σ (own.map (·.2))).length = σ8.length := by rw [← hw8, wipe_length]
        refine ⟨m', hm, i + 1, H', (I'.unpinned (pins := [])).weak hl (fun j v e => ?_), T.keep _ _ _ st7 fun b hb o e => (pin' b hb o e).1, fun b hb => ?_, w'⟩
        · rw [← hw8] at e
          exact (wipe_some e).1
        · obtain ⟨o, e, _⟩ := T.obj _ _ st7 b hb
          exact (pin' b hb o e).2
      cases b with
      | false =>
        simp only [Bool.false_eq_true, if_false] at q9 ⊢
        exact fin I9 q9
      | true =>
        simp only [if_true] at q9 ⊢
        refine thnE (pe.run _ s9 σ8 H9 _ I9 q9) hxe' fun z s10 ⟨yv, H10, I10, r10, acc, hD10, hz10, nx⟩ => ?_
        exact app_ok (X := blkE X s3 H3 scope ce fp xe) I10 hD10 hz10 r10 fun s11 I11 => fin I11 nx
  exact codeAny_compStart_list loop (T.self X.A 0 _ _ _ st4 loop)
end
end M1

end

section
set_option maxRecDepth 100000
set_option maxHeartbeats 2000000
/-! M6c: list comprehensions, their mirrors -/
namespace M1
open PySem PySem.Spec PyProof.Rows L2

def wipeE (ρ : Env) : List Nat → Env
  | [] => ρ
  | v :: vs => (wipeE ρ vs).set v none
theorem wipeE_length (ρ : Env) : ∀ vs : List Nat, (wipeE ρ vs).length = ρ.length
  | [] => rfl
  | v :: vs => by unfold wipeE; rw [List.length_set, wipeE_length ρ vs]
theorem set_none {α : Type} {l : List (Option α)} {v i : Nat} {x : α} (h : (l.set v none)[i]? = some (some x)) : i ≠ v ∧ l[i]? = some (some x) := by
  by_cases hi : v = i
  · subst hi
    by_cases hv : v < l.length
    · rw [List.getElem?_set_self hv] at h; cases h
    · rw [List.getElem?_eq_none (by simpa using hv)] at h; cases h
  · rw [List.getElem?_set_ne hi] at h
    exact ⟨fun e => hi e.symm, h⟩
theorem renv_wipe {K : PySem.W.Frag} {m : Nat → Addr} {N : Nat} {H : Hp} {ρ : Env} {σ : St} : ∀ vs : List Nat, Renv K m N H ρ σ → Renv K m N H (wipeE ρ vs) (wipe σ vs)
  | [], h => h
  | v :: vs, h => fun i d e => by
    unfold wipeE at e
    obtain ⟨ne, e⟩ := set_none e
    obtain ⟨u, a, b⟩ := renv_wipe vs h i d e
    unfold wipe
    exact ⟨u, by rw [List.getElem?_set_ne (Ne.symm ne)]; exact a, b⟩
theorem renv_unwipe {K : PySem.W.Frag} {m : Nat → Addr} {N : Nat} {H : Hp} {ρ : Env} {σ : St} {vs : List Nat} (h : Renv K m N H ρ (wipe σ vs)) : Renv K m N H ρ σ := fun i d e => by
  obtain ⟨u, a, b⟩ := h i d e
  exact ⟨u, (wipe_some a).1, b⟩
theorem re_wipe {K : PySem.W.Frag} {m : Nat → Addr} {N : Nat} {H : Hp} {ρ : Env} {σ : St} {vs : List Nat} (h : RE K m N H ρ σ) : RE K m N H (wipeE ρ vs) (wipe σ vs) := ⟨by rw [wipeE_length, wipe_length]; exact h.len, renv_wipe vs h.at_⟩
theorem wipe_comm {σ : St} {i : Nat} {x : Option V} : ∀ {vs : List Nat}, i ∉ vs → wipe (σ.set i x) vs = (wipe σ vs).set i x
  | [], _ => rfl
  | v :: vs, h => by
    simp only [List.mem_cons, not_or] at h
    unfold wipe
    rw [wipe_comm h.2, List.set_comm _ _ (h.1)]
theorem wipe_set {σ : St} {i : Nat} {x : Option V} : ∀ {vs : List Nat}, i ∈ vs → wipe (σ.set i x) vs = wipe σ vs
  | v :: vs, h => by
    unfold wipe
    by_cases hm : i ∈ vs
    · rw [wipe_set hm]
    · have e : i = v := by
        rcases List.mem_cons.mp h with e | e
        · exact e
        · exact absurd e hm
      subst e
      rw [wipe_comm hm, List.set_set]

theorem wipe_sub {σ : St} {vs : List Nat} : ∀ {us : List Nat}, (∀ u ∈ us, u ∈ vs) → wipe (wipe σ us) vs = wipe σ vs
  | [], _ => rfl
  | u :: us, h => by
    show wipe ((wipe σ us).set u none) vs = wipe σ vs
    rw [wipe_set (h u (List.mem_cons_self)), wipe_sub fun x hx => h x (List.mem_cons_of_mem _ hx)]
theorem wipe_idem {σ : St} {vs : List Nat} : wipe (wipe σ vs) vs = wipe σ vs := wipe_sub fun _ h => h

/-! ### targets of a comprehension: only the block's own slots -/
def tGv (K : PySem.W.Frag) (vs : List Nat) (g : Gm) : TG := fun v σ H Q => ∃ m S d ρ ρ', RS K m S H ∧ RE K m S.length H ρ σ ∧ Rv K m S.length H d v ∧ g d S ρ = some ρ' ∧ ∀ σ', RE K m S.length H ρ' σ' → wipe σ' vs = wipe σ vs → Q σ' H
def tGsv (K : PySem.W.Frag) (vs : List Nat) (g : Gs) : TGs := fun v σ H Q => ∃ m S d ρ ρ', RS K m S H ∧ RE K m S.length H ρ σ ∧ Rvs K m S.length H d v ∧ g d S ρ = some ρ' ∧ ∀ σ', RE K m S.length H ρ' σ' → wipe σ' vs = wipe σ vs → Q σ' H
section
variable {X : Cx} {pos : Pos} {vs : List Nat}
abbrev MC (X : Cx) (vs : List Nat) (e : Expr) (g : Gm) : Prop := PG X e (tGv X.K vs g)
abbrev MCs (X : Cx) (vs : List Nat) (e : List Expr) (g : Gs) : Prop := PGs X e (tGsv X.K vs g)
theorem mc_name {e : Expr} {i : Nat} (h : PG X e (gName i)) (hi : i ∈ vs) : MC X vs e (gN i) := pg_imp h fun v σ H Q ⟨m, S, d, ρ, ρ', rs, re, rv, e, q⟩ => by
  cases e
  exact q _ (re.set rv) (wipe_set hi)
theorem mcs_nil : MCs X vs [] gsNil := pgs_imp pgs_nil fun v σ H Q ⟨m, S, d, ρ, ρ', rs, re, rv, e, q⟩ => by
  cases d with
  | nil => cases e; simp only [Rvs] at rv; exact ⟨rv, q _ re rfl⟩
  | cons _ _ => cases e
theorem mcs_cons {e : Expr} {es : List Expr} {g : Gm} {h : Gs} (h1 : MC X vs e g) (h2 : MCs X vs es h) (hs : (assignEach (e :: es) X.env).map (·.2) = assign e X.env :: (assignEach es X.env).map (·.2) := by rfl) : MCs X vs (e :: es) (gsCons g h) :=
  pgs_imp (pgs_cons h1 h2 hs) fun v σ H Q ⟨m, S, d, ρ, ρ', rs, re, rv, e, q⟩ => by
    cases d with
    | nil => cases e
    | cons d ds =>
      simp only [Rvs] at rv
      obtain ⟨v1, r, rfl, r1, r2⟩ := rv
      simp only [gsCons, Option.bind_eq_some_iff] at e
      obtain ⟨ρ1, e1, e2⟩ := e
      exact ⟨v1, r, rfl, m, S, d, ρ, ρ1, rs, re, r1, e1, fun σ1 re1 w1 => ⟨m, S, ds, ρ1, ρ', rs, re1, r2, e2, fun σ2 re2 w2 => q σ2 re2 (w2.trans w1)⟩⟩
theorem mc_tup {es : List Expr} {k n : Nat} {g : Gs} (hc : X.calm = true) (h : MCs X vs es g) (hn : (assignEach es X.env).length = n := by rfl) (hst : (assignEach es X.env).findIdx? (·.1) = none := by rfl) : MC X vs (.Tuple es k pos) (gT n g) :=
  pg_imp (pg_tup hc h hn hst) fun v σ H Q ⟨m, S, d, ρ, ρ', rs, re, rv, e, q⟩ => by
    unfold gT at e
    split at e
    · rename_i ds
      split at e
      · rename_i hl
        obtain ⟨a, vs, rfl, q1, r1⟩ := rv.tup
        exact ⟨a, vs, rfl, q1, by rw [r1.length]; exact hl, m, S, ds, ρ, ρ', rs, re, r1, e, q⟩
      · cases e
    · cases e
end

/-! ### the turns -/
def compN (src : Src) (g : Gm) (t : Tx) (e : Ex) (ρ0 : Env) (L : Nat) : Nat → Nat → Store → R Unit
  | 0, _, _ => .er
  | n + 1, i, S => match src.item i S with
    | none => .er
    | some none => .ok () S
    | some (some d) => match g d S ρ0 with
      | none => .er
      | some ρ1 => (t ρ1 S).bind fun c S1 => if c = true then (e ρ1 S1).bind fun y S2 => match lstW S2 L with
          | some acc => if acc.length < sizeLine then compN src g t e ρ0 L n (i + 1) (S2.set L (.lst (acc ++ [y]))) else .er
          | none => .er
        else compN src g t e ρ0 L n (i + 1) S1
def eLc (n : Nat) (vs : List Nat) (f : Ix) (g : Gm) (t : Tx) (e : Ex) : Ex := fun ρ S => if ρ.length ≤ n then (f ρ S).bind fun src S1 =>
  (compN src g t e (wipeE ρ vs) S1.length (src.bound + 1) 0 (S1 ++ [.lst []])).bind fun _ S2 => .ok (.loc S1.length) S2 else .er
def tYesM : Tx := fun _ S => .ok true S

section
variable {X : Cx} {W : WX} {vs : List Nat} {f : Ix} {g : Gm} {t : Tx} {e : Ex}
/-- what a turn leaves -/
theorem lc_step {K : PySem.W.Frag} {m : Nat → Addr} {S : Store} {H : Hp} {L : Nat} {acc : List D} {y : D} {v : V} (rs : RS K m S H) (h : lstW S L = some acc) (r : Rv K m S.length H y v) : ∃ vs, H (m L) = some (.lst vs) ∧ vs.length = acc.length ∧ Fin K m S H m (S.set L (.lst (acc ++ [y]))) (upd H (m L) (.lst (vs ++ [v]))) := by
  obtain ⟨hS, us, q, r2⟩ := rs.listW h
  refine ⟨us, q, r2.length, Fin.write rs hS rfl ⟨us ++ [v], upd_same, ?_⟩⟩
  exact (r2.append (Rvs.one r)).up (Nat.le_refl _) (fun _ _ => rfl) (Mono.write q (fun _ z => by cases z) (fun _ _ z => by cases z))
theorem compN_ok {σ : St} {Q : VK} {D0 : Addr} {J : It} {src : Src} {m0 : Nat → Addr} {S0 : Store} {H0 : Hp} {ρ0 : Env} {L : Nat} (hL : L < S0.length) (hD : m0 L = D0) (ir : ItRel X.K src J m0 S0 H0) :
    ∀ (i k : Nat) (H : Hp), (∃ m S, Fin X.K m0 S0 H0 m S H ∧ RE X.K m S.length H ρ0 (wipe σ vs) ∧ Aft X.K (fun _ _ _ _ _ => True) W (compN src g t e ρ0 L k i S) m S H σ (fun (_ : Unit) H' => Q (.ref D0) H')) →
      (J.stop i H ∧ Q (.ref D0) H) ∨ (J.go i H ∧ ∃ Nx : Hp → Prop, (∀ H', Nx H' → ∃ k', k' < k ∧ (∃ m S, Fin X.K m0 S0 H0 m S H' ∧ RE X.K m S.length H' ρ0 (wipe σ vs) ∧ Aft X.K (fun _ _ _ _ _ => True) W (compN src g t e ρ0 L k' (i + 1) S) m S H' σ (fun (_ : Unit) H' => Q (.ref D0) H'))) ∧
        ∀ x H', J.yld i H x H' → tGv X.K vs g x (wipe σ vs) H' fun σ2 H2 => wipe σ2 vs = wipe σ vs ∧ tT X.K (fun c d _ H => W c d σ H) t σ2 H2 fun b H3 =>
          if b = true then tE X.K (fun c d _ H => W c d σ H) e σ2 H3 fun y H4 => ∃ acc, H4 D0 = some (.lst acc) ∧ acc.length < sizeLine ∧ Nx (upd H4 D0 (.lst (acc ++ [y]))) else Nx H3) := by
  rintro i k H ⟨m, S, f0, re, q⟩
  cases k with
  | zero => exact q.elim
  | succ k =>
    unfold compN at q
    cases e1 : src.item i S with
    | none => simp only [e1] at q; exact q.elim
    | some o =>
      cases o with
      | none => simp only [e1] at q; exact .inl ⟨ir.stop m S H f0 i e1, q m H () (Fin.refl f0.rs) trivial⟩
      | some d =>
        simp only [e1] at q
        cases e2 : g d S ρ0 with
        | none => simp only [e2] at q; exact q.elim
        | some ρ1 =>
          simp only [e2] at q
          refine .inr ⟨ir.go m S H f0 i d e1, fun H' => ∃ m S, Fin X.K m0 S0 H0 m S H' ∧ RE X.K m S.length H' ρ0 (wipe σ vs) ∧ Aft X.K (fun _ _ _ _ _ => True) W (compN src g t e ρ0 L k (i + 1) S) m S H' σ (fun (_ : Unit) H' => Q (.ref D0) H'), fun H' h => ⟨k, Nat.lt_succ_self _, h⟩, fun x H1 y => ?_⟩
          obtain ⟨g1, rv⟩ := ir.yld m S H f0 i d e1 x H1 y
          refine ⟨m, S, d, ρ0, ρ1, g1.rs, g1.re re, rv, e2, fun σ2 re2 w2 => ⟨w2.trans (by rw [wipe_idem]), m, S, ρ1, g1.rs, re2.at_, ?_⟩⟩
          have q1 := Aft.shift g1 q
          have q2 := Aft.bind (P := fun _ _ _ (a b : Bool) => b = a) q1
          refine (show Aft X.K (fun _ _ _ (a b : Bool) => b = a) (fun c d _ H => W c d σ H) (t ρ1 S) m S H1 σ2 _ from ?_)
          refine Aft.mono (Q := fun (b : Bool) H3 => ∃ m1 S1 d, Fin X.K m S H1 m1 S1 H3 ∧ b = d ∧ Aft X.K (fun _ _ _ _ _ => True) W (if d = true then (e ρ1 S1).bind fun y S2 => match lstW S2 L with
              | some acc => if acc.length < sizeLine then compN src g t e ρ0 L k (i + 1) (S2.set L (.lst (acc ++ [y]))) else .er
              | none => .er else compN src g t e ρ0 L k (i + 1) S1) m1 S1 H3 σ (fun (_ : Unit) H' => Q (.ref D0) H')) ?_ fun b H3 h3 => ?_
          · cases er : t ρ1 S with
            | ok c S1 => rw [er] at q2; exact q2
            | ex C d S1 => rw [er] at q2; exact q2
            | er => rw [er] at q2; exact q2
          obtain ⟨m3, S3, d3, g3, rfl, q3⟩ := h3
          cases b with
          | false => simp only [Bool.false_eq_true, if_false] at q3 ⊢; exact ⟨m3, S3, (f0.trans g1).trans g3, g3.re (g1.re re), q3⟩
          | true =>
            simp only [if_true] at q3 ⊢
            refine ⟨m3, S3, ρ1, g3.rs, g3.renv re2.at_, ?_⟩
            have q4 := Aft.bind (P := Rv X.K) q3
            refine (show Aft X.K (Rv X.K) (fun c d _ H => W c d σ H) (e ρ1 S3) m3 S3 H3 σ2 _ from ?_)
            refine Aft.mono (Q := fun (v : V) H4 => ∃ m1 S1 d, Fin X.K m3 S3 H3 m1 S1 H4 ∧ Rv X.K m1 S1.length H4 d v ∧ Aft X.K (fun _ _ _ _ _ => True) W (match lstW S1 L with
              | some acc => if acc.length < sizeLine then compN src g t e ρ0 L k (i + 1) (S1.set L (.lst (acc ++ [d]))) else .er
              | none => .er) m1 S1 H4 σ (fun (_ : Unit) H' => Q (.ref D0) H')) ?_ fun v H4 h4 => ?_
            · cases er : e ρ1 S3 with
              | ok c S1 => rw [er] at q4; exact q4
              | ex C d S1 => rw [er] at q4; exact q4
              | er => rw [er] at q4; exact q4
            obtain ⟨m4, S4, y4, g4, r4, q5⟩ := h4
            split at q5
            · rename_i acc hacc
              split at q5
              · rename_i hz
                obtain ⟨us, hu, hl, g5⟩ := lc_step g4.rs hacc r4
                have fin := ((f0.trans g1).trans g3).trans g4
                have hm : m4 L = D0 := by rw [fin.ext L hL, hD]
                rw [hm] at hu g5
                refine ⟨us, hu, by rw [hl]; exact hz, m4, _, fin.trans g5, g5.re (g4.re (g3.re (g1.re re))), Aft.shift g5 q5⟩
              · exact q5.elim
            · exact q5.elim

theorem ItRel.shift {K : PySem.W.Frag} {src : Src} {J : It} {m m1 : Nat → Addr} {S S1 : Store} {H H1 : Hp} (f : Fin K m S H m1 S1 H1) (h : ItRel K src J m S H) : ItRel K src J m1 S1 H1 :=
  ⟨fun m2 S2 H2 f2 => h.go m2 S2 H2 (f.trans f2), fun m2 S2 H2 f2 => h.yld m2 S2 H2 (f.trans f2), fun m2 S2 H2 f2 => h.stop m2 S2 H2 (f.trans f2)⟩
theorem tLcX_of {n : Nat} {σ : St} {H : Hp} {Q : VK} (hn : σ.length = n) (q : tE X.K W (eLc n vs f g t e) σ H Q) : tLcX (tI X.K W f) (tGv X.K vs g) (fun σ => tT X.K (fun c d _ H => W c d σ H) t) (fun σ => tE X.K (fun c d _ H => W c d σ H) e) vs σ H Q := by
  obtain ⟨m, S, ρ, rs, re, q⟩ := q
  unfold eLc at q
  split at q
  · rename_i hl
    refine ⟨m, S, ρ, rs, re, ?_⟩
    cases ef : f ρ S with
    | er => rw [ef] at q; exact q
    | ex C d S' => rw [ef] at q; exact q
    | ok src S' =>
      rw [ef] at q
      simp only [R.bind] at q
      intro m' H' J g0 ir D hD
      have g1 : Fin X.K m' S' H' (ext1 m' S'.length D) (S' ++ [.lst []]) (upd H' D (.lst [])) := Fin.new g0.rs hD ⟨[], upd_same, by simp only [Rvs]⟩
      have q2 : Aft X.K (fun _ _ _ _ _ => True) W (compN src g t e (wipeE ρ vs) S'.length (src.bound + 1) 0 (S' ++ [.lst []])) (ext1 m' S'.length D) (S' ++ [.lst []]) (upd H' D (.lst [])) σ (fun (_ : Unit) H' => Q (.ref D) H') := by
        have q1 := Aft.shift (g0.trans g1) q
        cases er : compN src g t e (wipeE ρ vs) S'.length (src.bound + 1) 0 (S' ++ [.lst []]) with
        | er => rw [er] at q1; exact q1
        | ex C d S2 => rw [er] at q1; exact q1
        | ok u S2 =>
          rw [er] at q1
          intro m2 H2 _ g2 _
          refine q1 m2 H2 _ g2 ?_
          have hlt : S'.length < (S' ++ [SO.lst []]).length := by simp
          have := Rv.mk_loc (K := X.K) (m := m2) (N := S2.length) (H := H2) (n := S'.length) (Nat.lt_of_lt_of_le hlt g2.len)
          rw [g2.ext _ hlt, ext1_new] at this
          exact this
      refine ⟨fun i k H => ∃ m S, Fin X.K (ext1 m' S'.length D) (S' ++ [.lst []]) (upd H' D (.lst [])) m S H ∧ RE X.K m S.length H (wipeE ρ vs) (wipe σ vs) ∧ Aft X.K (fun _ _ _ _ _ => True) W (compN src g t e (wipeE ρ vs) S'.length k i S) m S H σ (fun (_ : Unit) H' => Q (.ref D) H'), ⟨src.bound + 1, _, _, Fin.refl g1.rs, re_wipe ⟨by omega, g1.renv (g0.renv re)⟩, q2⟩, ?_⟩
      intro i k H2 h
      exact compN_ok (by simp) ext1_new (ItRel.shift g1 ir) i k H2 h
  · exact q.elim

/-! ### as an expression, as an assignment -/
abbrev MTs (X : Cx) (W : WX) (es : List Expr) (f : Tx) : Prop := PTs X es (tT X.K W f)
theorem pts_imp {e : List Expr} {t t' : TT} (h : PTs X e t) (i : ∀ σ H Q, t' σ H Q → t σ H Q) : PTs X e t' := ⟨fun pins s σ H Q I q => h.run pins s σ H Q I (i σ H Q q)⟩
theorem mts_nil : MTs X W [] tYesM := pts_imp pts_nil fun σ H Q ⟨m, S, ρ, rs, re, q⟩ => q m H true (Fin.refl rs) rfl
theorem mts_one {c : Expr} (h : MT X W c t) : MTs X W [c] t := pts_one h
theorem me_lc {n : Nat} {elt tg iter : Expr} {ifs : List Expr} {scope : Scope} {own : List (Str × Nat)} {pos : Pos} (hst : X.stack = X.env :: X.outer) (hf : X.env.frame = some X.env.locals) (tk : Takes X W)
    (hc : X.calm = true) (hN : X.N.Nodup) (hn : X.N.length = n) (hi : MI X W tg iter f) (ok : BlkOk X.N X.env.scope scope own)
    (hg : ∀ (s : Shared) (H : Hp) (C : Addr) (cl : List (Str × Addr)) (fp : List Addr) (xe : Value → Shared → Prop), MC (blkE X s H scope (compEnvC scope cl C X.env) fp xe) (own.map (·.2)) tg g)
    (ht : ∀ (s : Shared) (H : Hp) (C : Addr) (cl : List (Str × Addr)) (fp : List Addr) (xe : Value → Shared → Prop) (Wb : WX), Takes (blkE X s H scope (compEnvC scope cl C X.env) fp xe) Wb → MTs (blkE X s H scope (compEnvC scope cl C X.env) fp xe) Wb ifs t)
    (he : ∀ (s : Shared) (H : Hp) (C : Addr) (cl : List (Str × Addr)) (fp : List Addr) (xe : Value → Shared → Prop) (Wb : WX), Takes (blkE X s H scope (compEnvC scope cl C X.env) fp xe) Wb → ME (blkE X s H scope (compEnvC scope cl C X.env) fp xe) Wb elt e) (hs : ∀ x, foldedSetIterable iter X.env x = pure x := by intro _; rfl) :
    ME X W (.ListComp elt [⟨tg, iter, ifs, 0⟩] scope pos) (eLc n (own.map (·.2)) f g t e) := by
  refine ⟨fun pins s σ H Q I h => ?_⟩
  rw [eval_ListComp]
  refine lc_coreX hst hf tk hc hN I hi ok hg (fun σ s H C cl fp xe tb => ht s H C cl fp xe _ tb) (fun σ s H C cl fp xe tb => he s H C cl fp xe _ tb) hs (tLcX_of (I.len.trans hn) h) fun D ce s' m H' I' q hn f => ⟨m, hn, fun h'' sb => ?_⟩
  obtain ⟨f0, f1, f2, f3, f4, f5⟩ := f
  exact ⟨.ref D, H', I'.turned (t' := s'.toks) (fun b o hb e => (sb.2 b hb).trans e) f0 f1 f3 f4 f5, rfl, q⟩
theorem ms_lc {n : Nat} {i : Nat} {y : Str} {py spos : Pos} {elt tg iter : Expr} {ifs : List Expr} {scope : Scope} {own : List (Str × Nat)} {pos : Pos} (hst : X.stack = X.env :: X.outer) (hf : X.env.frame = some X.env.locals) (tk : Takes X W)
    (hc : X.calm = true) (hN : X.N.Nodup) (hn : X.N.length = n) (hy : X.N[i]? = some y) (hyl : X.env.scope.names.lookup y = some .local)
    (hsw : swapsWith (.ListComp elt [⟨tg, iter, ifs, 0⟩] scope pos) (some (.Name y py)) spos.line X.env = pure true) (hi : MI X W tg iter f) (ok : BlkOk X.N X.env.scope scope own)
    (hg : ∀ (s : Shared) (H : Hp) (C : Addr) (cl : List (Str × Addr)) (fp : List Addr) (xe : Value → Shared → Prop), MC (blkE X s H scope (compEnvC scope cl C X.env) fp xe) (own.map (·.2)) tg g)
    (ht : ∀ (s : Shared) (H : Hp) (C : Addr) (cl : List (Str × Addr)) (fp : List Addr) (xe : Value → Shared → Prop) (Wb : WX), Takes (blkE X s H scope (compEnvC scope cl C X.env) fp xe) Wb → MTs (blkE X s H scope (compEnvC scope cl C X.env) fp xe) Wb ifs t)
    (he : ∀ (s : Shared) (H : Hp) (C : Addr) (cl : List (Str × Addr)) (fp : List Addr) (xe : Value → Shared → Prop) (Wb : WX), Takes (blkE X s H scope (compEnvC scope cl C X.env) fp xe) Wb → ME (blkE X s H scope (compEnvC scope cl C X.env) fp xe) Wb elt e) (hs : ∀ x, foldedSetIterable iter X.env x = pure x := by intro _; rfl) :
    MS X W (.Assign [.Name y py] (.ListComp elt [⟨tg, iter, ifs, 0⟩] scope pos) spos) (sAsg (eLc n (own.map (·.2)) f g t e) (gN i)) := by
  refine ⟨fun pins s σ H D I h => ?_⟩
  rw [exec_Assign_Name_used _ _ _ _ hsw]
  refine wpAny_bind (wpAny_standAt (wpAny_bind ?_))
  show wpAny _ X.A (do let _ ← comprehension (.ListComp elt [⟨tg, iter, ifs, 0⟩] scope pos) scope X.env (firstIterPos [⟨tg, iter, ifs, 0⟩] pos) (newList []) false (eval iter X.env) (some (assign (.Name y py) X.env))) _ _ s
  have h : tAsg (tE X.K W (eLc n (own.map (·.2)) f g t e)) (tG X.K (gN i)) D σ H := tAsg_of h
  refine wpAny_bind (thn (lc_coreX (Qf := fun _ s' => SP X pins D .next s') (Q := fun x H1 => tG X.K (gN i) x σ H1 D.nx) hst hf tk hc hN I hi ok hg (fun σ s H C cl fp xe tb => ht s H C cl fp xe _ tb) (fun σ s H C cl fp xe tb => he s H C cl fp xe _ tb) hs (tLcX_of (I.len.trans hn) h) fun L ce s' m H' I' q hn f => ?_) fun _ s' hq => wpAny_pure (wpAny_pure hq))
  show wpAny _ _ (assign (.Name y py) X.env (.ref L)) _ _ _
  obtain ⟨m0, S0, d0, ρ0, ρ1, rs0, re0, rv0, eg, q⟩ := q
  cases eg
  have q := q _ (re0.set rv0)
  refine wpAny_assign_Name (store_ok2 (v := V.ref L) I' hN hy (.inl hyl) rfl (fun s2 I2 ⟨a, sb, ha⟩ => ?_) (.inr hyl))
  obtain ⟨f0, f1, f2, f3, f4, f5⟩ := f
  have haC : ce.locals ≠ a := by
    rcases ha with z | z
    · rw [z]; exact f1
    · exact fun e => f4 y a z e.symm
  refine ⟨m, hn.sameBut sb haC, fun h3 sb3 => ?_⟩
  exact ⟨_, H', I2.turned (t' := s2.toks) (fun b o hb e => (sb3.2 b hb).trans e) f0 f1 f3 f4 f5, q⟩
end
end M1

end

section
set_option maxRecDepth 100000
set_option maxHeartbeats 2000000
/-! M7: built-in functions, types and methods -/
namespace M1
open PySem PySem.Spec PyProof.Rows L2

section
variable {X : Cx} {W : WX} {x : Str} {p pos : Pos} {e : Expr} {es : List Expr} {f : Ax} {g : List D → Store → O D} {id T : String}
theorem me_callTy (hc : CallR X (.type T) (rOL X.K g)) (hg : Gl X x) (hm : X.mg x = none) (hv : bootBuiltins x = some (.type T)) (ha : MA X W (e :: es) f) (hn : x ≠ "__name__" := by decide) (hdb : (x == ("__debug__" : Str)) = false := by decide)
    (he : starEach (e :: es) X.env = (false, eval e X.env) :: starEach es X.env := by rfl) (hpl : (backTo pos (starEach es X.env)).any (·.1) = false := by rfl) : ME X W (.Call (.Name x p) (e :: es) [] pos) (eCall g f) :=
  pe_imp (pe_callTy hc hg hm hv ha hn hdb he hpl) fun _ _ _ => tCB_of
end
theorem Ok1.none {α β : Type} {K : PySem.W.Frag} {P : (Nat → Addr) → Nat → Hp → α → β → Prop} {m : Nat → Addr} {S : Store} {H : Hp} {Q : β → Hp → Prop} (h : Ok1 K P Option.none m S H Q) : False := by
  obtain ⟨_, _, e, _⟩ := h; cases e
theorem Rvs.one_of {K : PySem.W.Frag} {m : Nat → Addr} {N : Nat} {H : Hp} {d : D} {vs : List V} (h : Rvs K m N H [d] vs) : ∃ v, vs = [v] ∧ Rv K m N H d v := by
  simp only [Rvs] at h
  obtain ⟨v, r, rfl, h1, rfl⟩ := h
  exact ⟨v, rfl, h1⟩
theorem Rvs.two_of {K : PySem.W.Frag} {m : Nat → Addr} {N : Nat} {H : Hp} {d d2 : D} {vs : List V} (h : Rvs K m N H [d, d2] vs) : ∃ v v2, vs = [v, v2] ∧ Rv K m N H d v ∧ Rv K m N H d2 v2 := by
  simp only [Rvs] at h
  obtain ⟨v, r, rfl, h1, v2, r2, rfl, h2, rfl⟩ := h
  exact ⟨v, v2, rfl, h1, h2⟩

/-! ### len, int, tuple, list -/
def cLen (xs : List D) (S : Store) : O D := match xs with
  | [.str z] => if z.length ≤ sizeLine then some (.int z.length, S) else none
  | [.byt b] => if b.size ≤ sizeLine then some (.int b.size, S) else none
  | [.tup ds] => some (.int ds.length, S)
  | [.loc n] => (lstOf S n).map fun ds => (.int ds.length, S)
  | _ => none
def cInt (xs : List D) (S : Store) : O D := match xs with
  | [.int i] => some (.int i, S)
  | [.bl b] => some (.int (if b then 1 else 0), S)
  | _ => none
def cTup (xs : List D) (S : Store) : O D := match xs with
  | [.tup ds] => some (.tup ds, S)
  | [.loc n] => (lstOf S n).map fun ds => (.tup ds, S)
  | _ => none
def cLst (xs : List D) (S : Store) : O D := match xs with
  | [.tup ds] => some (.loc S.length, S ++ [.lst ds])
  | [.loc n] => (lstOf S n).map fun ds => (.loc S.length, S ++ [.lst ds])
  | _ => none
section
variable {X : Cx}
theorem cr_len : CallR X (.builtin "len") (rOL X.K cLen) := by
  intro pins s σ H xs us Q I r h
  obtain ⟨m, S, ds, rs, rx, ok⟩ := h
  refine call_len pins s σ H xs us Q I r ?_
  unfold cLen at ok
  split at ok
  · split at ok
    · rename_i hz; obtain ⟨v, rfl, r1⟩ := rx.one_of; cases r1; exact ⟨_, _, rfl, ⟨hz, rfl⟩, ok.same rs rfl rfl⟩
    · exact ok.none.elim
  · split at ok
    · rename_i hz; obtain ⟨v, rfl, r1⟩ := rx.one_of; cases r1; exact ⟨_, _, rfl, ⟨hz, rfl⟩, ok.same rs rfl rfl⟩
    · exact ok.none.elim
  · obtain ⟨v, rfl, r1⟩ := rx.one_of
    obtain ⟨a, vs, rfl, q, r2⟩ := r1.tup
    exact ⟨_, vs.length, rfl, .inr ⟨vs, q, rfl⟩, ok.same rs rfl (by rw [r2.length]; rfl)⟩
  · rename_i n
    obtain ⟨v, rfl, r1⟩ := rx.one_of
    cases h1 : lstOf S n with
    | none => rw [h1] at ok; exact ok.none.elim
    | some ds =>
      rw [h1] at ok
      obtain ⟨_, rfl⟩ := r1.loc
      obtain ⟨vs, q, r2⟩ := rs.list h1
      exact ⟨_, vs.length, rfl, .inl ⟨vs, q, rfl⟩, ok.same rs rfl (by rw [r2.length]; rfl)⟩
  · exact ok.none.elim
theorem cr_int : CallR X (.type "int") (rOL X.K cInt) := by
  intro pins s σ H xs us Q I r h
  obtain ⟨m, S, ds, rs, rx, ok⟩ := h
  refine call_int1 pins s σ H xs us Q I r ?_
  unfold cInt at ok
  split at ok
  · obtain ⟨v, rfl, r1⟩ := rx.one_of; cases r1; exact .inl ⟨_, rfl, ok.same rs rfl rfl⟩
  · obtain ⟨v, rfl, r1⟩ := rx.one_of; cases r1; exact .inr ⟨_, rfl, ok.same rs rfl rfl⟩
  · exact ok.none.elim
theorem cr_tup : CallR X (.type "tuple") (rOL X.K cTup) := by
  intro pins s σ H xs us Q I r h
  obtain ⟨m, S, ds, rs, rx, ok⟩ := h
  refine call_tuple_of pins s σ H xs us Q I r ?_
  unfold cTup at ok
  split at ok
  · obtain ⟨v, rfl, r1⟩ := rx.one_of
    obtain ⟨a, vs, rfl, q, r2⟩ := r1.tup
    exact ⟨a, vs, rfl, .inr ⟨q, ok.same rs rfl r1⟩⟩
  · rename_i n
    obtain ⟨v, rfl, r1⟩ := rx.one_of
    cases h1 : lstOf S n with
    | none => rw [h1] at ok; exact ok.none.elim
    | some ds =>
      rw [h1] at ok
      obtain ⟨_, rfl⟩ := r1.loc
      obtain ⟨vs, q, r2⟩ := rs.list h1
      exact ⟨_, vs, rfl, .inl ⟨q, fun l hl => ok.tup rs rfl r2 hl⟩⟩
  · exact ok.none.elim
theorem cr_lst : CallR X (.type "list") (rOL X.K cLst) := by
  intro pins s σ H xs us Q I r h
  obtain ⟨m, S, ds, rs, rx, ok⟩ := h
  refine call_list_of pins s σ H xs us Q I r ?_
  unfold cLst at ok
  split at ok
  · obtain ⟨v, rfl, r1⟩ := rx.one_of
    obtain ⟨a, vs, rfl, q, r2⟩ := r1.tup
    exact ⟨a, vs, rfl, .inr q, fun l hl => ok.lst rs rfl r2 hl⟩
  · rename_i n
    obtain ⟨v, rfl, r1⟩ := rx.one_of
    cases h1 : lstOf S n with
    | none => rw [h1] at ok; exact ok.none.elim
    | some ds =>
      rw [h1] at ok
      obtain ⟨_, rfl⟩ := r1.loc
      obtain ⟨vs, q, r2⟩ := rs.list h1
      exact ⟨_, vs, rfl, .inl q, fun l hl => ok.lst rs rfl r2 hl⟩
  · exact ok.none.elim

/-! ### all, any -/
def blsOf : List D → Option (List Bool)
  | [] => some []
  | .bl b :: r => (blsOf r).map (b :: ·)
  | _ => none
theorem Rvs.bls {K : PySem.W.Frag} {m : Nat → Addr} {N : Nat} {H : Hp} : ∀ {ds : List D} {vs : List V} {bs : List Bool}, Rvs K m N H ds vs → blsOf ds = some bs → vs = bs.map V.bl
  | [], _, _, r, e => by simp only [Rvs] at r; simp only [blsOf, Option.some.injEq] at e; subst r; subst e; rfl
  | d :: ds, _, _, r, e => by
    simp only [Rvs] at r
    obtain ⟨v, r', rfl, h1, h2⟩ := r
    unfold blsOf at e
    split at e
    · rename_i heq; cases heq
    · rename_i b r1 heq
      cases heq
      simp only [Option.map_eq_some_iff] at e
      obtain ⟨bs, e1, rfl⟩ := e
      cases h1
      rw [Rvs.bls h2 e1]; rfl
    · cases e
def cAll (xs : List D) (S : Store) : O D := match xs with
  | [.loc n] => ((lstOf S n).bind blsOf).map fun bs => (.bl (bs.all id), S)
  | _ => none
def cAny (xs : List D) (S : Store) : O D := match xs with
  | [.loc n] => ((lstOf S n).bind blsOf).map fun bs => (.bl (bs.any id), S)
  | _ => none
theorem cr_allM (hc : X.calm = true) : CallR X (.builtin "all") (rOL X.K cAll) := by
  intro pins s σ H xs us Q I r h
  obtain ⟨m, S, ds, rs, rx, ok⟩ := h
  refine cr_all hc pins s σ H xs us Q I r ?_
  unfold cAll at ok
  split at ok
  · rename_i n
    obtain ⟨v, rfl, r1⟩ := rx.one_of
    cases h1 : (lstOf S n).bind blsOf with
    | none => rw [h1] at ok; exact ok.none.elim
    | some bs =>
      rw [h1] at ok
      simp only [Option.bind_eq_some_iff] at h1
      obtain ⟨ds, e1, e2⟩ := h1
      obtain ⟨_, rfl⟩ := r1.loc
      obtain ⟨vs, q, r2⟩ := rs.list e1
      have := r2.bls e2
      subst this
      exact ⟨_, bs, rfl, q, ok.same rs rfl rfl⟩
  · exact ok.none.elim
theorem cr_anyM (hc : X.calm = true) : CallR X (.builtin "any") (rOL X.K cAny) := by
  intro pins s σ H xs us Q I r h
  obtain ⟨m, S, ds, rs, rx, ok⟩ := h
  refine cr_any hc pins s σ H xs us Q I r ?_
  unfold cAny at ok
  split at ok
  · rename_i n
    obtain ⟨v, rfl, r1⟩ := rx.one_of
    cases h1 : (lstOf S n).bind blsOf with
    | none => rw [h1] at ok; exact ok.none.elim
    | some bs =>
      rw [h1] at ok
      simp only [Option.bind_eq_some_iff] at h1
      obtain ⟨ds, e1, e2⟩ := h1
      obtain ⟨_, rfl⟩ := r1.loc
      obtain ⟨vs, q, r2⟩ := rs.list e1
      have := r2.bls e2
      subst this
      exact ⟨_, bs, rfl, q, ok.same rs rfl rfl⟩
  · exact ok.none.elim

/-! ### in, not in -/
def flatD : D → Bool
  | .non | .bl _ | .int _ | .str _ => true
  | _ => false
def vOf : D → V
  | .non => .non
  | .bl b => .bl b
  | .int i => .int i
  | .str z => .str z
  | _ => .non
theorem Rv.flat {K : PySem.W.Frag} {m : Nat → Addr} {N : Nat} {H : Hp} {d : D} {v : V} (r : Rv K m N H d v) (f : flatD d = true) : v = vOf d ∧ flatV v = true := by
  cases d <;> first | (cases r; exact ⟨rfl, rfl⟩) | cases f
theorem Rvs.flat {K : PySem.W.Frag} {m : Nat → Addr} {N : Nat} {H : Hp} : ∀ {ds : List D} {vs : List V}, Rvs K m N H ds vs → ds.all flatD = true → vs = ds.map vOf ∧ vs.all flatV = true
  | [], _, r, _ => by simp only [Rvs] at r; subst r; exact ⟨rfl, rfl⟩
  | d :: ds, _, r, f => by
    simp only [Rvs] at r
    obtain ⟨v, r', rfl, h1, h2⟩ := r
    rw [List.all_cons, Bool.and_eq_true] at f
    obtain ⟨a, b⟩ := h1.flat f.1
    obtain ⟨c, d⟩ := Rvs.flat h2 f.2
    subst a; subst c
    exact ⟨rfl, by rw [List.all_cons, b, d]; rfl⟩
def eqFl : D → D → Bool
  | .non, .non => true
  | .bl a, .bl b => a == b
  | .bl a, .int j => decide ((if a then 1 else 0) = j)
  | .int i, .bl b => decide (i = (if b then 1 else 0))
  | .int i, .int j => decide (i = j)
  | .str a, .str b => decide (a = b)
  | _, _ => false
def inD (x : D) (xs : List D) : Option Bool := if flatD x = true ∧ xs.all flatD = true then some (inV (vOf x) (xs.map vOf)) else none
def opInG (neg : Bool) (x y : D) (S : Store) : O D := match y with
  | .tup ds => (inD x ds).map fun b => (.bl (if neg then !b else b), S)
  | .loc n => ((lstOf S n).bind (inD x)).map fun b => (.bl (if neg then !b else b), S)
  | _ => none
theorem opp_inG {X : Cx} {neg : Bool} {op : CmpOp} (ho : OpR X (compareOp op) (rIn X.K neg)) : OpR X (compareOp op) (rO2 X.K (opInG neg)) := by
  intro pins s σ H v u vv uu Q I rv ru h
  obtain ⟨m, S, x, y, rs, rx, ry, ok⟩ := h
  refine ho pins s σ H v u vv uu Q I rv ru ?_
  unfold opInG at ok
  split at ok
  · rename_i ds
    obtain ⟨a, vs, rfl, q, r2⟩ := ry.tup
    unfold inD at ok
    by_cases hf : flatD x = true ∧ ds.all flatD = true
    · rw [if_pos hf] at ok
      obtain ⟨rfl, f1⟩ := rx.flat hf.1
      obtain ⟨rfl, f2⟩ := r2.flat hf.2
      exact ⟨a, _, rfl, .inr q, f1, f2, ok.same rs rfl (by split <;> rfl)⟩
    · rw [if_neg hf] at ok; exact ok.none.elim
  · rename_i n
    cases h1 : lstOf S n with
    | none => rw [h1] at ok; exact ok.none.elim
    | some ds =>
      rw [h1] at ok
      obtain ⟨_, rfl⟩ := ry.loc
      obtain ⟨vs, q, r2⟩ := rs.list h1
      simp only [Option.bind_some] at ok
      unfold inD at ok
      by_cases hf : flatD x = true ∧ ds.all flatD = true
      · rw [if_pos hf] at ok
        obtain ⟨rfl, f1⟩ := rx.flat hf.1
        obtain ⟨rfl, f2⟩ := r2.flat hf.2
        exact ⟨_, _, rfl, .inl q, f1, f2, ok.same rs rfl (by split <;> rfl)⟩
      · rw [if_neg hf] at ok; exact ok.none.elim
  · exact ok.none.elim
abbrev opIn := opInG false
abbrev opNin := opInG true
theorem opp_in : OpR X (compareOp .In) (rO2 X.K opIn) := opp_inG op_in_seq
theorem opp_nin : OpR X (compareOp .NotIn) (rO2 X.K opNin) := opp_inG op_notIn_seq
/-- a sign in a text -/
def opInC (x y : D) (S : Store) : O D := match x, y with
  | .str a, .str z => if a.cps.size = 1 then some (.bl (decide (a.cps.getD 0 0 ∈ z.cps.toList)), S) else none
  | _, _ => none
theorem opp_inC : OpR X (compareOp .In) (rO2 X.K opInC) := by
  intro pins s σ H v u vv uu Q I rv ru h
  obtain ⟨m, S, x, y, rs, rx, ry, ok⟩ := h
  refine op_in_sign pins s σ H v u vv uu Q I rv ru ?_
  unfold opInC at ok
  split at ok
  · rename_i a z
    split at ok
    · rename_i hz
      cases rx; cases ry
      obtain ⟨⟨l⟩⟩ := a
      have : ∃ c, l = [c] := by
        simp at hz
        exact List.length_eq_one_iff.mp hz
      obtain ⟨c, rfl⟩ := this
      exact ⟨c, z, rfl, rfl, ok.same rs rfl (by simp [Rv])⟩
    · exact ok.none.elim
  · exact ok.none.elim
end
end M1

end

section
set_option maxRecDepth 100000
set_option maxHeartbeats 2000000
/-! M8: own exceptions: raise, try -/
namespace M1
open PySem PySem.Spec PyProof.Rows L2

section
variable {X : Cx} {W : WX} {e : Expr} {es : List Expr} {fa : Ax} {p p1 p2 pos pos' : Pos} {x : Str} {C : Addr}
/-! ### C.__init__(self, ..) of an own class over ValueError -/
structure OwnInit (K : PySem.W.Frag) (C : Addr) : Prop where
  ga : PySem.W.specialIn K (.ref C) "__getattribute__" = some (some (.builtin "type.__getattribute__"))
  rd : PySem.W.readsIn K C (.type "type") = true
  fd : PySem.W.findCls K (.ref C) (.type "type") "__init__" = some (.val (.builtin "ValueError.__init__"))
theorem pe_oinit {ta : TA} {pl : Sem Bool} (hg : Gl X x) (hm : X.mg x = some (.ref C)) (T0 : OwnInit X.K C) (ha : PA X (e :: es) ta) (hdb : (x == ("__debug__" : Str)) = false := by decide)
    (hc : eval (.Call (.Attribute (.Name x p1) "__init__" p2) (e :: es) [] pos) X.env = (do
      let ov ← eval (.Name x p1) X.env
      standAt p2.atName
      let (f, first) ← holding [ov] (getMethod ov "__init__" pl)
      callWith pos f first (backTo pos (starEach (e :: es) X.env)) (backToKw pos (keywordEach [] X.env))) := by rfl)
    (he : starEach (e :: es) X.env = (false, eval e X.env) :: starEach es X.env := by rfl) (hpl : (backTo pos (starEach es X.env)).any (·.1) = false := by rfl) :
    PE X (.Call (.Attribute (.Name x p1) "__init__" p2) (e :: es) [] pos) (tVeI X.K ta) := by
  refine ⟨fun pins s σ H Q I h => ?_⟩
  refine PySem.W.methodCall_KW (ld_glob I hg hm ?_ hdb) hc
  refine PySem.W.method_cls I.kIn T0.ga (PySem.W.cls_value I.kIn T0.rd T0.fd (by decide +kernel) ?_)
  show wpAny _ _ (callWith pos (Value.builtin "ValueError.__init__") [] (backTo pos (starEach (e :: es) X.env)) []) _ _ _
  refine PyProof.Rows.callWith_method1 (thn (ha.run pos pins _ σ H _ (I.tok _) h) fun us s1 ⟨vs, H1, I1, r1, a, C, ws, ev, hl, T, ea, q⟩ => ?_) he hpl
  subst ev
  cases r1 with
  | @cons _ u0 _ ur ra rw' =>
    obtain rfl : u0 = Value.ref a := ra
    have hlen : ur.length ≤ sizeLine := by
      rw [← Paired.length rw', sizeLine_eq]
      omega
    exact oinit_ok T I1 ea hlen fun s' J => ⟨.non, H1, J, rfl, q⟩

/-- what __init__(self, x) of such a class does: self.f = x -/
def spOx (K : PySem.W.Frag) (f : Str) : Sp := fun vs H Q _ => ∃ (a C : Addr) (y : V), vs = [.ref a, y] ∧ OexC K C ∧ PySem.W.findIn K (.ref C) f = some none ∧ H a = some (exo a C none) ∧
  ∀ dx, H dx = none → dx ≠ a → Q .non (upd (upd H dx (exd dx [(f, y)])) a (exo a C (some dx)))
/-- raise C(x) -/
def sRaise1 (C : Addr) (f : Str) (fa : Ax) : Sm := sE fa fun ds ρ S => match ds with
  | [d] => .ex (.ref C) (some S.length) ρ (S ++ [.xd [(f, d)]])
  | _ => .er
theorem upd_made {H : Hp} {a dx : Addr} {u v : HO} {w1 w2 : HO} (ha : H a = none) (ne : dx ≠ a) : upd (del (upd (upd (upd H a w1) dx w2) a u) a) dx v = upd H dx v := by
  funext b
  by_cases h1 : b = dx
  · rw [h1, upd_same, upd_same]
  · rw [upd_ne h1, upd_ne h1]
    by_cases h2 : b = a
    · rw [h2, del_same, ha]
    · rw [del_ne h2, upd_ne h2, upd_ne h1, upd_ne h2]
structure RaiseOx (P : Program) (w : World) (K : PySem.W.Frag) (mg : Str → Option Value) (base : Heap) (k : Nat) (x : Str) (C : Addr) (f : Str) : Prop where
  ex : ∃ (fI : Addr) (fd : FuncData) (ps : List Str), FnOk P w K mg base (L2.CX P w) k fI fd ps (spOx K f) ∧ OexC K C ∧ PySem.W.findIn K (.ref C) f = some none ∧ PySem.W.findIn K (.ref C) "__init__" = some (some (.ref fI)) ∧
    PySem.W.typeIn K (.ref fI) = some (.type "function") ∧ mg x = some (.ref C) ∧ Binds K fd ps []
theorem passNo (tk : Takes X W) : Passes (L2.CX X.prog X.w) X (fun _ _ _ => False) := passes_call tk fun _ _ _ _ h => h.elim
theorem ms_raise1 {f : Str} {k j : Nat} (c : RaiseOx X.prog X.w X.K X.mg X.base k x C f) (hr : Room j X.A) (hk : k + 1 ≤ j) (hc : X.calm = true) (tk : Takes X W) (hg : Gl X x) (ha : MA X W (e :: es) fa)
    (hdb : (x == ("__debug__" : Str)) = false := by decide) (he : starEach (e :: es) X.env = (false, eval e X.env) :: starEach es X.env := by rfl) (hpl : (backTo pos (starEach es X.env)).any (·.1) = false := by rfl) :
    MS X W (.Raise (some (.Call (.Name x p) (e :: es) [] pos)) none pos') (sRaise1 C f fa) := by
  obtain ⟨fI, fd, ps, F1, T, hno, iC, tI, hm, hb⟩ := c.ex
  refine ps_imp (ps_raise hc tk (pmk_oex T iC tI F1 (hr.mono hk) hb .nil (passNo tk) hg hm ha hdb he hpl)) fun E σ H q => ?_
  obtain ⟨m, S, ρ, rs, re, q⟩ := tS_bind (P := Rvs X.K) (f := fa) q
  refine ⟨m, S, ρ, rs, re, q.mono fun vs H1 ⟨m1, S1, ds, ρ1, rs1, re1, p, q1⟩ => ?_⟩
  split at q1
  · rename_i d
    obtain ⟨v, rfl, r1⟩ := p.one_of
    refine ⟨by simp, fun a hn => ⟨a, C, v, rfl, T, hno, upd_same, fun dx hdx ne => ⟨rfl, dx, [(f, v)], upd_same, by rw [upd_ne ne, upd_same], ?_, ?_⟩⟩⟩
    · rw [upd_ne ne] at hdx; exact hdx
    · rw [upd_ne ne] at hdx
      rw [upd_made hn ne]
      have f1 : Fin X.K m1 S1 H1 (ext1 m1 S1.length dx) (S1 ++ [.xd [(f, d)]]) (upd H1 dx (.xd [(f, v)])) := by
        refine Fin.new rs1 hdx ⟨_, upd_same, ?_⟩
        simp only [Rk]
        exact ⟨v, [], rfl, r1.up (Nat.le_succ _) (fun n hn => ext1_old hn) (Mono.new hdx), rfl⟩
      have := q1 _ _ σ f1 (f1.re re1)
      simp only [Option.map_some, ext1_new] at this
      exact this
  · exact q1.elim
/-- raise C('text'), C an own class without __init__ -/
structure RaiseS (K : PySem.W.Frag) (mg : Str → Option Value) (x : Str) (C : Addr) : Prop where
  ex : ∃ (B newId initId : String) (bmB : List Value), ExcBaseFacts B newId initId bmB ∧ PySem.W.excIn K C bmB newId = true ∧ mg x = some (.ref C) ∧ PySem.W.keepIn K (.ref C) = true ∧ PySem.W.subIn K (.ref C) (.type "BaseException") = some true ∧ PySem.W.typeIn K (.ref C) = some (.type "type")
def sRaise0 (C : Addr) : Sm := fun ρ S => .ex (.ref C) none ρ S
theorem ms_raise0 {m : Str} {j : Nat} (c : RaiseS X.K X.mg x C) (hc : X.calm = true) (tk : Takes X W) (hg : Gl X x) (hdb : (x == ("__debug__" : Str)) = false := by decide) :
    MS X W (.Raise (some (.Call (.Name x p) [.Constant (.str m) j p2] [] pos)) none pos') (sRaise0 C) := by
  obtain ⟨B, newId, initId, bmB, F, q, hm, kC, e1, e2⟩ := c.ex
  exact ps_imp (ps_raise hc tk (pmk_own F q hm kC (raises_own e1 e2) hg hdb)) fun E σ H ⟨m, S, ρ, rs, re, q⟩ => q m H σ (Fin.refl rs) re

/-! ### try -/
/-- try: body; except C as n: return n.f -/
def sTryF (i : Nat) (b : Sm) (ans : Value → Option Bool) (C : Addr) (f : Str) : Sm := fun ρ S => match b ρ S with
  | .ex c d ρ' S' => match ans c with
    | some true => if c = .ref C ∧ i < ρ'.length then match d with
        | some n => match S'[n]? with
          | some (.xd fs) => match fs.lookup f with
            | some v => .rt v S'
            | none => .er
          | _ => .er
        | none => .er
      else .er
    | some false => .ex c d ρ' S'
    | none => .er
  | o => o
/-- try: body; except C: suite -/
def sTry (b : Sm) (ans : Value → Option Bool) (su : Sm) : Sm := fun ρ S => match b ρ S with
  | .ex c d ρ' S' => match ans c with
    | some true => match su ρ' S' with
      | .ex _ _ _ _ => .er
      | o => o
    | some false => .ex c d ρ' S'
    | none => .er
  | o => o
theorem ms_try_f {n xn : Str} {c : Value} {i : Nat} {body : List Stmt} {np ep ap rp tp : Pos} {b : Sm} {ans : Value → Option Bool} {f : Str} (hs : X.stack = X.env :: X.outer) (hf : X.env.frame = some X.env.locals) (hN : X.N.Nodup) (hi : X.N[i]? = some n) (hln : X.env.kindOf n = some .local) (hc : Names X xn c) (tk : Takes X W)
    (hans : ∀ c' b, ans c' = some b → PySem.W.exmOne X.K c' c = some b) (T : XfC X.K C) (hno : PySem.W.findIn X.K (.ref C) f = some none)
    (hb : ∀ (W : WX) (pn : List (Addr × Obj)) (xe : Value → Shared → Prop), Takes (X.tr pn xe) W → PassesOwn (model X.prog X.w) X.A X.env xe → MSs (X.tr pn xe) W body b)
    (hv : ∀ (a : Addr) (oe : Obj) (pn : List (Addr × Obj)), PE (X.suite a ((a, oe) :: pn)) (.Name n np) (tVar i)) (hbs : ∀ (a : Addr) (oe : Obj) (pn : List (Addr × Obj)), attributeBase (.Name n np) f X.env (eval (.Name n np) X.env) = eval (.Name n np) X.env := by intros; rfl) :
    MS X W (.Try body [.ExceptHandler (some (.Name xn ep)) (some n) [.Return (some (.Attribute (.Name n np) f ap)) rp] tp] [] [] pos) (sTryF i b ans C f) := by
  refine ps_imp (ps_try_as (ts := fun a cls d => tRet (tXf a cls d C f (tVar i))) (b₀ := .Return (some (.Attribute (.Name n np) f ap)) rp) (suite := []) (tb := fun W => tS X.K W b) hs hf hN hi hln hc tk hb fun a oe cls d pn hz hd => pss_one (ps_ret (pe_xf T hno hz hd (hv a oe pn) (hbs a oe pn)))) fun E σ H ⟨m, S, ρ, rs, re, q⟩ => ?_
  refine ⟨m, S, ρ, rs, re, ?_⟩
  unfold sTryF at q
  cases e1 : b ρ S with
  | nx ρ' S' => simp only [e1] at q; exact q
  | rt d S' => simp only [e1] at q; exact q
  | bk ρ' S' => simp only [e1] at q; exact q
  | ct ρ' S' => simp only [e1] at q; exact q
  | er => simp only [e1] at q; exact q.elim
  | ex cl d ρ' S' =>
    simp only [e1] at q
    intro m' H' σ' g re'
    cases ea : ans cl with
    | none => simp only [ea] at q; exact q.elim
    | some v =>
      refine ⟨v, hans _ _ ea, fun hv1 a na => ?_, fun hv1 => ?_⟩
      · subst hv1
        simp only [ea] at q
        split at q
        · rename_i hcl
          split at q
          · rename_i n'
            split at q
            · rename_i fs hS
              split at q
              · rename_i v hl
                obtain ⟨vs, hx, r⟩ := g.rs.at_ n' _ hS
                obtain ⟨u, hu, ru⟩ := r.lookup hl
                refine ⟨.ref a, ?_, rfl, hcl.1, _, vs, u, rfl, hx, hu, q m' H' u g ru⟩
                exact List.getElem?_set_self (Nat.lt_of_lt_of_le hcl.2 re'.len)
              · exact q.elim
            · exact q.elim
          · exact q.elim
        · exact q.elim
      · subst hv1
        simp only [ea] at q
        exact q m' H' σ' g re'
theorem ms_try {xn : Str} {c : Value} {body suite : List Stmt} {b₀ : Stmt} {ep tp : Pos} {b su : Sm} {ans : Value → Option Bool} (hs : X.stack = X.env :: X.outer) (hf : X.env.frame = some X.env.locals) (hc : Names X xn c) (tk : Takes X W)
    (hans : ∀ c' b, ans c' = some b → PySem.W.exmOne X.K c' c = some b)
    (hb : ∀ (W : WX) (pn : List (Addr × Obj)) (xe : Value → Shared → Prop), Takes (X.tr pn xe) W → PassesOwn (model X.prog X.w) X.A X.env xe → MSs (X.tr pn xe) W body b)
    (hsu : ∀ (a : Addr) (oe : Obj) (pn : List (Addr × Obj)), MSs (X.suite a ((a, oe) :: pn)) (fun _ _ _ _ => False) (b₀ :: suite) su) :
    MS X W (.Try body [.ExceptHandler (some (.Name xn ep)) none (b₀ :: suite) tp] [] [] pos) (sTry b ans su) := by
  refine ps_imp (ps_try_only (ts := fun a cls d => tS X.K (fun _ _ _ _ => False) su) (tb := fun W => tS X.K W b) hs hf hc tk hb fun a oe cls d pn hz hd => hsu a oe pn) fun E σ H ⟨m, S, ρ, rs, re, q⟩ => ?_
  refine ⟨m, S, ρ, rs, re, ?_⟩
  unfold sTry at q
  cases e1 : b ρ S with
  | nx ρ' S' => simp only [e1] at q; exact q
  | rt d S' => simp only [e1] at q; exact q
  | bk ρ' S' => simp only [e1] at q; exact q
  | ct ρ' S' => simp only [e1] at q; exact q
  | er => simp only [e1] at q; exact q.elim
  | ex cl d ρ' S' =>
    simp only [e1] at q
    intro m' H' σ' g re'
    cases ea : ans cl with
    | none => simp only [ea] at q; exact q.elim
    | some v =>
      refine ⟨v, hans _ _ ea, fun hv1 a na => ?_, fun hv1 => ?_⟩
      · subst hv1
        simp only [ea] at q
        refine ⟨m', S', ρ', g.rs, re', ?_⟩
        have q := AftS.shift g q
        cases e2 : su ρ' S' with
        | ex _ _ _ _ => simp only [e2] at q; exact q.elim
        | er => simp only [e2] at q; exact q.elim
        | nx _ _ => simp only [e2] at q; exact q
        | rt _ _ => simp only [e2] at q; exact q
        | bk _ _ => simp only [e2] at q; exact q
        | ct _ _ => simp only [e2] at q; exact q
      · subst hv1
        simp only [ea] at q
        exact q m' H' σ' g re'
end
end M1

end

section
set_option maxRecDepth 100000
set_option maxHeartbeats 2000000
/-! M9: methods of built-in types, bytes, isinstance, items stored -/
namespace M1
open PySem PySem.Spec PyProof.Rows L2

/-- a place's list is written: nothing is the value -/
theorem Ok1.write {K : PySem.W.Frag} {m : Nat → Addr} {S : Store} {H : Hp} {n : Nat} {l ys : List D} {vs us : List V} {Q : VK} {o : O D} (h : Ok1 K (Rv K) o m S H Q) (rs : RS K m S H) (e : o = some (.non, S.set n (.lst ys))) (hS : S[n]? = some (.lst l)) (hH : H (m n) = some (.lst vs)) (r : Rvs K m S.length H ys us) : Q .non (upd H (m n) (.lst us)) := by
  obtain ⟨d', S', e', q⟩ := h
  rw [e] at e'; cases e'
  have f : Fin K m S H m (S.set n (.lst ys)) (upd H (m n) (.lst us)) := Fin.write rs hS rfl ⟨us, upd_same, r.up (Nat.le_refl _) (fun _ _ => rfl) (Mono.write hH (fun _ z => by cases z) (fun _ _ z => by cases z))⟩
  exact q m _ _ f rfl
def isLst (S : Store) : D → Bool
  | .loc n => (lstOf S n).isSome
  | _ => false
def eMb (t : Store → D → Bool) (g : D → List D → Store → O D) (fo : Ex) (fa : Ax) : Ex := bnd fo fun o ρ S1 => if t S1 o = true then (fa ρ S1).bind fun ds S2 => R.of (g o ds S2) else .er
section
variable {X : Cx} {W : WX} {o e : Expr} {es : List Expr} {fo fe : Ex} {fa : Ax} {name : Str} {apos cpos pos : Pos} {T id : String} {g : D → List D → Store → O D}
theorem me_bmL (slot : Slot "list" name id) (hty : typeOf (.builtin id) = pure (.type "method_descriptor")) (hm : MtR X id (rOM X.K g)) (ho : ME X W o fo) (ha : MA X W (e :: es) fa)
    (hbase : attributeBase o name X.env (eval o X.env) = eval o X.env := by rfl)
    (hfew : ((backTo cpos (starEach (e :: es) X.env)).all (fun x => !x.1) && (backToKw cpos (keywordEach [] X.env)).all (fun x => x.1.isSome)
      && decide ((e :: es).length + ([] : List Keyword).length + (if ([] : List Keyword).isEmpty then 0 else 1) < 30)) = true := by rfl)
    (hline : (apos.endLine == cpos.line) = true := by rfl) (hs : starEach (e :: es) X.env = (false, eval e X.env) :: starEach es X.env := by rfl) (hplain : (backTo cpos (starEach es X.env)).any (·.1) = false := by rfl) :
    ME X W (.Call (.Attribute o name apos) (e :: es) [] cpos) (eMb isLst g fo fa) :=
  pe_imp (pe_bm F.plainAttrs_list slot hty hm ho ha hbase hfew hline hs hplain) fun σ H Q q => by
    obtain ⟨m, S, ρ, rs, re, q⟩ := tX_bind (P := Rv X.K) (f := fo) q
    refine ⟨m, S, ρ, rs, re, q.mono fun v H1 ⟨m1, S1, d, ρ1, rs1, re1, p, q1⟩ => ?_⟩
    split at q1
    · rename_i hl
      refine ⟨?_, m1, S1, ρ1, rs1, re1, (Aft.bind (P := Rvs X.K) q1).mono fun us H2 ⟨m2, S2, ds2, g2, p2, q2⟩ => ⟨m2, S2, d, ds2, g2.rs, g2.rv p, p2, Ok1.of q2⟩⟩
      cases d with
      | loc n =>
        simp only [isLst, Option.isSome_iff_exists] at hl
        obtain ⟨xs, hl⟩ := hl
        obtain ⟨_, rfl⟩ := p.loc
        obtain ⟨vs, q, _⟩ := rs1.list hl
        exact .inl ⟨rfl, vs, q⟩
      | _ => cases hl
    · exact q1.elim
def gApp (x : D) (xs : List D) (S : Store) : O D := match x, xs with
  | .loc n, [y] => match lstW S n with
    | some l => if l.length < sizeLine then some (.non, S.set n (.lst (l ++ [y]))) else none
    | none => none
  | _, _ => none
def gExt (x : D) (xs : List D) (S : Store) : O D := match x, xs with
  | .loc n, [.loc k] => match lstW S n, lstW S k with
    | some l, some l2 => if l.length + l2.length ≤ sizeLine then some (.non, S.set n (.lst (l ++ l2))) else none
    | _, _ => none
  | _, _ => none
theorem mt_app : MtR X "list.append" (rOM X.K gApp) := by
  intro pins s σ H x xs v us Q I rv rvs h
  obtain ⟨m, S, d, ds, rs, rx, ry, ok⟩ := h
  refine mt_append pins s σ H x xs v us Q I rv rvs ?_
  unfold gApp at ok
  split at ok
  · split at ok
    · rename_i hl
      split at ok
      · rename_i hz
        obtain ⟨_, rfl⟩ := rx.loc
        obtain ⟨v, rfl, r1⟩ := ry.one_of
        obtain ⟨hS, us, q, r2⟩ := rs.listW hl
        exact ⟨_, us, v, rfl, rfl, q, by rw [r2.length]; exact hz, ok.write rs rfl hS q (r2.append (Rvs.one r1))⟩
      · exact ok.none.elim
    · exact ok.none.elim
  · exact ok.none.elim
theorem mt_ext : MtR X "list.extend" (rOM X.K gExt) := by
  intro pins s σ H x xs v us Q I rv rvs h
  obtain ⟨m, S, d, ds, rs, rx, ry, ok⟩ := h
  refine mt_extend pins s σ H x xs v us Q I rv rvs ?_
  unfold gExt at ok
  split at ok
  · split at ok
    · rename_i hl hl2
      split at ok
      · rename_i hz
        obtain ⟨_, rfl⟩ := rx.loc
        obtain ⟨v, rfl, r1⟩ := ry.one_of
        obtain ⟨_, rfl⟩ := r1.loc
        obtain ⟨hS, us, q, r2⟩ := rs.listW hl
        obtain ⟨hS2, us2, q2, r22⟩ := rs.listW hl2
        exact ⟨_, _, us, us2, rfl, rfl, q, q2, by rw [r2.length, r22.length]; exact hz, ok.write rs rfl hS q (r2.append r22)⟩
      · exact ok.none.elim
    · exact ok.none.elim
  · exact ok.none.elim

/-! ### texts' methods -/
def isStr : Store → D → Bool
  | _, .str _ => true
  | _, _ => false
theorem me_m0 {r : V → List V → Hp → VK → Prop} (h : PE X (.Call (.Attribute o name apos) [] [] pos) (tM0 r (tE X.K W fo))) (hr : ∀ x xs H Q, rOM X.K g x xs H Q → r x xs H Q) : ME X W (.Call (.Attribute o name apos) [] [] pos) (eMb isStr g fo aNil) :=
  pe_imp h fun σ H Q q => by
    obtain ⟨m, S, ρ, rs, re, q⟩ := tX_bind (P := Rv X.K) (f := fo) q
    refine ⟨m, S, ρ, rs, re, q.mono fun v H1 ⟨m1, S1, d, ρ1, rs1, re1, p, q1⟩ => ?_⟩
    split at q1
    · rename_i hl
      refine ⟨?_, hr _ _ _ _ ⟨m1, S1, d, [], rs1, p, Rvs.nil, Ok1.of q1⟩⟩
      cases d with
      | str a => cases p; exact ⟨a, rfl⟩
      | _ => cases hl
    · exact q1.elim
theorem me_m1 {r : V → List V → Hp → VK → Prop} (h : PE X (.Call (.Attribute o name apos) [e] [] pos) (tM1 r (tE X.K W fo) (tE X.K W fe))) (hr : ∀ x xs H Q, rOM X.K g x xs H Q → r x xs H Q) : ME X W (.Call (.Attribute o name apos) [e] [] pos) (eMb isStr g fo (aCons fe aNil)) :=
  pe_imp h fun σ H Q q => by
    obtain ⟨m, S, ρ, rs, re, q⟩ := tX_bind (P := Rv X.K) (f := fo) q
    refine ⟨m, S, ρ, rs, re, q.mono fun v H1 ⟨m1, S1, d, ρ1, rs1, re1, p, q1⟩ => ?_⟩
    split at q1
    · rename_i hl
      refine ⟨?_, ?_⟩
      · cases d with
        | str a => cases p; exact ⟨a, rfl⟩
        | _ => cases hl
      · unfold aCons at q1
        simp only [bnd] at q1
        have q2 : tE X.K W (bnd fe fun d2 ρ2 S2 => R.of (g d [d2] S2)) σ H1 Q := by
          refine ⟨m1, S1, ρ1, rs1, re1, ?_⟩
          unfold bnd
          cases e1 : fe ρ1 S1 with
          | ok d2 S2 => rw [e1] at q1; exact q1
          | ex C dd S2 => rw [e1] at q1; exact q1
          | er => rw [e1] at q1; exact q1
        obtain ⟨m2, S2, ρ2, rs2, re2, q3⟩ := tX_bind (P := Rv X.K) (f := fe) q2
        clear q2
        refine ⟨m1, S1, ρ1, rs1, re1, ?_⟩
        have q4 : AftE X.K W ((fe ρ1 S1).bind fun d2 S2 => R.of (g d [d2] S2)) m1 S1 H1 σ Q := by
          cases e1 : fe ρ1 S1 with
          | ok d2 S2 => rw [e1] at q1; exact q1
          | ex C dd S2 => rw [e1] at q1; exact q1
          | er => rw [e1] at q1; exact q1
        exact (Aft.bind (P := Rv X.K) q4).mono fun u H2 ⟨m3, S3, d3, g3, p3, q5⟩ => hr _ _ _ _ ⟨m3, S3, d, [d3], g3.rs, g3.rv p, Rvs.one p3, Ok1.of q5⟩
    · exact q1.elim
def gUp (x : D) (xs : List D) (S : Store) : O D := match x, xs with
  | .str a, [] => if a.length ≤ 5592405 then some (.str (Txt.upper a), S) else none
  | _, _ => none
theorem me_upper (ho : ME X W o fo) (hbase : attributeBase o "upper" X.env (eval o X.env) = eval o X.env := by rfl) (hline : (apos.endLine == pos.line) = true := by rfl) : ME X W (.Call (.Attribute o "upper" apos) [] [] pos) (eMb isStr gUp fo aNil) :=
  me_m0 (pe_upper ho hbase hline) fun x xs H Q ⟨m, S, d, ds, rs, rx, ry, ok⟩ => by
    unfold gUp at ok
    split at ok
    · split at ok
      · rename_i hz
        cases rx
        simp only [Rvs] at ry
        exact ⟨_, rfl, ry, hz, ok.same rs rfl rfl⟩
      · exact ok.none.elim
    · exact ok.none.elim
def strsOf : List D → Option (List Str)
  | [] => some []
  | .str b :: r => (strsOf r).map (b :: ·)
  | _ => none
theorem Rvs.strs {K : PySem.W.Frag} {m : Nat → Addr} {N : Nat} {H : Hp} : ∀ {ds : List D} {vs : List V} {bs : List Str}, Rvs K m N H ds vs → strsOf ds = some bs → vs = bs.map V.str
  | [], _, _, r, e => by simp only [Rvs] at r; simp only [strsOf, Option.some.injEq] at e; subst r; subst e; rfl
  | d :: ds, _, _, r, e => by
    simp only [Rvs] at r
    obtain ⟨v, r', rfl, h1, h2⟩ := r
    unfold strsOf at e
    split at e
    · rename_i heq; cases heq
    · rename_i b r1 heq
      cases heq
      simp only [Option.map_eq_some_iff] at e
      obtain ⟨bs, e1, rfl⟩ := e
      cases h1
      rw [Rvs.strs h2 e1]; rfl
    · cases e
def gJoin (x : D) (xs : List D) (S : Store) : O D := match x, xs with
  | .str a, [.loc n] => match (lstOf S n).bind strsOf with
    | some ys => if (ys.map (·.length)).sum + ys.length * a.length ≤ 16777216 then some (.str (Txt.join a ys), S) else none
    | none => none
  | _, _ => none
theorem me_join (ho : ME X W o fo) (he : ME X W e fe) (hs : starEach [e] X.env = [(false, eval e X.env)] := by rfl) (hbase : attributeBase o "join" X.env (eval o X.env) = eval o X.env := by rfl) (hline : (apos.endLine == pos.line) = true := by rfl) :
    ME X W (.Call (.Attribute o "join" apos) [e] [] pos) (eMb isStr gJoin fo (aCons fe aNil)) :=
  me_m1 (pe_join ho he hs hbase hline) fun x xs H Q ⟨m, S, d, ds, rs, rx, ry, ok⟩ => by
    unfold gJoin at ok
    split at ok
    · split at ok
      · rename_i ys h1
        split at ok
        · rename_i hz
          simp only [Option.bind_eq_some_iff] at h1
          obtain ⟨ds, e1, e2⟩ := h1
          cases rx
          obtain ⟨v, rfl, r1⟩ := ry.one_of
          obtain ⟨_, rfl⟩ := r1.loc
          obtain ⟨vs, q, r2⟩ := rs.list e1
          have := r2.strs e2
          subst this
          exact ⟨_, _, ys, rfl, rfl, .inl q, hz, ok.same rs rfl rfl⟩
        · exact ok.none.elim
      · exact ok.none.elim
    · exact ok.none.elim

/-! ### bytes -/
def intsOf : List D → Option (List Int)
  | [] => some []
  | .int b :: r => (intsOf r).map (b :: ·)
  | _ => none
theorem Rvs.ints {K : PySem.W.Frag} {m : Nat → Addr} {N : Nat} {H : Hp} : ∀ {ds : List D} {vs : List V} {bs : List Int}, Rvs K m N H ds vs → intsOf ds = some bs → vs = bs.map V.int
  | [], _, _, r, e => by simp only [Rvs] at r; simp only [intsOf, Option.some.injEq] at e; subst r; subst e; rfl
  | d :: ds, _, _, r, e => by
    simp only [Rvs] at r
    obtain ⟨v, r', rfl, h1, h2⟩ := r
    unfold intsOf at e
    split at e
    · rename_i heq; cases heq
    · rename_i b r1 heq
      cases heq
      simp only [Option.map_eq_some_iff] at e
      obtain ⟨bs, e1, rfl⟩ := e
      cases h1
      rw [Rvs.ints h2 e1]; rfl
    · cases e
def is8 (ns : List Int) : Bool := ns.all fun n => decide (0 ≤ n ∧ n ≤ 255)
def bytesOf (ns : List Int) : Array UInt8 := (ns.map fun n => n.toNat.toUInt8).toArray
def cByt (xs : List D) (S : Store) : O D := match xs with
  | [.loc n] => match (lstOf S n).bind intsOf with
    | some ns => if is8 ns = true then some (.byt (bytesOf ns), S) else none
    | none => none
  | _ => none
theorem cr_byt (hc : X.calm = true) : CallR X (.type "bytes") (rOL X.K cByt) := by
  intro pins s σ H xs us Q I r h
  obtain ⟨m, S, ds, rs, rx, ok⟩ := h
  refine call_bytes_list hc pins s σ H xs us Q I r ?_
  unfold cByt at ok
  split at ok
  · split at ok
    · rename_i ns h1
      split at ok
      · rename_i hz
        simp only [Option.bind_eq_some_iff] at h1
        obtain ⟨ds, e1, e2⟩ := h1
        obtain ⟨v, rfl, r1⟩ := rx.one_of
        obtain ⟨_, rfl⟩ := r1.loc
        obtain ⟨vs, q, r2⟩ := rs.list e1
        have := r2.ints e2
        subst this
        refine ⟨_, ns, rfl, q, fun n hn => ?_, ok.same rs rfl rfl⟩
        unfold is8 at hz
        rw [List.all_eq_true] at hz
        have := hz n hn
        simp only [decide_eq_true_eq] at this
        exact ⟨this.1, by omega⟩
      · exact ok.none.elim
    · exact ok.none.elim
  · exact ok.none.elim
def hexD (n : Nat) : Nat := if n < 10 then 48 + n else 87 + n
def hexS (b : Array UInt8) : Str := ⟨(b.toList.flatMap fun c => [hexD (c.toNat / 16), hexD (c.toNat % 16)]).toArray⟩
theorem hexS_eq (b : Array UInt8) : hexS b = PySem.W.KBhx.text (PySem.W.KBw.bInts b) := by
  have key : ∀ l : List UInt8, (l.flatMap fun c => [hexD (c.toNat / 16), hexD (c.toNat % 16)]) = PySem.W.KBhx.signs (l.map fun c => ((c.toNat : Nat) : Int)) := by
    intro l
    induction l with
    | nil => rfl
    | cons c r ih =>
      rw [List.flatMap_cons, ih]
      rfl
  unfold hexS PySem.W.KBhx.text
  rw [key]
  rfl
def eHex (fo : Ex) : Ex := bnd fo fun o _ S => match o with
  | .byt b => if b.size ≤ 8388608 then .ok (.str (hexS b)) S else .er
  | _ => .er
theorem me_hex {pl : Sem Bool} (ho : ME X W o fo) (ht : eval (.Call (.Attribute o "hex" apos) [] [] pos) X.env = (do
      let ov ← eval o X.env
      standAt apos.atName
      let (f, first) ← holding [ov] (getMethod ov "hex" pl)
      callWith pos f first (backTo pos (starEach [] X.env)) (backToKw pos (keywordEach [] X.env))) := by rfl) : ME X W (.Call (.Attribute o "hex" apos) [] [] pos) (eHex fo) := by
  refine ⟨fun pins s σ H Q I h => ?_⟩
  obtain ⟨m, S, ρ, rs, re, q⟩ := tX_bind (P := Rv X.K) (f := fo) h
  refine PySem.W.methodCall_KW (pl := pl) (thn (ho.run pins s σ H _ I ⟨m, S, ρ, rs, re, q⟩) fun u s1 ⟨x, H1, I1, rx, m1, S1, d, ρ1, rs1, re1, p, q1⟩ => ?_) ht
  split at q1
  · rename_i b
    split at q1
    · rename_i hz
      cases p
      obtain ⟨t, rfl⟩ := rx
      refine PySem.W.KBhx.m_hex ?_
      refine Calls.callWith_builtin rfl (PySem.evalArgs_none ?_)
      refine PySem.W.KBhx.hex_K rfl (by unfold PySem.W.KBw.bInts; simpa using hz) fun t' k _ => ?_
      refine ⟨.str (hexS b), H1, I1.tok k, ⟨t', by rw [hexS_eq]⟩, ?_⟩
      exact q1 m1 H1 _ (Fin.refl rs1) rfl
    · exact q1.elim
  · exact q1.elim
end
end M1

end

section
set_option maxRecDepth 100000
set_option maxHeartbeats 2000000
/-! M10: isinstance, bytes' items, tuples repeated, items and fields stored, op= -/
namespace M1
open PySem PySem.Spec PyProof.Rows L2

/-! ### isinstance with a built-in type -/
def tyD (S : Store) : D → Option String
  | .non => some "NoneType"
  | .bl _ => some "bool"
  | .int _ => some "int"
  | .str _ => some "str"
  | .byt _ => some "bytes"
  | .tup _ => some "tuple"
  | .loc n => match S[n]? with
    | some (.lst _) => some "list"
    | some (.frz _) => some "list"
    | some (.dic _) => some "dict"
    | _ => none
  | _ => none
def isaB (a b : String) : Bool := a == b || (a == "bool" && b == "int")
def isTys : List String := ["int", "bool", "str", "tuple", "list", "dict"]
def valTys : List String := ["NoneType", "bool", "int", "str", "bytes", "tuple", "list", "dict"]
theorem kitB_all : (valTys.all fun a => isTys.all fun b => decide (kitB a b = some (isaB a b))) = true := by decide +kernel
theorem kitB_of {a b : String} (ha : a ∈ valTys) (hb : b ∈ isTys) : kitB a b = some (isaB a b) := by
  have h := kitB_all
  rw [List.all_eq_true] at h
  have h2 := h a ha
  rw [List.all_eq_true] at h2
  exact of_decide_eq_true (h2 b hb)
theorem tyD_ok {K : PySem.W.Frag} {m : Nat → Addr} {S : Store} {H : Hp} {d : D} {v : V} {t : String} (rs : RS K m S H) (r : Rv K m S.length H d v) (e : tyD S d = some t) : t ∈ valTys ∧ TyX K H v (.type t) := by
  cases d with
  | non => cases r; cases e; exact ⟨by decide, .base .non⟩
  | bl b => cases r; cases e; exact ⟨by decide, .base (.bl _)⟩
  | int b => cases r; cases e; exact ⟨by decide, .base (.int _)⟩
  | str b => cases r; cases e; exact ⟨by decide, .base (.str _)⟩
  | byt b => cases r; cases e; exact ⟨by decide, .byt _⟩
  | tup b =>
    obtain ⟨a, vs, rfl, q, _⟩ := r.tup
    cases e
    refine ⟨by decide, ?_⟩
    rcases q with (q | ⟨o, q⟩) | ⟨o, its, n, q, c, _⟩
    · exact .base (.tup q)
    · exact .fTuple q
    · exact .kTuple q c
  | loc n =>
    obtain ⟨_, rfl⟩ := r.loc
    simp only [tyD] at e
    split at e
    · rename_i xs h
      cases e
      obtain ⟨vs, q, _⟩ := rs.at_ n _ h
      exact ⟨by decide, .base (.lst q)⟩
    · rename_i xs h
      cases e
      obtain ⟨vs, q, _⟩ := rs.at_ n _ h
      refine ⟨by decide, ?_⟩
      rcases q with ⟨o, q⟩ | ⟨o, its, n, q, c, _⟩
      · exact .base (.frz q)
      · exact .kList q c
    · rename_i xs h
      cases e
      obtain ⟨vs, q, _⟩ := rs.at_ n _ h
      exact ⟨by decide, .base (.dK q)⟩
    · cases e
  | _ => cases e
def cIsi (xs : List D) (S : Store) : O D := match xs with
  | [x, .ty T] => if T ∈ isTys then (tyD S x).map fun t => (.bl (isaB t T), S) else none
  | _ => none
theorem cr_isi {X : Cx} : CallR X (.builtin "isinstance") (rOL X.K cIsi) := by
  intro pins s σ H xs us Q I r h
  obtain ⟨m, S, ds, rs, rx, ok⟩ := h
  refine call_isi pins s σ H xs us Q I r ?_
  unfold cIsi at ok
  split at ok
  · rename_i x T
    split at ok
    · rename_i hT
      cases e : tyD S x with
      | none => rw [e] at ok; exact ok.none.elim
      | some t =>
        rw [e] at ok
        obtain ⟨v, v2, rfl, r1, r2⟩ := rx.two_of
        cases r2
        obtain ⟨ht, ty⟩ := tyD_ok rs r1 e
        exact ⟨v, _, _, _, isaB t T, rfl, .ty T, ty, kit_ty (kitB_of ht hT), ok.same rs rfl rfl⟩
    · exact ok.none.elim
  · exact ok.none.elim

/-! ### bytes' items -/
def opIxB (x y : D) (S : Store) : O D := match x, y with
  | .byt b, .int i => if b.size ≤ sizeLine ∧ 0 ≤ i ∧ i < b.size then some (.int ((b.toList.getD i.toNat 0).toNat : Nat), S) else none
  | _, _ => none
theorem me_ixB {X : Cx} {W : WX} {a b : Expr} {pos : Pos} {f h : Ex} (ha : ME X W a f) (hb : ME X W b h) (hs : PlainIxT b) : ME X W (.Subscript a b pos) (eOp opIxB f h) :=
  pe_imp (pe_item_byt ha hb hs) fun σ H Q q => by
    obtain ⟨m, S, ρ, rs, re, q⟩ := tOp_of q
    refine ⟨m, S, ρ, rs, re, q.mono fun v H1 ⟨m1, S1, ρ1, rs1, re1, q1⟩ => ⟨m1, S1, ρ1, rs1, re1, q1.mono fun u H2 ⟨m2, S2, x, y, rs2, rx, ry, ok⟩ => ?_⟩⟩
    unfold opIxB at ok
    split at ok
    · rename_i b i
      split at ok
      · rename_i hz
        cases rx; cases ry
        obtain ⟨l⟩ := b
        exact ⟨l, i, rfl, rfl, hz.1, hz.2.1, hz.2.2, ok.same rs2 rfl rfl⟩
      · exact ok.none.elim
    · exact ok.none.elim

/-! ### a tuple repeated -/
theorem op_repT2 {X : Cx} : OpR X (binaryOp .Mult) (fun x y H Q => ∃ l k xs, x = .ref l ∧ y = .int k ∧ SqT X.K H l xs ∧ xs ≠ [] ∧ 2 ≤ k ∧ xs.length * k ≤ 1000000 ∧ ∀ p, H p = none → Q (.ref p) (upd H p (.tup (List.replicate k.toNat xs).flatten))) := by
  intro pins s σ H x y v u Q I rx ry h
  obtain ⟨l, k, xs, rfl, rfl, hT, hne, h1, hz, q⟩ := h
  cases rx
  obtain ⟨t, rfl⟩ := ry
  obtain ⟨its, r, ⟨⟨cls, dd, data, sl⟩, ho, hc, n, hd⟩, hs⟩ := I.tuple hT
  simp only at hc hd
  subst hc hd
  have hle : its.length = xs.length := r.length.symm
  have hn : its ≠ [] := fun e => hne (by
    rw [e] at hle
    exact List.eq_nil_of_length_eq_zero hle.symm)
  have hi : its.toArray.isEmpty = false := by
    cases its with
    | nil => exact absurd rfl hn
    | cons a b => rfl
  have hsz0 : its.toArray.size = xs.length := by rw [List.size_toArray, hle]
  have hm : ((its.toArray.size : Nat) : Int) * k ≤ 1000000 := by rw [hsz0]; exact hz
  have hlen : (List.replicate k.toNat xs).flatten.length ≤ sizeLine := by
    rw [PyProof.Rows.lm_len_rep_flat, sizeLine_eq]
    obtain ⟨k', rfl⟩ := Int.eq_ofNat_of_zero_le (by omega : 0 ≤ k)
    simp only [Int.toNat_natCast]
    have : ((k' * xs.length : Nat) : Int) ≤ 1000000 := by push_cast; rw [Int.mul_comm]; exact hz
    omega
  have flen : (List.replicate k.toNat its).flatten.length ≤ sizeLine := by
    rw [PyProof.Rows.lm_len_rep_flat] at hlen ⊢
    rw [hle]; exact hlen
  have kz : k ≤ 1000000 := by
    have h1 : 1 ≤ xs.length := by cases xs with | nil => exact absurd rfl hne | cons _ _ => simp
    have : 1 * k ≤ (xs.length : Int) * k := Int.mul_le_mul_of_nonneg_right (by omega) (by omega)
    omega
  have c0 : (decide (k < -(2 ^ 63)) || decide (k ≥ 2 ^ 63)) = false := by
    rw [decide_eq_false (by omega), decide_eq_false (by omega)] <;> rfl
  have c1 : (its.toArray.isEmpty || k == 1) = false := by
    rw [hi, Bool.false_or]
    exact beq_eq_false_iff_ne.mpr (by omega)
  have c2 : (decide (k ≤ 0) || its.toArray.isEmpty) = false := by
    rw [hi, Bool.or_false]
    exact decide_eq_false (by omega)
  have c4 : Builtin.Tuple.tupleTooMany (((its.toArray.size : Nat) : Int) * k) = false := by
    unfold Builtin.Tuple.tupleTooMany
    rw [sizeLine_eq]
    exact decide_eq_false (by omega)
  refine wpAny_binaryOp_repeat_ref (T := "tuple") (U := "int") (by decide) ⟨_, ho, rfl⟩ (fun s' => typeIs_int s' k t) noFill_tuple_mul F.fills_int_mul F.slot_int_rmul repeat_tuple F.slot_int_index.lookup
    (call_meets F.slot_int_rmul (typeIs_int s k t) F.entry_int_rmul (F.args_int_rmul_2 _ _) (int_rmul_tuple k t l its.toArray n dd sl)
      ⟨ho, rfl, ⟨_, ho, rfl⟩, call_meets F.slot_tuple_mul ⟨_, ho, rfl⟩ F.entry_tuple_mul (F.args_tuple_mul_2 _ _) (tuple_mulW l its.toArray n dd sl k t c0 c1 c2 (by omega) c4 (by rw [size_rep, List.size_toArray]; exact flen)) ⟨ho, ?_⟩⟩)
  rw [size_rep]
  refine ⟨.ref s.heap.objs.size, _, I.laid (t' := s.toks) (o := .tup (List.replicate k.toNat xs).flatten) (fun b ob q => Heap.get?_push_of_some _ q) (Nat.le_refl _) ?_, rfl, q _ (I.hok.fresh (Nat.le_refl _))⟩
  exact ⟨hlen, _, r.rep k.toNat, IsTup.new _ _⟩
def opRepT (x y : D) (S : Store) : O D := match x, y with
  | .tup ds, .int k => if ds ≠ [] ∧ 2 ≤ k ∧ ds.length * k ≤ 1000000 then some (.tup (List.replicate k.toNat ds).flatten, S) else none
  | _, _ => none
theorem opp_repT {X : Cx} : OpR X (binaryOp .Mult) (rO2 X.K opRepT) := by
  intro pins s σ H v u vv uu Q I rv ru h
  obtain ⟨m, S, x, y, rs, rx, ry, ok⟩ := h
  refine op_repT2 pins s σ H v u vv uu Q I rv ru ?_
  unfold opRepT at ok
  split at ok
  · rename_i ds k
    split at ok
    · rename_i hz
      obtain ⟨a, vs, rfl, q, r⟩ := rx.tup
      cases ry
      refine ⟨a, k, vs, rfl, rfl, q, fun e => hz.1 ?_, hz.2.1, by rw [r.length]; exact hz.2.2, fun p hp => ok.tup rs rfl (r.rep _) hp⟩
      subst e
      have := r.length
      cases ds with
      | nil => rfl
      | cons _ _ => simp at this
    · exact ok.none.elim
  · exact ok.none.elim

/-! ### targets that may change the store -/
abbrev Xm := D → Sm
/-- what a target may end with -/
def Out.tgt : Out → Out
  | .nx ρ S => .nx ρ S
  | .ex C d ρ S => .ex C d ρ S
  | _ => .er
def tGX (K : PySem.W.Frag) (W : WX) (g : Xm) : TG := fun v σ H Q => ∃ m S d ρ, RS K m S H ∧ RE K m S.length H ρ σ ∧ Rv K m S.length H d v ∧ AftS K W (g d ρ S).tgt m S H { nx := Q, rt := fun _ _ => False }
abbrev MX (X : Cx) (W : WX) (e : Expr) (g : Xm) : Prop := PG X e (tGX X.K W g)
def xG (g : Gm) : Xm := fun d ρ S => match g d S ρ with
  | some ρ' => .nx ρ' S
  | none => .er
def sAsgX (f : Ex) (g : Xm) : Sm := sE f fun d ρ S => (g d ρ S).tgt
section
variable {X : Cx} {W : WX} {e tg o i : Expr} {pos : Pos} {f fo fi : Ex} {g : Gm} {gx : Xm}
theorem mx_of (h : MG X tg g) : MX X W tg (xG g) := pg_imp h fun v σ H Q ⟨m, S, d, ρ, rs, re, r, q⟩ => by
  unfold xG at q
  cases e : g d S ρ with
  | none => simp only [e] at q; exact q.elim
  | some ρ' => simp only [e] at q; exact ⟨m, S, d, ρ, ρ', rs, re, r, e, fun σ' re' => q m H σ' (Fin.refl rs) re'⟩
theorem aftS_tgt {K : PySem.W.Frag} {o : Out} {m : Nat → Addr} {S : Store} {H : Hp} {E : Ends} (q : AftS K W o.tgt m S H E) : AftS K W o.tgt m S H { nx := E.nx, rt := fun _ _ => False } := by
  cases o <;> first | exact q | exact q.elim
theorem ms_asgX (he : ME X W e f) (hg : MX X W tg gx) (hs : swapsWithSole [tg] e pos.line X.env = pure false := by rfl) (hw : swappedStores [tg] e X.env = pure none := by rfl)
    (h1 : (assignEach [tg] X.env).map (·.2) = [assign tg X.env] := by rfl) : MS X W (.Assign [tg] e pos) (sAsgX f gx) :=
  ps_imp (ps_asg he hg hs hw h1) fun E σ H q => by
    obtain ⟨m, S, ρ, rs, re, q⟩ := tS_bind (P := Rv X.K) (f := f) q
    exact ⟨m, S, ρ, rs, re, q.mono fun v H1 ⟨m1, S1, d, ρ1, rs1, re1, p, q1⟩ => ⟨m1, S1, d, ρ1, rs1, re1, p, aftS_tgt q1⟩⟩
/-- o[i] = v -/
def rSetD (K : PySem.W.Frag) (g : D → D → D → Store → Option Store) : TSet := fun o i v H Q => ∃ m S x y z S', RS K m S H ∧ Rv K m S.length H x o ∧ Rv K m S.length H y i ∧ Rv K m S.length H z v ∧ g x y z S = some S' ∧ ∀ m' H', Fin K m S H m' S' H' → Q H'
def xSub (fo fi : Ex) (g : D → D → D → Store → Option Store) : Xm := fun d ρ S => (fo ρ S).out ρ fun o S1 => (fi ρ S1).out ρ fun i S2 => match g o i d S2 with
  | some S3 => .nx ρ S3
  | none => .er
theorem mx_sub {g : D → D → D → Store → Option Store} (ho : ME X W o fo) (hi : ME X W i fi) (hs : PSet X (rSetD X.K g))
    (ha : ∀ v, assign (.Subscript o i pos) X.env v = (do
      let ov ← holding [v] (eval o X.env)
      let iv ← holding [v, ov] (eval i X.env)
      standAt pos
      holding [v, ov, iv] (setItem ov iv v)
      release [v, ov, iv] []) := by intro _; rfl) : MX X W (.Subscript o i pos) (xSub fo fi g) := pg_imp (pg_sub ho hi hs ha) fun v σ H Q ⟨m, S, d, ρ, rs, re, r, q⟩ => by
  unfold xSub at q
  refine ⟨m, S, ρ, rs, re.at_, ?_⟩
  cases e1 : fo ρ S with
  | er => rw [e1] at q; exact q
  | ex C dd S' => rw [e1] at q; exact fun m' H' g => q m' H' σ g (g.re re)
  | ok o2 S2 =>
    rw [e1] at q
    simp only [R.out] at q
    intro m1 H1 v1 g1 p1
    refine ⟨m1, S2, ρ, g1.rs, g1.renv re.at_, ?_⟩
    cases e2 : fi ρ S2 with
    | er => rw [e2] at q; exact q
    | ex C dd S' => rw [e2] at q; exact fun m' H' g => q m' H' σ (g1.trans g) ((g1.trans g).re re)
    | ok i3 S3 =>
      rw [e2] at q
      simp only [] at q
      intro m2 H2 v2 g2 p2
      cases e3 : g o2 i3 d S3 with
      | none => rw [e3] at q; exact q.elim
      | some S4 =>
        rw [e3] at q
        exact ⟨m2, S3, o2, i3, d, S4, g2.rs, g2.rv p1, p2, (g1.trans g2).rv r, e3, fun m' H' g3 => q m' H' σ ((g1.trans g2).trans g3) (((g1.trans g2).trans g3).re re)⟩
def stL (x y z : D) (S : Store) : Option Store := match x, y with
  | .loc n, .int k => (lstW S n).bind fun xs => (ixN xs.length k).map fun j => S.set n (.lst (xs.set j z))
  | _, _ => none
theorem set_lst : PSet X (rSetD X.K stL) := by
  intro pins s σ H o i v ov iv u Q I ro ri rv h
  obtain ⟨m, S, x, y, z, S', rs, rx, ry, rz, e, q⟩ := h
  refine set_list pins s σ H o i v ov iv u Q I ro ri rv ?_
  unfold stL at e
  split at e
  · rename_i n k
    simp only [Option.bind_eq_some_iff, Option.map_eq_some_iff] at e
    obtain ⟨xs, e1, j, e2, rfl⟩ := e
    obtain ⟨_, rfl⟩ := rx.loc
    cases ry
    obtain ⟨hS, vs, qH, r⟩ := rs.listW e1
    refine ⟨m n, vs, k, j, rfl, rfl, qH, by rw [r.length]; exact e2, ?_⟩
    refine q m _ (Fin.write rs hS rfl ⟨_, upd_same, (r.set j rz).up (Nat.le_refl _) (fun _ _ => rfl) (Mono.write qH (fun _ z => by cases z) (fun _ _ z => by cases z))⟩)
  · cases e

/-! ### op= -/
def sAug (i : Nat) (fe : Ex) (g : D → D → Store → O D) : Sm := fun ρ S => match ρ[i]? with
  | some (some d) => (fe ρ S).out ρ fun y S1 => match g d y S1 with
    | some (z, S2) => .nx (ρ.set i (some z)) S2
    | none => .er
  | _ => .er
theorem ip_of {op : Operator} {g : D → D → Store → O D} (h : PIp X op (rO2 X.K g)) : PIp X op (rO2 X.K g) := h
theorem ms_aug {x : Str} {op : Operator} {n : Nat} {pos' : Pos} {g : D → D → Store → O D} (hN : X.N.Nodup) (hi : X.N[n]? = some x) (hx : Loc X.env.scope x) (he : ME X W e f) (ho : PIp X op (rO2 X.K g)) (hf : X.fn x = true ∨ X.env.scope.names.lookup x = some .local := by first | exact .inl rfl | exact .inr rfl | assumption) :
    MS X W (.AugAssign (.Name x pos') op e pos) (sAug n f g) := ps_imp (ps_aug hN hi hx he ho hf) fun E σ H ⟨m, S, ρ, rs, re, q⟩ => by
  unfold sAug at q
  split at q
  · rename_i d hd
    obtain ⟨v, e1, r1⟩ := re.at_ _ _ hd
    refine ⟨v, e1, m, S, ρ, rs, re.at_, ?_⟩
    cases e2 : f ρ S with
    | er => rw [e2] at q; exact q
    | ex C dd S' => rw [e2] at q; exact fun m' H' g => q m' H' σ g (g.re re)
    | ok y S2 =>
      rw [e2] at q
      simp only [R.out] at q
      intro m1 H1 v1 g1 p1
      cases e3 : g d y S2 with
      | none => rw [e3] at q; exact q.elim
      | some pr =>
        obtain ⟨z, S3⟩ := pr
        rw [e3] at q
        exact ⟨m1, S2, d, y, g1.rs, g1.rv r1, p1, z, S3, e3, fun m' H' v' g2 p2 => q m' H' _ (g1.trans g2) (((g1.trans g2).re re).set p2)⟩
  · exact q.elim
def opIAdd (x y : D) (S : Store) : O D := match x, y with
  | .int i, .int j => some (.int (i + j), S)
  | _, _ => none
def opISub (x y : D) (S : Store) : O D := match x, y with
  | .int i, .int j => some (.int (i - j), S)
  | _, _ => none
theorem ipp_add : PIp X .Add (rO2 X.K opIAdd) := by
  intro pins s σ H x y v u Q I rx ry h
  obtain ⟨m, S, d, e, rs, r1, r2, ok⟩ := h
  refine ip_add pins s σ H x y v u Q I rx ry ?_
  unfold opIAdd at ok
  split at ok
  · cases r1; cases r2
    exact ⟨_, _, rfl, rfl, ok.same rs rfl rfl⟩
  · exact ok.none.elim
theorem ipp_sub : PIp X .Sub (rO2 X.K opISub) := by
  intro pins s σ H x y v u Q I rx ry h
  obtain ⟨m, S, d, e, rs, r1, r2, ok⟩ := h
  refine ip_sub pins s σ H x y v u Q I rx ry ?_
  unfold opISub at ok
  split at ok
  · cases r1; cases r2
    exact ⟨_, _, rfl, rfl, ok.same rs rfl rfl⟩
  · exact ok.none.elim
def sFldAugM (cs : List Addr) (fo : Ex) (nm : Str) (fe : Ex) (g : D → D → Store → O D) : Sm := fun ρ S => (fo ρ S).out ρ fun o S1 => match o, insOf cs S1 o with
  | .loc n, some (C, fs) => match fs.lookup nm with
    | some v => (fe ρ S1).out ρ fun y S2 => match g v y S2 with
      | some (z, S3) => match insOf [C] S3 o with
        | some (_, fs') => if fs'.length < 1000 then .nx ρ (S3.set n (.ins C (putD nm z fs'))) else .er
        | none => .er
      | none => .er
    | none => .er
  | _, _ => .er
theorem ms_fldaug {nm : Str} {value : Expr} {op : Operator} {tpos : Pos} {cs : List Addr} {fv : Ex} {g : D → D → Store → O D} (ho : ME X W o fo) (hv : ME X W value fv) (hop : InOp X op (rO2 X.K g)) (hcs : ∀ C ∈ cs, Cls X.K C ∧ NoAttr X.K C nm) : MS X W (.AugAssign (.Attribute o nm tpos) op value pos) (sFldAugM cs fo nm fv g) := by
  refine ps_imp (ps_fldaug ho hv hop) fun E σ H ⟨m, S, ρ, rs, re, q⟩ => ?_
  unfold sFldAugM at q
  refine ⟨m, S, ρ, rs, re.at_, ?_⟩
  cases e1 : fo ρ S with
  | er => rw [e1] at q; exact q
  | ex C dd S' => rw [e1] at q; exact fun m' H' g => q m' H' σ g (g.re re)
  | ok o2 S2 =>
    rw [e1] at q
    simp only [R.out] at q
    intro m1 H1 v1 g1 p1
    split at q
    · rename_i n C fs hi
      split at q
      · rename_i v hl
        obtain ⟨n', dx, vs, en, rfl, hS, hc, hH, r2⟩ := g1.rs.ins p1 hi
        cases en
        obtain ⟨u, hu, ru⟩ := r2.lookup hl
        refine ⟨m1 n, C, dx, vs, u, rfl, hH, (hcs C hc).1, (hcs C hc).2, hu, m1, S2, ρ, g1.rs, g1.renv re.at_, ?_⟩
        cases e2 : fv ρ S2 with
        | er => rw [e2] at q; exact q
        | ex C dd S' => rw [e2] at q; exact fun m' H' g => q m' H' σ (g1.trans g) ((g1.trans g).re re)
        | ok y S3 =>
          rw [e2] at q
          simp only [] at q
          intro m2 H2 v2 g2 p2
          cases e3 : g v y S3 with
          | none => rw [e3] at q; exact q.elim
          | some pr =>
            obtain ⟨z, S4⟩ := pr
            rw [e3] at q
            simp only [] at q
            refine ⟨m2, S3, v, y, g2.rs, g2.rv ru, p2, z, S4, e3, fun m3 H3 w g3 p3 => ?_⟩
            split at q
            · rename_i C' fs' hi3
              split at q
              · rename_i hz
                obtain ⟨n', dx', vs', en, e5, hS', hc', hH', r3⟩ := g3.rs.ins ((g2.trans g3).rv p1) hi3
                cases en
                have hC : C' = C := by simpa using hc'
                subst hC
                have e6 : m3 n = m1 n := (V.ref.inj e5).symm
                have hH2 : H3 (m1 n) = some (.ins C' dx' vs') := by rw [← e6]; exact hH'
                refine ⟨dx', vs', hH2, by rw [r3.length]; exact hz, ?_⟩
                have mo : Mono X.K H3 (upd H3 (m3 n) (.ins C' dx' (putF nm w vs'))) := Mono.write hH' (fun _ z => by cases z) (fun _ _ z => by cases z)
                have fw : Fin X.K m3 S4 H3 m3 (S4.set n (.ins C' (putD nm z fs'))) (upd H3 (m3 n) (.ins C' dx' (putF nm w vs'))) :=
                  Fin.write g3.rs hS' rfl ⟨dx', _, upd_same, (r3.up (Nat.le_refl _) (fun _ _ => rfl) mo).put (p3.up (Nat.le_refl _) (fun _ _ => rfl) mo)⟩
                have ff := ((g1.trans g2).trans g3).trans fw
                rw [← e6]
                exact q m3 _ σ ff (ff.re re)
              · exact q.elim
            · exact q.elim
      · exact q.elim
    · exact q.elim
theorem inp_add : InOp X .Add (rO2 X.K opIAdd) := ipp_add
theorem inp_sub : InOp X .Sub (rO2 X.K opISub) := ipp_sub
end
end M1

end

section
set_option maxRecDepth 100000
set_option maxHeartbeats 2000000
/-! M11: bytes.fromhex(x), x a local name -/
namespace M1F
open PySem PySem.Spec PyProof.Rows L2 PySem.W
open Builtin Builtin.Bytes

def hexV (c : Nat) : Option Nat := if 48 ≤ c ∧ c ≤ 57 then some (c - 48) else if 97 ≤ c ∧ c ≤ 102 then some (c - 87) else if 65 ≤ c ∧ c ≤ 70 then some (c - 55) else none
def unhex : List Nat → Option (List UInt8)
  | [] => some []
  | c :: d :: r => (hexV c).bind fun a => (hexV d).bind fun b => (unhex r).map ((a * 16 + b).toUInt8 :: ·)
  | _ => none
namespace FH
abbrev bound : Obj := { cls := .type "builtin_function_or_method", data := .fields #[.builtin "bytes.fromhex", .type "bytes"] }
theorem type_fh : typeOf (.builtin "bytes.fromhex") = pure (.type "classmethod_descriptor") := by show builtinType _ = _; rw [builtinType_eq_fast]; kernel_rfl
theorem entry_fh : entryFor table "bytes.fromhex" = some Builtin.«bytes.fromhex» := entryFor_of_tree (by kernel_rfl)
theorem quiet_fh {as : Args} : (Code.builtin "bytes.fromhex" as).quiet = true := Code.quiet_builtin _ (by decide +kernel)
theorem type_bytes : isType (.type "bytes") = pure true := by first | rfl | kernel_rfl | (unfold isType; rw [isSubtype_type]; kernel_rfl)
theorem sub_bytes : isSubtype (.type "bytes") (.type "bytes") = pure true := by first | rfl | kernel_rfl | (rw [isSubtype_type]; kernel_rfl)
theorem owner_fh : (kfb_private% "ownerAndName") "bytes.fromhex" = ("bytes", "fromhex") := by first | decide +kernel | kernel_rfl
theorem find_fh (K : PySem.W.Frag) : PySem.W.findCls K (.type "bytes") (.type "type") (PySem.Str.ofString "fromhex") = some (.get (.builtin "classmethod_descriptor.__get__") (.builtin "bytes.fromhex") .none (.type "bytes")) := by first | rfl | kernel_rfl
theorem check_fh {z : PySem.Str} {t : Tok} : checkBoundCall "bytes.fromhex" ⟨[.type "bytes", .str z t], []⟩ = pure () := by first | kernel_rfl | rfl
def HOf (u : Addr) : HO := .ext fun h => h.get? u = some bound
section
variable {prog : Program} {w : World} {M : Model} {A : Around} {E : Value → Shared → Prop} {s : Shared} {K : PySem.W.Frag}
theorem run_get {P : Fin → Shared → Prop} (h : P (.done (.ret (.ref s.heap.objs.size))) { s with heap := s.heap.push bound }) :
    wpAny M A (Builtin.«classmethod_descriptor.__get__» ⟨[.builtin "bytes.fromhex", .none, .type "bytes"], []⟩) P E s := by
  unfold Builtin.«classmethod_descriptor.__get__»
  refine wpAny_bind (wpAny_of_eq (a := (.builtin "bytes.fromhex", none, some (.type "bytes"))) (by first | rfl | kernel_rfl) ?_)
  simp only [owner_fh]
  refine wpAny_bind (wpAny_of_eq (a := .type "bytes") rfl ?_)
  refine wpAny_bind (wpAny_of_eq (a := true) type_bytes ?_)
  refine KFB.if_not rfl ?_
  refine wpAny_bind (wpAny_of_eq (a := true) sub_bytes ?_)
  refine KFB.if_not rfl ?_
  exact wpAny_bind (wpAny_newObj_type (wpAny_pure h))
theorem get {pl : Sem Bool} {Q : Value × List Value → Shared → Prop} (X : K.In s.heap)
    (h : Q (.ref s.heap.objs.size, []) { s with heap := s.heap.push bound, toks := s.toks + 1 }) : wpAny (model prog w) A (getMethod (.type "bytes") (PySem.Str.ofString "fromhex") pl) Q E s := by
  have hstub : opaqueClassAbove (.type "bytes") = pure none := by unfold opaqueClassAbove; dsimp only; rw [show Manifest.isStub "bytes" = false by decide +kernel]; rfl
  have ht : typeOf (.type "bytes") = pure (.type "type") := by first | rfl | kernel_rfl
  have L0 : PySem.W.Looks (model prog w) s.heap (typeOf (.type "bytes")) (.type "type") := PySem.W.Looks.of_pure ht
  have hg : PySem.W.findIn K (.type "type") "__getattribute__" = some (some (.builtin "type.__getattribute__")) := PySem.W.type_tga
  unfold getMethod specialOf
  refine wpAny_bind (wpAny_bind (L0.here ((PySem.W.looks_findIn X hg).here ?_)))
  dsimp only
  rw [if_pos PySem.W.canon_tga]
  refine wpAny_bind (wpAny_mono (Q := fun v => Q (v, [])) (E := E) ?_ (fun _ _ z => wpAny_pure z) fun _ _ z => z)
  have LO : PySem.W.Looks (model prog w) s.heap (opaqueClassAbove (.type "bytes")) none := PySem.W.Looks.of_pure hstub
  refine PySem.W.cls_open X LO L0 hg (PySem.W.looks_hook X (r := none) (by rfl)) (by show PySem.W.subIn K _ _ = _; rfl) (find_fh K) ?_
  show wpAny _ _ (holding [.builtin "bytes.fromhex"] (call (.builtin "classmethod_descriptor.__get__") [.builtin "bytes.fromhex", .none, .type "bytes"]) >>= fun v => ret v) _ _ _
  exact wpAny_bind (wpAny_holding (wpAny_call_entry PySem.W.KFB.slot_get type_fh PySem.W.KFB.entry_get (run_get ⟨_, rfl, wpAny_pure (wpAny_pure h)⟩) (PySem.W.KFB.args_get _ _ _)))
theorem callWith_fields {pos : Pos} {u : Addr} {first : List Value} {args : List (Bool × Sem Value)} {Q : Value → Shared → Prop} (hplain : args.any (·.1) = false)
    (h : wpAny M A (evalArgs (.ref u) true args []) (fun x s₁ => s₁.heap.get? u = some bound ∧ wpAny M A (call (.ref u) (first ++ x.pos) x.kw) Q E s₁) E s) : wpAny M A (callWith pos (.ref u) first args []) Q E s := by
  unfold callWith
  refine wpAny_bind (wpAny_holding (wpAny_mono h (fun x s₁ h₁ => wpAny_bind (wpAny_standAt ?_)) fun _ _ x => x))
  obtain ⟨ho, hcall⟩ := h₁
  simp only [hplain, List.any_nil, Bool.or_false]
  refine wpAny_bind (m := keeperOf (.ref u)) ?_
  unfold keeperOf
  refine wpAny_bind (wpAny_load ho ?_)
  simp only [bound, show (Value.type "builtin_function_or_method" != Value.type "method") = true by decide, show (Value.type "builtin_function_or_method" == Value.type "builtin_function_or_method" || Value.type "builtin_function_or_method" == Value.type "method-wrapper") = true by decide, if_true]
  refine wpAny_pure ?_
  exact wpAny_bind (wpAny_mono hcall (fun r s₂ hr => wpAny_bind (wpAny_holding (wpAny_point (wpAny_pure hr)))) fun _ _ x => x)
theorem callWith_fh {pos : Pos} {u : Addr} {first : List Value} {env : PySem.Env} {e : Expr} {rest : List Expr} {Q : Value → Shared → Prop}
    (h : wpAny M A (spliced (backTo pos (starEach (e :: rest) env))) (fun vs s₁ => s₁.heap.get? u = some bound ∧ wpAny M A (call (.ref u) (first ++ vs)) Q E s₁) E s)
    (he : starEach (e :: rest) env = (false, eval e env) :: starEach rest env := by rfl) (hplain : (backTo pos (starEach rest env)).any (·.1) = false := by rfl) :
    wpAny M A (callWith pos (.ref u) first (backTo pos (starEach (e :: rest) env)) []) Q E s := by
  rw [he] at h ⊢
  refine callWith_fields (by show (false || (backTo pos (starEach rest env)).any (·.1)) = false; rw [hplain]; rfl) ?_
  exact Calls.evalArgs_plain h
/-- the private reader, by its equations -/
theorem reader : ∃ F : Nat → Nat → List Nat → Array UInt8 → Except Nat (Array UInt8), (∀ n i out, F n i [] out = .ok out) ∧
    (∀ n i c d r out a b, hexV c = some a → hexV d = some b → F (n + 1) i (c :: d :: r) out = F n (i + 2) r (out.push (a * 16 + b).toUInt8)) ∧
    ∀ (z : PySem.Str) (t : Tok), Builtin.«bytes.fromhex» ⟨[.type "bytes", .str z t], []⟩ = (do
      let shown ← typeNameWhole (.type "bytes")
      let some s ← asStr? (.str z t) | rule s!"bytes.fromhex.not-str"; raiseError "TypeError" s!"fromhex() argument must be str, not {← argTypeName (.str z t)}"
      if let some i := s.cps.findIdx? (· ≥ 128) then return ← (do rule s!"bytes.fromhex.bad-character"; raiseError "ValueError" s!"non-hexadecimal number found in fromhex() arg at position {i}" : Sem Fin)
      match F s.cps.size 0 s.cps.toList #[] with
      | .error i => (do rule s!"bytes.fromhex.bad-character"; raiseError "ValueError" s!"non-hexadecimal number found in fromhex() arg at position {i}" : Sem Fin)
      | .ok b => ret (← Builtin.Bytes.Kind.bytes.new b)) := by
  apply Exists.intro
  refine ⟨?g1, ?g2, ?g3⟩
  case g3 => exact fun z t => rfl
  case g1 => intro n i out; cases n <;> rfl
  case g2 =>
    intro n i c d r out a b ha hb
    have hc : (decide (c < 128) && isSpace c.toUInt8) = false := by
      have : 48 ≤ c ∧ c ≤ 102 := by
        unfold hexV at ha
        split at ha
        · omega
        · split at ha
          · omega
          · split at ha
            · omega
            · cases ha
      have h2 : ∀ c, c < 103 → 48 ≤ c → isSpace (Nat.toUInt8 c) = false := by decide +kernel
      rw [h2 c (by omega) this.1, Bool.and_false]
    have hv : ∀ c, (if (decide (48 ≤ c) && decide (c ≤ 57)) = true then some (c - 48) else if (decide (97 ≤ c) && decide (c ≤ 102)) = true then some (c - 87) else if (decide (65 ≤ c) && decide (c ≤ 70)) = true then some (c - 55) else none) = hexV c := fun c => by
      unfold hexV
      simp only [Bool.and_eq_true, decide_eq_true_eq]
    show (if (decide (c < 128) && isSpace c.toUInt8) = true then _ else _) = _
    rw [hc, if_neg Bool.false_ne_true]
    split
    · rename_i e
      have e2 := (hv c).symm.trans e
      rw [ha] at e2; cases e2
    · rename_i e1 e2
      cases e2
    · rename_i hi d' r' e2 e1
      cases e1
      have e3 := (hv c).symm.trans e2
      rw [ha] at e3; cases e3
      split
      · rename_i e
        have e4 := (hv d).symm.trans e
        rw [hb] at e4; cases e4
      · rename_i lo e
        have e4 := (hv d).symm.trans e
        rw [hb] at e4; cases e4
        rfl
theorem hexV_rng {c a : Nat} (h : hexV c = some a) : 48 ≤ c ∧ c ≤ 102 := by
  unfold hexV at h
  split at h
  · omega
  · split at h
    · omega
    · split at h
      · omega
      · cases h
theorem read_ok {F : Nat → Nat → List Nat → Array UInt8 → Except Nat (Array UInt8)} (h1 : ∀ n i out, F n i [] out = .ok out)
    (h2 : ∀ n i c d r out a b, hexV c = some a → hexV d = some b → F (n + 1) i (c :: d :: r) out = F n (i + 2) r (out.push (a * 16 + b).toUInt8)) :
    ∀ (l : List Nat) (bs : List UInt8) (n i : Nat) (out : Array UInt8), l.length ≤ n → unhex l = some bs → F n i l out = .ok (out ++ bs.toArray)
  | [], bs, n, i, out, _, e => by
    simp only [unhex, Option.some.injEq] at e
    subst e
    rw [h1]
    simp
  | [c], bs, n, i, out, _, e => by simp [unhex] at e
  | c :: d :: r, bs, n, i, out, hl, e => by
    simp only [unhex, Option.bind_eq_some_iff, Option.map_eq_some_iff] at e
    obtain ⟨a, ea, b, eb, ys, ey, rfl⟩ := e
    cases n with
    | zero => simp at hl
    | succ n =>
      rw [h2 n i c d r out a b ea eb, read_ok h1 h2 r ys n (i + 2) _ (by simp at hl; omega) ey]
      congr 1
      apply Array.toList_inj.mp
      simp
theorem unhex_rng : ∀ {l : List Nat} {bs : List UInt8}, unhex l = some bs → (∀ c ∈ l, c < 128) ∧ bs.length * 2 = l.length
  | [], bs, e => by simp only [unhex, Option.some.injEq] at e; subst e; simp
  | [c], bs, e => by simp [unhex] at e
  | c :: d :: r, bs, e => by
    simp only [unhex, Option.bind_eq_some_iff, Option.map_eq_some_iff] at e
    obtain ⟨a, ea, b, eb, ys, ey, rfl⟩ := e
    obtain ⟨h1, h2⟩ := unhex_rng ey
    have ra := hexV_rng ea
    have rb := hexV_rng eb
    refine ⟨fun x hx => ?_, by simp only [List.length_cons]; omega⟩
    rcases List.mem_cons.mp hx with rfl | hx
    · omega
    · rcases List.mem_cons.mp hx with rfl | hx
      · omega
      · exact h1 x hx
theorem tree {z : PySem.Str} {t : Tok} {bs : List UInt8} {P : Fin → Shared → Prop} (hz : z.length ≤ sizeLine) (hb : unhex z.cps.toList = some bs) (h : P (.done (.ret (.bytes bs.toArray s.toks))) { s with toks := s.toks + 1 }) :
    wpAny M A (Builtin.«bytes.fromhex» ⟨[.type "bytes", .str z t], []⟩) P E s := by
  obtain ⟨F, f1, f2, f3⟩ := reader
  obtain ⟨r1, r2⟩ := unhex_rng hb
  rw [f3]
  refine wpAny_bind (wpAny_of_eq (a := "bytes") (by first | rfl | kernel_rfl) ?_)
  refine wpAny_bind (wpAny_of_eq (a := some z) (by first | rfl | kernel_rfl) ?_)
  have hn : z.cps.findIdx? (· ≥ 128) = none := by
    rw [Array.findIdx?_eq_none_iff]
    intro x hx
    have := r1 x (by simpa using hx)
    simp only [ge_iff_le, decide_eq_false_iff_not]
    omega
  dsimp only
  rw [hn, read_ok f1 f2 _ bs _ 0 #[] (by simp) hb]
  dsimp only
  rw [Array.empty_append]
  have hs : bs.toArray.size ≤ sizeLine := by
    have : z.length = z.cps.toList.length := by simp [PySem.Str.length]
    rw [List.size_toArray]
    omega
  exact wpAny_bind (wpAny_mkBytes (wpAny_pure h) hs)
theorem call_of {x : Addr} {z : PySem.Str} {t : Tok} {bs : List UInt8} {Q : Value → Shared → Prop} (ho : s.heap.get? x = some bound) (hz : z.length ≤ sizeLine) (hb : unhex z.cps.toList = some bs)
    (h : Q (.bytes bs.toArray s.toks) { s with toks := s.toks + 1 }) : wpAny (model prog w) A (call (.ref x) [.str z t]) Q E s := by
  refine wpAny_call (codeAny_of_tree ?_)
  show wpAny _ A.in1 (callAny (.ref x) ⟨[.str z t], []⟩) _ _ s
  simp only [callAny]
  refine wpAny_bind (wpAny_load ho ?_)
  simp only [bound, show (Value.type "builtin_function_or_method" == Value.type "method" || Value.type "builtin_function_or_method" == Value.type "builtin_function_or_method" || Value.type "builtin_function_or_method" == Value.type "method-wrapper") = true by decide, if_true]
  refine KFB.if_so (by decide) ?_
  refine wpAny_bind (wpAny_of_eq (a := ()) check_fh ?_)
  refine wpAny_bind (wpAny_pure (wpAny_pure ?_))
  exact ⟨quiet_fh, codeAny_builtin entry_fh (tree hz hb h)⟩
end
end FH
end M1F
namespace M1
open PySem PySem.Spec PyProof.Rows L2
open M1F (unhex)
def eFH (i : Nat) : Ex := fun ρ S => match ρ[i]? with
  | some (some (.str z)) => if z.length ≤ sizeLine then match unhex z.cps.toList with
      | some bs => .ok (.byt bs.toArray) S
      | none => .er
    else .er
  | _ => .er
theorem me_fromhex {X : Cx} {W : WX} {e : Expr} {i : Nat} {p1 p2 pos : Pos} {pl : Sem Bool} (hg : Gl X "bytes") (hm : X.mg "bytes" = none) (hv : PE X e (tVar i))
    (hst : starEach [e] X.env = (false, eval e X.env) :: starEach [] X.env := by rfl) (hpl : (backTo pos (starEach [] X.env)).any (·.1) = false := by rfl)
    (ht : eval (.Call (.Attribute (.Name "bytes" p1) "fromhex" p2) [e] [] pos) X.env = (do
      let ov ← eval (.Name "bytes" p1) X.env
      standAt p2.atName
      let (f, first) ← holding [ov] (getMethod ov "fromhex" pl)
      callWith pos f first (backTo pos (starEach [e] X.env)) (backToKw pos (keywordEach [] X.env))) := by rfl) : ME X W (.Call (.Attribute (.Name "bytes" p1) "fromhex" p2) [e] [] pos) (eFH i) := by
  refine ⟨fun pins s σ H Q I h => ?_⟩
  obtain ⟨m, S, ρ, rs, re, q⟩ := h
  unfold eFH at q
  split at q
  · rename_i z hz
    split at q
    · rename_i hl
      split at q
      · rename_i bs hb
        obtain ⟨v, e1, r1⟩ := re _ _ hz
        cases r1
        refine PySem.W.methodCall_KW (pl := pl) (ld_blt I hg hm (by decide +kernel : bootBuiltins "bytes" = some (.type "bytes")) ?_ (by decide) (by decide)) ht
        refine M1F.FH.get I.kIn ?_
        have eb : (s.heap.push M1F.FH.bound).get? s.heap.objs.size = some M1F.FH.bound := Heap.get?_push_size _ rfl
        have I2 := I.laid (t' := s.toks + 1) (a := s.heap.objs.size) (o := M1F.FH.HOf s.heap.objs.size) (h' := s.heap.push M1F.FH.bound) (fun b u q => Heap.get?_push_of_some _ q) (Nat.le_refl _) ⟨eb, ⟨_, eb⟩, fun h1 h2 f k => k _ f⟩
        show wpAny _ _ (callWith pos (.ref s.heap.objs.size) [] (backTo pos (starEach [e] X.env)) []) _ _ _
        have ha := pa_cons hv pa_nil hst
        have hn : H s.heap.objs.size = none := I.hok.fresh (Nat.le_refl _)
        refine M1F.FH.callWith_fh ?_ hst hpl
        refine thn (ha.run pos pins _ σ _ (fun vs H2 => vs = [.str z] ∧ H2 = upd H s.heap.objs.size (M1F.FH.HOf s.heap.objs.size)) I2 ⟨_, e1, rfl, rfl⟩) fun us s2 ⟨vs, H2, I3, rv, ev, eH⟩ => ?_
        subst ev; subst eH
        obtain ⟨u, rfl, ru⟩ := vals1 rv
        obtain ⟨t, rfl⟩ := ru
        have hat : s2.heap.get? s.heap.objs.size = some M1F.FH.bound := by
          have x : ObjOk X.prog X.w _ s2.heap s.heap.objs.size (.ext fun h => h.get? s.heap.objs.size = some M1F.FH.bound) := I3.hok _ _ upd_same
          exact x.1
        refine ⟨hat, ?_⟩
        refine M1F.FH.call_of hat hl hb ?_
        refine ⟨.byt bs.toArray, _, I3.tok _, ⟨_, rfl⟩, ?_⟩
        exact q m _ _ (Fin.junk rs hn) rfl
      · exact q.elim
    · exact q.elim
  · exact q.elim
end M1

end

section
set_option maxRecDepth 100000
set_option maxHeartbeats 2000000
/-! M12: ops by cases, the head's facts, what callers know -/
namespace M1
open PySem PySem.Spec PyProof.Rows L2

def orO (g h : D → D → Store → O D) (x y : D) (S : Store) : O D := match g x y S with
  | some r => some r
  | none => h x y S
theorem rO2_or {K : PySem.W.Frag} {g h : D → D → Store → O D} {v u : V} {H : Hp} {Q : VK} (q : rO2 K (orO g h) v u H Q) : rO2 K g v u H Q ∨ rO2 K h v u H Q := by
  obtain ⟨m, S, x, y, rs, rx, ry, ok⟩ := q
  unfold orO at ok
  cases e : g x y S with
  | some r => rw [e] at ok; exact .inl ⟨m, S, x, y, rs, rx, ry, by rw [e]; exact ok⟩
  | none => rw [e] at ok; exact .inr ⟨m, S, x, y, rs, rx, ry, ok⟩
theorem opp_or {X : Cx} {f : Value → Value → Sem Value} {g h : D → D → Store → O D} (a : OpR X f (rO2 X.K g)) (b : OpR X f (rO2 X.K h)) : OpR X f (rO2 X.K (orO g h)) := by
  intro pins s σ H v u vv uu Q I rv ru q
  rcases rO2_or q with q | q
  · exact a pins s σ H v u vv uu Q I rv ru q
  · exact b pins s σ H v u vv uu Q I rv ru q
abbrev opMulA := orO opMul opRepT
abbrev opInA := orO opIn opInC
abbrev opIxA := orO opIx opIxB
section
variable {X : Cx} {W : WX}
theorem opp_mulA : OpR X (binaryOp .Mult) (rO2 X.K opMulA) := opp_or opp_mul opp_repT
theorem opp_inA : OpR X (compareOp .In) (rO2 X.K opInA) := opp_or opp_in opp_inC
theorem ix_opIxA : IxR X (rO2 X.K opIxA) := by
  intro value slice pins s σ H x y v u Q I rx ry q hs
  rcases rO2_or q with q | q
  · exact ix_opIx value slice pins s σ H x y v u Q I rx ry q hs
  · obtain ⟨m, S, d, e, rs, r1, r2, ok⟩ := q
    unfold opIxB at ok
    split at ok
    · rename_i b i
      split at ok
      · rename_i hz
        cases r1; cases r2
        obtain ⟨t, rfl⟩ := rx
        obtain ⟨t', rfl⟩ := ry
        obtain ⟨l⟩ := b
        have hl : sizeLine = 16777216 := sizeLine_eq
        have h1 := hz.1
        simp only [List.size_toArray] at h1 hz
        exact tail_any (PySem.W.typeIs_bytes s l.toArray t) PySem.W.FB.slot_bytes_getitem.lookup (PySem.W.getItem_bytes (by omega) hz.2.1 hz.2.2 ⟨.int ((l.getD i.toNat 0).toNat : Nat), H, I.tok _, ⟨_, rfl⟩, ok.same rs rfl rfl⟩) hs
      · exact ok.none.elim
    · exact ok.none.elim
theorem me_ixA {a b : Expr} {pos : Pos} {f h : Ex} (ha : ME X W a f) (hb : ME X W b h) (hs : PlainIx b := by intro _ _; rfl) : ME X W (.Subscript a b pos) (eOp opIxA f h) :=
  pe_imp (pe_ix ix_opIxA ha hb hs) fun _ _ _ => tOp_of

/-! ### globals -/
theorem me_gint {x : Str} {i : Int} {pos : Pos} (hg : Gl X x) (hm : ∃ t, X.mg x = some (.int i t)) (hd : (x == ("__debug__" : Str)) = false := by decide) : ME X W (.Name x pos) (eC (.int i)) := by
  obtain ⟨t, hm⟩ := hm
  exact me_c (pe_glob (v := .int i) hg hm ⟨t, rfl⟩ hd) fun _ _ _ => rfl
theorem me_gstr {x z : Str} {pos : Pos} (hg : Gl X x) (hm : ∃ t, X.mg x = some (.str z t)) (hd : (x == ("__debug__" : Str)) = false := by decide) : ME X W (.Name x pos) (eC (.str z)) := by
  obtain ⟨t, hm⟩ := hm
  exact me_c (pe_glob (v := .str z) hg hm ⟨t, rfl⟩ hd) fun _ _ _ => rfl
theorem me_gref {x : Str} {a : Addr} {pos : Pos} (hg : Gl X x) (hm : X.mg x = some (.ref a)) (hd : (x == ("__debug__" : Str)) = false := by decide) : ME X W (.Name x pos) (eC (.gl a)) :=
  me_c (pe_glob (v := .ref a) hg hm rfl hd) fun _ _ _ => rfl
theorem me_ty {x : Str} {T : String} {pos : Pos} (hg : Gl X x) (hm : X.mg x = none) (hv : bootBuiltins x = some (.type T)) (hn : x ≠ "__name__" := by decide) (hd : (x == ("__debug__" : Str)) = false := by decide) : ME X W (.Name x pos) (eC (.ty T)) :=
  me_c (pe_bltn (v := .ty T) hg hm hv rfl hn hd) fun _ _ _ => rfl
end
theorem bt_int : bootBuiltins "int" = some (.type "int") := by decide +kernel
theorem bt_bool : bootBuiltins "bool" = some (.type "bool") := by decide +kernel
theorem bt_str : bootBuiltins "str" = some (.type "str") := by decide +kernel
theorem bt_tuple : bootBuiltins "tuple" = some (.type "tuple") := by decide +kernel
theorem bt_list : bootBuiltins "list" = some (.type "list") := by decide +kernel
theorem bt_dict : bootBuiltins "dict" = some (.type "dict") := by decide +kernel
theorem bt_bytes : bootBuiltins "bytes" = some (.type "bytes") := by decide +kernel
theorem bt_len : bootBuiltins "len" = some (.builtin "len") := by decide +kernel
theorem bt_all : bootBuiltins "all" = some (.builtin "all") := by decide +kernel
theorem bt_any : bootBuiltins "any" = some (.builtin "any") := by decide +kernel
theorem bt_isinstance : bootBuiltins "isinstance" = some (.builtin "isinstance") := by decide +kernel

/-! ### a def, from the head to its callers -/
section
variable {P : Program} {w : World} {K : PySem.W.Frag} {mg : Str → Option Value} {base : Heap} {x qual : Str} {params : Arguments} {body : List Stmt} {scope : Scope} {kws : List (Str × V)} {f : Addr} {fd : FuncData}
theorem tk0 {N : List Str} {cdv : Value} {A : Around} {outer : List PySem.Env} {s : Shared} {H : Hp} {E : XK} : Takes (cxOf (L2.CX P w) P w K mg base N qual scope f cdv A outer s H E) (fun cls d _ H => E cls d H) := takes_of rfl rfl rfl rfl
theorem hp0 {N : List Str} {cdv : Value} {A : Around} {outer : List PySem.Env} {s : Shared} {H : Hp} {E : XK} : PassesOwn (model P w) (cxOf (L2.CX P w) P w K mg base N qual scope f cdv A outer s H E).A (cxOf (L2.CX P w) P w K mg base N qual scope f cdv A outer s H E).env (cxOf (L2.CX P w) P w K mg base N qual scope f cdv A outer s H E).xe :=
  passes_of (X := cxOf (L2.CX P w) P w K mg base N qual scope f cdv A outer s H E) rfl
theorem cal_mk {ps : List Str} {k n : Nat} {F : Fn} (Fd : FunD K x qual params body scope [] kws f fd) (hn : n = ps.length) (hl : LenOk n F) (ok : FnOk P w K mg base (L2.CX P w) k f fd ps (spM K n F)) (hm : mg x = some (.ref f))
    (hb : Binds K fd ps []) : Cal P w K mg base k x F [] :=
  ⟨n, f, fd, ps, [], [], hl, ok, hm, Fd.kp, hb, .nil, fun _ _ _ => Rvs.nil⟩
theorem met_mk {ps : List Str} {k n : Nat} {F : Fn} {C : Addr} (Fd : FunD K x qual params body scope [] kws f fd) (hl : LenOk n F) (ok : FnOk P w K mg base (L2.CX P w) k f fd ps (spM K n F)) (hc : Cls K C) (hm : Meth K C x f)
    (hb : Binds K fd ps []) : Met P w K mg base k C x F [] :=
  ⟨n, f, fd, ps, [], [], hl, ok, hc, hm, hb, .nil, fun _ _ _ => Rvs.nil⟩
theorem mak_mk {ps : List Str} {k n : Nat} {F : Fn} {C : Addr} {y : Str} (Fd : FunD K x qual params body scope [] kws f fd) (hl : LenOk n F) (ok : FnOk P w K mg base (L2.CX P w) k f fd ps (spM K n F)) (hg : mg y = some (.ref C)) (hm : Mk K C f)
    (hb : Binds K fd ps []) : Mak P w K mg base k y C F [] :=
  ⟨n, f, fd, ps, [], [], hl, ok, hg, hm, hb, .nil, fun _ _ _ => Rvs.nil⟩
end
/-- a statement within a class -/
def inCls (s : Stmt) (j : Nat) : Stmt := match s with
  | .ClassDef _ _ _ body _ _ _ _ _ _ _ => body.getD j (.Pass ⟨0, 0, 0, 0⟩)
  | s => s
/-! ### the Hook -/
/-- what the module's names reach, and the place that tells of third parties -/
def asM (g : Addr → Option Obj) (n : Nat) : List Addr := cStatics :: He.asD g n
def obsMG (n : Nat) (fa : List He.Fa) (fn : List He.DefD) (ex : PySem.W.Frag → Bool) (g : Addr → Option Obj) : He.AlD × Bool := (He.obsD fa fn (He.frG g (asM g n)), ex (He.frG g (asM g n)))
def hookM (n : Nat) (fa : List He.Fa) (fn : List He.DefD) (ex : PySem.W.Frag → Bool) : PySem.W.Hook where
  α := He.AlD × Bool
  obs := fun s => obsMG n fa fn ex s.heap.get?
  val := fun _ => (He.valD fn, true)
  says := fun _ h => ∃ K : PySem.W.Frag, K.In h ∧ He.SaysD fa fn K ∧ ex K = true
  of := fun _ _ e => ⟨_, He.frG_in, congrArg (fun z : He.AlD × Bool => z.1) e, congrArg (fun z : He.AlD × Bool => z.2) e⟩
  keeps := fun _ _ _ ⟨K, hK, c⟩ k => ⟨K, PySem.W.Frag.In.keeps hK k, c⟩
theorem obsMG_eq {n : Nat} {fa : List He.Fa} {fn : List He.DefD} {ex : PySem.W.Frag → Bool} {g : Addr → Option Obj} {s : Shared} (h : ∀ a, g a = s.heap.get? a) : obsMG n fa fn ex g = (hookM n fa fn ex).obs s := by
  have e : g = s.heap.get? := funext h
  rw [e] <;> rfl

/-! ### an own exception's class by one Bool -/
def oexB (K : PySem.W.Frag) (C : Addr) : Bool := (match K.lookup C with
    | some ⟨.type "type", _, .cls cd, sl⟩ => (match cd.mro, sl.toList with
      | .ref C' :: bm, [_, _, _, _, some (.builtin n), _] => C' == C && n == "ValueError.__new__" && !cd.hasDel && cd.hasDict && PySem.HandSPX.refsVE bm
      | _, _ => false)
    | _ => false) && (He.eqO (PySem.W.findIn K (.ref C) "__setattr__") (some (some (.builtin "object.__setattr__"))) && (decide (PySem.W.subIn K (.ref C) (.type "BaseException") = some true) && (decide (PySem.W.typeIn K (.ref C) = some (.type "type")) && PySem.W.keepIn K (.ref C))))
theorem oexB_ok {K : PySem.W.Frag} {C : Addr} (h : oexB K C = true) : OexC K C := by
  obtain ⟨h1, h⟩ := He.ba h
  obtain ⟨h2, h⟩ := He.ba h
  obtain ⟨h3, h⟩ := He.ba h
  obtain ⟨h4, h5⟩ := He.ba h
  refine ⟨?_, He.eqO_ok h2, of_decide_eq_true h3, of_decide_eq_true h4, h5⟩
  split at h1
  · rename_i dd cd sl ho
    split at h1
    · rename_i C' bm k0 k1 k2 k3 n k5 hm hs
      simp only [Bool.and_eq_true, beq_iff_eq, Bool.not_eq_true'] at h1
      obtain ⟨⟨⟨⟨rfl, rfl⟩, hdel⟩, hd⟩, hv⟩ := h1
      obtain ⟨nm, bs, mro, ns, qn, hdc, sn, sub, ab, col, del⟩ := cd
      dsimp only at hm hdel hd
      subst hm hdel hd
      have hsl : sl = #[k0, k1, k2, k3, some (.builtin "ValueError.__new__"), k5] := by
        obtain ⟨l⟩ := sl
        simp only at hs
        rw [hs]
      subst hsl
      exact ⟨_, _, _, _, _, _, _, _, _, _, _, _, _, _, _, ho, hv⟩
    · cases h1
  · cases h1
def initB (K : PySem.W.Frag) (C : Addr) (f : Str) : Bool := He.eqO (PySem.W.findIn K (.ref C) "__init__") (some (some (.ref (He.ma K C "__init__")))) && (decide (PySem.W.typeIn K (.ref (He.ma K C "__init__")) = some (.type "function")) && He.eqO (PySem.W.findIn K (.ref C) f) (some none))
def ownB (K : PySem.W.Frag) (C : Addr) : Bool := decide (PySem.W.specialIn K (.ref C) "__getattribute__" = some (some (.builtin "type.__getattribute__"))) && (PySem.W.readsIn K C (.type "type") &&
  (match PySem.W.findCls K (.ref C) (.type "type") "__init__" with
    | some (.val (.builtin n)) => n == "ValueError.__init__"
    | _ => false))
theorem ownB_ok {K : PySem.W.Frag} {C : Addr} (h : ownB K C = true) : OwnInit K C := by
  obtain ⟨h1, h⟩ := He.ba h
  obtain ⟨h2, h3⟩ := He.ba h
  refine ⟨of_decide_eq_true h1, h2, ?_⟩
  split at h3
  · rename_i n e
    rw [e, beq_iff_eq.mp h3]
  · cases h3
/-- what X.__init__(self, 'm'); self.a = g does, read -/
def tOxI (K : PySem.W.Frag) (m a : Str) : TS := tSeq (tDrop (tVeI K (tCons (tVar 0) (tCons (tC (.str m)) tNil)))) (tOst K a (tVar 0) (tVar 1))
theorem ox_pure {K : PySem.W.Frag} {m a : Str} {N : List Str} (vs : List V) (H : Hp) (Q : VK) (E : XK) (h : spOx K a vs H Q E) : tOxI K m a { nx := fun _ H' => Q .non H', rt := Q } (L2.start N vs) H := by
  obtain ⟨b, C, y, rfl, T2, hno, hH, q⟩ := h
  refine ⟨.ref b, rfl, b, C, [.str m], rfl, by simp, T2, hH, ?_⟩
  exact ⟨y, rfl, .ref b, rfl, b, C, rfl, T2, hno, .inl ⟨hH, fun dx h1 h2 => q dx h1 h2⟩⟩
end M1

end

section
set_option maxRecDepth 100000
set_option maxHeartbeats 2000000
/-! M13: what is walked: any sequence, enumerate, zip -/
namespace M1
open PySem PySem.Spec PyProof.Rows L2

theorem pi_or {X : Cx} {tg e : Expr} {t u : TI} (h : PI X tg e t) (k : PI X tg e u) : PI X tg e (fun σ H R => t σ H R ∨ u σ H R) := ⟨fun pins s σ H R I q => by
  rcases q with q | q
  · exact h.run pins s σ H R I q
  · exact k.run pins s σ H R I q⟩
def sgnSrc (z : Str) : Src := ⟨fun i _ => some (z.cps[i]?.map fun c => .str ⟨#[c]⟩), z.cps.size⟩
def iAny (f : Ex) : Ix := bnd f fun d _ S => match d with
  | .tup ds => .ok (seqSrc ds) S
  | .loc n => match lstOf S n with
    | some ds => .ok (lstSrc n ds.length) S
    | none => .er
  | .str z => .ok (sgnSrc z) S
  | _ => .er
theorem itrel_str {K : PySem.W.Frag} {m : Nat → Addr} {S : Store} {H : Hp} {z : Str} : ItRel K (sgnSrc z) (Its z) m S H where
  go := fun m2 S2 H2 f i d e => by
    simp only [sgnSrc, Option.some.injEq, Option.map_eq_some_iff] at e
    obtain ⟨c, e, _⟩ := e
    exact (Array.getElem?_eq_some_iff.mp e).1
  yld := fun m2 S2 H2 f i d e x H3 y => by
    simp only [sgnSrc, Option.some.injEq, Option.map_eq_some_iff] at e
    obtain ⟨c, e, rfl⟩ := e
    obtain ⟨rfl, c', e', rfl⟩ := y
    rw [e] at e'
    cases e'
    exact ⟨Fin.refl f.rs, rfl⟩
  stop := fun m2 S2 H2 f i e => by
    simp only [sgnSrc, Option.some.injEq, Option.map_eq_none_iff] at e
    exact Array.getElem?_eq_none_iff.mp e
def iSgn (f : Ex) : Ix := bnd f fun d _ S => match d with
  | .str z => .ok (sgnSrc z) S
  | _ => .er
section
variable {X : Cx} {W : WX} {tg iter : Expr}
theorem mi_sgn {f : Ex} (h : ME X W iter f) : MI X W tg iter (iSgn f) := pi_imp (pi_str h) fun σ H R q => by
  obtain ⟨m, S, ρ, rs, re, q⟩ := tI_bind (P := Rv X.K) (f := f) q
  refine ⟨m, S, ρ, rs, re, q.mono fun v H1 ⟨m1, S1, d, ρ1, rs1, re1, p, q1⟩ => ?_⟩
  cases d <;> first | exact q1.elim | skip
  cases p
  exact ⟨_, rfl, q1 m1 H1 _ (Fin.refl rs1) itrel_str⟩
theorem mi_any {f : Ex} (h : ME X W iter f) : MI X W tg iter (iAny f) := pi_imp (pi_or (mi_tup h) (pi_or (mi_lst h) (mi_sgn h))) fun σ H R ⟨m, S, ρ, rs, re, q⟩ => by
  unfold iAny bnd at q
  cases e0 : f ρ S with
  | er => rw [e0] at q; exact q.elim
  | ex C d S' => rw [e0] at q; exact .inl ⟨m, S, ρ, rs, re, by unfold iSeq bnd; rw [e0]; exact q⟩
  | ok d S' =>
    rw [e0] at q
    cases d with
    | tup ds => exact .inl ⟨m, S, ρ, rs, re, by unfold iSeq bnd; rw [e0]; exact q⟩
    | loc n => exact .inr (.inl ⟨m, S, ρ, rs, re, by unfold iLst bnd; rw [e0]; exact q⟩)
    | str z => exact .inr (.inr ⟨m, S, ρ, rs, re, by unfold iSgn bnd; rw [e0]; exact q⟩)
    | _ => exact q.elim
end

/-! ### enumerate(tuple) -/
section
variable {prog : Program} {w : World} {A : Around} {E : Value → Shared → Prop} {s : Shared}
theorem meets_enumT (l : Addr) (items : Array Value) :
    Meets (Builtin.«enumerate.__new__» ⟨[.type "enumerate", .ref l], []⟩) (fun _ R s => s.heap.IsTuple l items ∧
      R (.ok (.ret (.ref (s.heap.push { cls := .type "tuple_iterator", data := .fields #[.ref l, .int 0 0] }).objs.size)))
        { s with heap := (s.heap.push { cls := .type "tuple_iterator", data := .fields #[.ref l, .int 0 0] }).push { cls := .type "enumerate", data := .fields #[.none, .bool false, .ref s.heap.objs.size, rawInt 0, .none, .none] } }) :=
  .of_wp fun prog w A R s h => by
    obtain ⟨hp, g, d, tk, os⟩ := s; obtain ⟨hl, h⟩ := h
    have hsub := sub_enumerate
    have hL : Heap.IsTuple (Shared.heap ⟨hp, g, d, tk, os⟩) l items := hl
    wp_walk
    refine wpAny_stack_any fun st => wpAny_pure ?_
    split
    · rename_i c _ _ _ _ _
      cases (c == Value.type "enumerate")
      · wp_walk using wpAny_pyIter_tuple hL
        exact ⟨_, rfl, h⟩
      · wp_walk using wpAny_pyIter_tuple hL
        exact ⟨_, rfl, h⟩
    · wp_walk using wpAny_pyIter_tuple hL
      exact ⟨_, rfl, h⟩
theorem call_enumT {l : Addr} {items : Array Value} {Q : Value → Shared → Prop} (hL : s.heap.IsTuple l items)
    (h : ∀ h', IsEnum h' (s.heap.objs.size + 1) s.heap.objs.size 0 .none → h'.IsTupleIter s.heap.objs.size l 0 → h'.objs.size = s.heap.objs.size + 2 →
      (∀ b o, s.heap.get? b = some o → h'.get? b = some o) → Q (.ref (s.heap.objs.size + 1)) { s with heap := h' }) :
    wpAny (model prog w) A (call (.type "enumerate") [.ref l]) Q E s := by
  refine callType_new F.called_enumerate (by decide) (F.typeCall_enumerate_1 _) (F.newCall_enumerate_1 _) (fun obj => F.args_object_init_2 obj _) F.entry_enumerate_new
    (meets_enumT l items) ⟨hL, ?_⟩
  have hz : (s.heap.push { cls := .type "tuple_iterator", data := .fields #[.ref l, .int 0 0] }).objs.size = s.heap.objs.size + 1 := Heap.size_push ..
  show _ ∧ _
  rw [hz]
  have he : IsEnum ((s.heap.push { cls := .type "tuple_iterator", data := .fields #[.ref l, .int 0 0] }).push
      { cls := .type "enumerate", data := .fields #[.none, .bool false, .ref s.heap.objs.size, rawInt 0, .none, .none] }) (s.heap.objs.size + 1) s.heap.objs.size 0 .none := by
    have := Heap.get?_push_size (s.heap.push { cls := .type "tuple_iterator", data := .fields #[.ref l, .int 0 0] })
      (o := { cls := .type "enumerate", data := .fields #[.none, .bool false, .ref s.heap.objs.size, rawInt 0, .none, .none] }) rfl
    rw [hz] at this; exact this
  refine ⟨⟨_, he, rfl⟩, h _ he ⟨_, Heap.get?_push_of_some _ (Heap.get?_push_size _ rfl), rfl, rfl⟩ (by rw [Heap.size_push, hz]) fun b o x => Heap.get?_push_of_some _ (Heap.get?_push_of_some _ x)⟩
end
def IteT (K : PySem.W.Frag) (a : Addr) : It :=
  ⟨fun i H => ∃ (xs : List V) (x : V), SqT K H a xs ∧ xs[i]? = some x, fun i H v H' => ∃ T x, v = .ref T ∧ H T = none ∧ H' = upd H T (.tup [.int (i : Nat), x]) ∧ ∀ xs, SqT K H a xs → xs[i]? = some x, fun i H => ∃ xs : List V, SqT K H a xs ∧ xs.length ≤ i⟩
theorem turn_enumT {P : Program} {w : World} {K : PySem.W.Frag} {elts : List Expr} {kk : Nat} {tpos : Pos} (a e it : Addr) (hae : a ≠ e) (hai : a ≠ it) :
    Turn P w K (.Tuple elts kk tpos) (IteT K a) [e, it] e (fun i h => (∃ old, IsEnum h e it ((i : Nat) : Int) old) ∧ h.IsTupleIter it a i ∧ e ≠ it) where
  mem := by simp
  obj := fun i h st b hb => by
    obtain ⟨⟨old, he⟩, ⟨o, ho, hc, hd⟩, _⟩ := st
    have e' : b = e ∨ b = it := by simpa using hb
    rcases e' with z | z
    · rw [z]; exact ⟨_, he, fun v q => nomatch q⟩
    · rw [z]; exact ⟨o, ho, fun v q => by rw [hd] at q; cases q⟩
  keep := fun i h h' st k => let ⟨⟨old, he⟩, hi, hne⟩ := st; ⟨⟨old, k e (by simp) _ he⟩, hi.at fun o q => k it (by simp) o q, hne⟩
  item := by
    intro X hP hw hK hc i pins s σ H E I hf st hg
    subst hP hw hK
    obtain ⟨⟨old, he⟩, hit, hne⟩ := st
    obtain ⟨xs, x, hq, hx⟩ := hg
    obtain ⟨its, rv, p, hz⟩ := I.tuple hq
    obtain ⟨u, hu, ru⟩ := rv.get hx
    have hel : e < s.heap.objs.size := Heap.lt_size he
    have hil : it < s.heap.objs.size := by obtain ⟨_, q, _⟩ := hit; exact Heap.lt_size q
    have hlt : i < its.toArray.size := (Array.getElem?_eq_some_iff.mp (show its.toArray[i]? = some u by simpa using hu)).1
    refine wpAny_pyNext_enum_itemD (A := X.A) (Draws.tuple (A := X.A.in1) (I.ok.hd hc) it a hai its.toArray) he ⟨hit, p⟩ hlt hne (by simp; exact ⟨hne, fun z => hae z.symm⟩) fun u' h' tk hPx ho hst' hT hsz hk => ?_
    have hu' : u' = u := by
      have h1 : its.toArray[i]? = some u := by simpa using hu
      rw [h1] at hPx
      exact (Option.some.inj hPx).symm
    subst hu'
    refine ⟨_, rfl, wpAny_letOwnedTupleGo_enum (s := { s with heap := h', toks := tk + 1 }) ho fun h'' he' sb => ?_⟩
    have hT2 : h''.get? s.heap.objs.size = some { cls := .type "tuple", data := .seq #[.int i tk, u'] } := (sb.2 _ (Nat.ne_of_gt hel)).trans hT
    have new : ObjOk X.prog X.w (upd H s.heap.objs.size (.tup [.int (i : Nat), x])) h'' s.heap.objs.size (.tup [.int (i : Nat), x]) :=
      ⟨by show 2 ≤ sizeLine; decide, [.int i tk, u'], .cons ⟨_, rfl⟩ (.cons ru .nil), ⟨_, hT2, rfl, _, rfl⟩⟩
    have I1 : Inv X pins σ (upd H s.heap.objs.size (.tup [.int (i : Nat), x])) { s with heap := h'', toks := tk + 1 } :=
      I.turnedNew (ch := [e, it]) (fun b ob hb q => (sb.2 b (fun z => hb (by simp [z]))).trans (hk b ob (fun z => hb (by simp [z])) (fun z => hb (by simp [z])) q)) hf (Nat.le_refl _) new
    refine ⟨.ref s.heap.objs.size, _, I1, rfl, ⟨_, x, rfl, I.hok.fresh (Nat.le_refl _), rfl, fun ys hy => by rw [I.tuple_inj hy hq]; exact hx⟩, ⟨⟨u', ?_⟩, hst'.1.at fun o q => (sb.2 it (Ne.symm hne)).trans q, hne⟩, fun b hb => ?_⟩
    · have e1 : ((i + 1 : Nat) : Int) = (i : Int) + 1 := by omega
      rw [e1]; exact he'
    · have hb' : b < s.heap.objs.size := by
        have e' : b = e ∨ b = it := by simpa using hb
        rcases e' with z | z
        · rw [z]; exact hel
        · rw [z]; exact hil
      rw [upd_ne (Nat.ne_of_lt hb')]
      exact (hf b hb).1
  done := by
    intro X hP hw hK hc i pins s σ H E I hf st hg
    subst hP hw hK
    obtain ⟨⟨old, he⟩, hit, hne⟩ := st
    obtain ⟨xs, hq, hx⟩ := hg
    obtain ⟨its, rv, p, hz⟩ := I.tuple hq
    obtain ⟨f0, f1, f2, f3, f4, f5⟩ := hf it (by simp)
    have hl := rv.length
    -- the draw's end by its place
    have hT : s.TypeIs (.ref e) "enumerate" := ⟨_, he, rfl⟩
    unfold pyNext
    refine wpAny_bind (wpAny_attempt (wpAny_callSpecial?_slot (name := Str.ofString "__next__") hT F.slot_enumerate_next
      (wpAny_call_entry F.slot_enumerate_next hT F.entry_enumerate_next ?_ (F.args_enumerate_next_1 _))))
    show wpAny _ _ (field (.ref e) 2 >>= _) _ _ _
    refine wpAny_bind (wpAny_field he rfl (x := .ref it) rfl ?_)
    refine wpAny_bind (wpAny_nextOf_tuple_end (A := X.A.in1) (I.ok.hd hc) hit p (by simp; omega) fun h' x he' hx' => ?_)
    obtain ⟨o, ho, hcx⟩ := hx'
    refine wpAny_bind (wpAny_isInstance (T := "StopIteration") (b := true) ⟨o, ho, hcx⟩ isSubtype_stop ?_)
    exact wpAny_pure ⟨rfl, I.turned (t' := s.toks) (fun b o hb q => he' b o hb q) f0 f1 f3 f4 f5⟩
  self := fun A i s Q E st h => let ⟨⟨_, he⟩, _⟩ := st; wpAny_pyIter_enum he h
def iEnumT (K : PySem.W.Frag) (ta : TA) : TI := fun σ H R => ta σ H fun vs H1 => ∃ a xs, vs = [.ref a] ∧ SqT K H1 a xs ∧ R (IteT K a) H1
theorem pi_enumT {X : Cx} {e : Expr} {ta : TA} {p pos tpos : Pos} {elts : List Expr} {kk : Nat} (hg : Gl X "enumerate") (hm : X.mg "enumerate" = none) (ha : PA X [e] ta) (hs : starEach [e] X.env = [(false, eval e X.env)] := by rfl) :
    PI X (.Tuple elts kk tpos) (.Call (.Name "enumerate" p) [e] [] pos) (iEnumT X.K ta) := by
  refine ⟨fun pins s σ H R I h => ?_⟩
  refine Call_ (ld_blt I hg hm PyProof.Rows.boot_enumerate (PyProof.Rows.callWith_type1 (thn (ha.run pos pins s σ H _ I h) fun us s1 ⟨vs, H1, I1, r1, q1⟩ => ?_) hs rfl))
  obtain ⟨a, xs, ex, hq, q⟩ := q1
  subst ex
  cases r1 with
  | cons r rr =>
    cases rr
    cases r
    obtain ⟨its, rv, p', hz⟩ := I1.tuple hq
    have hal : a < s1.heap.objs.size := by obtain ⟨o, ho, _⟩ := p'; exact Heap.lt_size ho
    refine call_enumT (show s1.heap.IsTuple a its.toArray from p') fun h' he hit hsz hk => wpAny_pyIter_enum he ?_
    have I2 : Inv X pins σ H1 { s1 with heap := h' } := I1.kept (t' := s1.toks) hk
    refine ⟨s1.heap.objs.size + 1, [s1.heap.objs.size + 1, s1.heap.objs.size], _, _, H1, rfl, I2, turn_enumT a (s1.heap.objs.size + 1) s1.heap.objs.size (Nat.ne_of_lt (Nat.lt_succ_of_lt hal)) (Nat.ne_of_lt hal), ⟨⟨.none, he⟩, hit, Nat.succ_ne_self _⟩, fun b hb => ?_, q⟩
    have e' : b = s1.heap.objs.size + 1 ∨ b = s1.heap.objs.size := by simpa using hb
    have hle : s1.heap.objs.size ≤ b := by
      rcases e' with z | z
      · rw [z]; exact Nat.le_add_right _ _
      · rw [z]; exact Nat.le_refl _
    exact I1.fpOk hle (I1.hok.fresh hle)

/-! ### enumerate, zip: their mirrors; each item is a new tuple -/
def numbered (i : Nat) (o : Option D) : Option D := o.map fun d => .tup [.int i, d]
def enumT (ds : List D) : Src := ⟨fun i _ => some (numbered i ds[i]?), ds.length⟩
def enumL (n : Nat) (b : Nat) : Src := ⟨fun i S => (lstOf S n).map fun ds => numbered i ds[i]?, b⟩
def iEnumM (f : Ax) : Ix := bnd f fun ds _ S => match ds with
  | [.tup ds] => .ok (enumT ds) S
  | [.loc n] => match lstOf S n with
    | some ds => .ok (enumL n ds.length) S
    | none => .er
  | _ => .er
theorem new_pair {K : PySem.W.Frag} {m : Nat → Addr} {S : Store} {H : Hp} {T : Addr} {ds : List D} {vs : List V} (rs : RS K m S H) (hT : H T = none) (r : Rvs K m S.length H ds vs) : Fin K m S H m S (upd H T (.tup vs)) ∧ Rv K m S.length (upd H T (.tup vs)) (.tup ds) (.ref T) := by
  have f : Fin K m S H m S (upd H T (.tup vs)) := Fin.junk rs hT
  exact ⟨f, Rv.mk_tup (SqT.of upd_same) (f.rvs r)⟩
theorem itrel_enumT {K : PySem.W.Frag} {m : Nat → Addr} {S : Store} {H : Hp} {a : Addr} {vs : List V} {ds : List D} (q : SqT K H a vs) (r : Rvs K m S.length H ds vs) : ItRel K (enumT ds) (IteT K a) m S H where
  go := fun m2 S2 H2 f i d e => by
    simp only [enumT, numbered, Option.some.injEq, Option.map_eq_some_iff] at e
    obtain ⟨c, e, _⟩ := e
    obtain ⟨v, hv, _⟩ := r.get (i := i) e
    exact ⟨vs, v, f.mono a vs q, hv⟩
  yld := fun m2 S2 H2 f i d e x H3 y => by
    simp only [enumT, numbered, Option.some.injEq, Option.map_eq_some_iff] at e
    obtain ⟨c, e, rfl⟩ := e
    obtain ⟨T, v, rfl, hT, rfl, y⟩ := y
    obtain ⟨v', hv, rv⟩ := r.get (i := i) e
    have := y vs (f.mono a vs q)
    rw [hv] at this; cases this
    exact new_pair f.rs hT (.cons rfl (Rvs.one (f.rv rv)))
  stop := fun m2 S2 H2 f i e => by
    simp only [enumT, numbered, Option.some.injEq, Option.map_eq_none_iff] at e
    refine ⟨vs, f.mono a vs q, ?_⟩
    rw [r.length]
    exact List.getElem?_eq_none_iff.mp e
theorem itrel_enumL {K : PySem.W.Frag} {m : Nat → Addr} {S : Store} {H : Hp} {n b : Nat} (hn : n < S.length) : ItRel K (enumL n b) (Ite K (m n)) m S H where
  go := fun m2 S2 H2 f i d e => by
    simp only [enumL, numbered, Option.map_eq_some_iff] at e
    obtain ⟨ds, e1, c, e2, _⟩ := e
    obtain ⟨vs, q, r⟩ := f.rs.list e1
    rw [f.ext n hn] at q
    obtain ⟨v, hv, _⟩ := r.get e2
    exact ⟨vs, v, q, hv⟩
  yld := fun m2 S2 H2 f i d e x H3 y => by
    simp only [enumL, numbered, Option.map_eq_some_iff] at e
    obtain ⟨ds, e1, c, e2, rfl⟩ := e
    obtain ⟨vs, q, r⟩ := f.rs.list e1
    rw [f.ext n hn] at q
    obtain ⟨v, hv, rv⟩ := r.get e2
    obtain ⟨T, v', rfl, hT, rfl, y⟩ := y
    have := y vs q
    rw [hv] at this; cases this
    exact new_pair f.rs hT (.cons rfl (Rvs.one rv))
  stop := fun m2 S2 H2 f i e => by
    simp only [enumL, numbered, Option.map_eq_some_iff, Option.map_eq_none_iff] at e
    obtain ⟨ds, e1, e2⟩ := e
    obtain ⟨vs, q, r⟩ := f.rs.list e1
    rw [f.ext n hn] at q
    refine ⟨vs, q, ?_⟩
    rw [r.length]
    exact List.getElem?_eq_none_iff.mp e2
theorem mi_enum {X : Cx} {W : WX} {e : Expr} {fa : Ax} {p pos tpos : Pos} {elts : List Expr} {kk : Nat} (hg : Gl X "enumerate") (hm : X.mg "enumerate" = none) (ha : MA X W [e] fa) (hs : starEach [e] X.env = [(false, eval e X.env)] := by rfl) :
    MI X W (.Tuple elts kk tpos) (.Call (.Name "enumerate" p) [e] [] pos) (iEnumM fa) := by
  refine pi_imp (pi_or (pi_enumT hg hm ha hs) (pi_enum hg hm ha hs)) fun σ H Rr ⟨m, S, ρ, rs, re, q⟩ => ?_
  unfold iEnumM bnd at q
  cases e0 : fa ρ S with
  | er => rw [e0] at q; exact q.elim
  | ex C d S' => rw [e0] at q; exact .inl ⟨m, S, ρ, rs, re, by rw [e0]; exact q⟩
  | ok ds S' =>
    rw [e0] at q
    simp only [R.bind] at q
    split at q
    · rename_i src S2 hh
      split at hh
      · rename_i xs
        cases hh
        refine .inl ⟨m, S, ρ, rs, re, ?_⟩
        rw [e0]
        intro m' H' v g p
        obtain ⟨v1, rfl, p1⟩ := p.one_of
        obtain ⟨a, vs, rfl, qs, r⟩ := p1.tup
        exact ⟨a, vs, rfl, qs, q m' H' _ g (itrel_enumT qs r)⟩
      · rename_i n
        split at hh
        · rename_i xs hl
          cases hh
          refine .inr ⟨m, S, ρ, rs, re, ?_⟩
          rw [e0]
          intro m' H' v g p
          obtain ⟨v1, rfl, p1⟩ := p.one_of
          obtain ⟨hn, rfl⟩ := p1.loc
          obtain ⟨vs, qs, r⟩ := g.rs.list hl
          exact ⟨_, vs, rfl, qs, q m' H' _ g (itrel_enumL hn)⟩
        · cases hh
      · cases hh
    · rename_i hh
      split at hh
      · cases hh
      · split at hh <;> cases hh
      · cases hh
    · exact q.elim
end M1

end

section
set_option maxRecDepth 100000
set_option maxHeartbeats 2000000
/-! M14: dicts, texts, numbers as texts, three at once, tuples of the module -/
namespace M1
open PySem PySem.Spec PyProof.Rows L2

/-! ### dicts -/
abbrev DK := L2.Key
def keyD : D → Option DK
  | .int i => some (.inl i)
  | .str x => some (.inr x)
  | _ => none
def valD (kvs : List (DK × D)) (k : DK) : Option D := (kvs.find? fun kv => decide (kv.1 = k)).map (·.2)
def putKD (kvs : List (DK × D)) (k : DK) (v : D) : List (DK × D) :=
  if (kvs.any fun kv => decide (kv.1 = k)) = true then kvs.map (fun kv => if kv.1 = k then (kv.1, v) else kv) else kvs ++ [(k, v)]
def dicOf (S : Store) : D → Option (List (DK × D))
  | .loc n => match S[n]? with
    | some (.dic kvs) => some kvs
    | _ => none
  | _ => none
section
variable {K : PySem.W.Frag} {m : Nat → Addr} {N : Nat} {H : Hp}
theorem Rv.key {d : D} {v : V} {k : DK} (r : Rv K m N H d v) (e : keyD d = some k) : v = kV k := by
  cases d <;> simp [keyD] at e
  · cases e; cases r; rfl
  · cases e; cases r; rfl
theorem Rk.val : ∀ {ds : List (DK × D)} {vs : List (DK × V)} (k : DK), Rk K m N H ds vs → (valV vs k).isSome = (valD ds k).isSome ∧ ∀ d, valD ds k = some d → ∃ v, valV vs k = some v ∧ Rv K m N H d v
  | [], _, k, r => by
    simp only [Rk] at r; subst r
    exact ⟨rfl, fun d e => by simp [valD] at e⟩
  | (j, x) :: ds, _, k, r => by
    simp only [Rk] at r
    obtain ⟨v, r', rfl, r1, r2⟩ := r
    by_cases e : j = k
    · rw [valV_pos (p := (j, v)) e]
      have : valD ((j, x) :: ds) k = some x := by simp [valD, e]
      rw [this]
      exact ⟨rfl, fun d e => by cases e; exact ⟨v, rfl, r1⟩⟩
    · rw [valV_neg (p := (j, v)) e]
      have : valD ((j, x) :: ds) k = valD ds k := by simp [valD, e]
      rw [this]
      exact Rk.val k r2
theorem Rk.any {p : DK → Bool} : ∀ {ds : List (DK × D)} {vs : List (DK × V)}, Rk K m N H ds vs → (vs.any fun kv => p kv.1) = ds.any fun kv => p kv.1
  | [], _, r => by simp only [Rk] at r; subst r; rfl
  | (j, x) :: ds, _, r => by
    simp only [Rk] at r
    obtain ⟨v, r', rfl, r1, r2⟩ := r
    simp only [List.any_cons, Rk.any r2]
theorem Rk.snoc {κ : Type} {k : κ} {d : D} {v : V} (h : Rv K m N H d v) : ∀ {ds : List (κ × D)} {vs : List (κ × V)}, Rk K m N H ds vs → Rk K m N H (ds ++ [(k, d)]) (vs ++ [(k, v)])
  | [], _, r => by simp only [Rk] at r; subst r; simp only [List.nil_append, Rk]; exact ⟨v, [], rfl, h, rfl⟩
  | (j, x) :: ds, _, r => by
    simp only [Rk] at r
    obtain ⟨w, r', rfl, r1, r2⟩ := r
    simp only [List.cons_append, Rk]
    exact ⟨w, _, rfl, r1, Rk.snoc h r2⟩
theorem Rk.mapK {k : DK} {d : D} {v : V} (h : Rv K m N H d v) : ∀ {ds : List (DK × D)} {vs : List (DK × V)}, Rk K m N H ds vs → Rk K m N H (ds.map fun kv => if kv.1 = k then (kv.1, d) else kv) (vs.map fun kv => if kv.1 = k then (kv.1, v) else kv)
  | [], _, r => by simp only [Rk] at r; subst r; simp [Rk]
  | (j, x) :: ds, _, r => by
    simp only [Rk] at r
    obtain ⟨w, r', rfl, r1, r2⟩ := r
    by_cases e : j = k
    · simp only [List.map_cons, e, if_true, Rk]; exact ⟨v, _, rfl, h, Rk.mapK h r2⟩
    · simp only [List.map_cons, if_neg e, Rk]; exact ⟨w, _, rfl, r1, Rk.mapK h r2⟩
theorem Rk.putK {ds : List (DK × D)} {vs : List (DK × V)} {k : DK} {d : D} {v : V} (r : Rk K m N H ds vs) (h : Rv K m N H d v) : Rk K m N H (putKD ds k d) (L2.putK vs k v) := by
  unfold putKD L2.putK
  rw [show (vs.any fun kv => decide (kv.1 = k)) = ds.any fun kv => decide (kv.1 = k) from Rk.any (p := fun j => decide (j = k)) r]
  split
  · exact r.mapK h
  · exact r.snoc h
theorem RS.dic {S : Store} {d : D} {v : V} {kvs : List (DK × D)} (rs : RS K m S H) (r : Rv K m S.length H d v) (e : dicOf S d = some kvs) :
    ∃ n vs, d = .loc n ∧ v = .ref (m n) ∧ S[n]? = some (.dic kvs) ∧ H (m n) = some (.dK vs) ∧ Rk K m S.length H kvs vs := by
  unfold dicOf at e
  split at e
  · rename_i n
    obtain ⟨_, rfl⟩ := r.loc
    split at e
    · rename_i k' h
      cases e
      obtain ⟨vs, q, r2⟩ := rs.at_ n _ h
      exact ⟨n, vs, rfl, rfl, h, q, r2⟩
    · cases e
  · cases e
end
def opIxD (x y : D) (S : Store) : O D := match dicOf S x, keyD y with
  | some kvs, some k => (valD kvs k).map fun v => (v, S)
  | _, _ => none
def opInDG (neg : Bool) (x y : D) (S : Store) : O D := match keyD x, dicOf S y with
  | some k, some kvs => some (.bl (if neg then !(valD kvs k).isSome else (valD kvs k).isSome), S)
  | _, _ => none
def opNinC (x y : D) (S : Store) : O D := match x, y with
  | .str a, .str z => if a.cps.size = 1 then some (.bl (!decide (a.cps.getD 0 0 ∈ z.cps.toList)), S) else none
  | _, _ => none
abbrev opIxE := orO opIxA opIxD
abbrev opInE := orO opInA (opInDG false)
abbrev opNinE := orO (orO opNin opNinC) (opInDG true)
def stD (x y z : D) (S : Store) : Option Store := match x, dicOf S x, keyD y with
  | .loc n, some kvs, some k => if kvs.length < 1000000 then some (S.set n (.dic (putKD kvs k z))) else none
  | _, _, _ => none
def orS (g h : D → D → D → Store → Option Store) (x y z : D) (S : Store) : Option Store := match g x y z S with
  | some r => some r
  | none => h x y z S
abbrev stE := orS stL stD
section
variable {X : Cx} {W : WX}
theorem opp_inD (hu : X.A.units + 1 < cLine) : OpR X (compareOp .In) (rO2 X.K (opInDG false)) := by
  intro pins s σ H v u vv uu Q I rv ru h
  obtain ⟨m, S, x, y, rs, rx, ry, ok⟩ := h
  unfold opInDG at ok
  split at ok
  · rename_i k kvs e1 e2
    obtain ⟨n, vs, rfl, rfl, hS, hH, r⟩ := rs.dic ry e2
    have := rx.key e1
    subst this
    obtain ⟨ev, _⟩ := r.val k
    obtain rfl : uu = Value.ref (m n) := ru
    refine d_in hu I (DGet.k hH) rv fun s3 I3 => ⟨.bl (valV vs k).isSome, H, I3, rfl, ?_⟩
    exact ok.same rs rfl (by rw [ev]; rfl)
  · exact ok.none.elim
theorem opp_ninD (hu : X.A.units + 1 < cLine) : OpR X (compareOp .NotIn) (rO2 X.K (opInDG true)) := by
  intro pins s σ H v u vv uu Q I rv ru h
  obtain ⟨m, S, x, y, rs, rx, ry, ok⟩ := h
  unfold opInDG at ok
  split at ok
  · rename_i k kvs e1 e2
    obtain ⟨n, vs, rfl, rfl, hS, hH, r⟩ := rs.dic ry e2
    have := rx.key e1
    subst this
    obtain ⟨ev, _⟩ := r.val k
    obtain rfl : uu = Value.ref (m n) := ru
    refine d_notIn hu I (DGet.k hH) rv fun s3 I3 => ⟨.bl (!(valV vs k).isSome), H, I3, rfl, ?_⟩
    exact ok.same rs rfl (by rw [ev]; rfl)
  · exact ok.none.elim
theorem opp_ninC : OpR X (compareOp .NotIn) (rO2 X.K opNinC) := by
  intro pins s σ H v u vv uu Q I rv ru h
  obtain ⟨m, S, x, y, rs, rx, ry, ok⟩ := h
  refine op_notIn_sign pins s σ H v u vv uu Q I rv ru ?_
  unfold opNinC at ok
  split at ok
  · rename_i a z
    split at ok
    · rename_i hz
      cases rx; cases ry
      obtain ⟨⟨l⟩⟩ := a
      have : ∃ c, l = [c] := by
        simp at hz
        exact List.length_eq_one_iff.mp hz
      obtain ⟨c, rfl⟩ := this
      exact ⟨c, z, rfl, rfl, ok.same rs rfl (by simp [Rv])⟩
    · exact ok.none.elim
  · exact ok.none.elim
theorem opp_inE (hu : X.A.units + 1 < cLine) : OpR X (compareOp .In) (rO2 X.K opInE) := opp_or opp_inA (opp_inD hu)
theorem opp_ninE (hu : X.A.units + 1 < cLine) : OpR X (compareOp .NotIn) (rO2 X.K opNinE) := opp_or (opp_or opp_nin opp_ninC) (opp_ninD hu)
theorem ix_opIxE (hu : X.A.units + 1 < cLine) : IxR X (rO2 X.K opIxE) := by
  intro value slice pins s σ H x y v u Q I rx ry q hs
  rcases rO2_or q with q | q
  · exact ix_opIxA value slice pins s σ H x y v u Q I rx ry q hs
  · obtain ⟨m, S, d, e, rs, r1, r2, ok⟩ := q
    unfold opIxD at ok
    split at ok
    · rename_i kvs k e1 e2
      obtain ⟨n, vs, rfl, rfl, hS, hH, r⟩ := rs.dic r1 e1
      have := r2.key e2
      subst this
      obtain ⟨_, ev⟩ := r.val k
      cases e3 : valD kvs k with
      | none => rw [e3] at ok; exact ok.none.elim
      | some w =>
        rw [e3] at ok
        obtain ⟨z, e4, rz⟩ := ev w e3
        obtain rfl : v = Value.ref (m n) := rx
        have g : DGet H (m n) (kV k) (some z) := by rw [← e4]; exact DGet.k hH
        exact tail_any (dict_typeIs I g) PySem.F.slot_dict_getitem.lookup (d_getItem hu I g ry fun w' s3 I3 rw' => ⟨z, H, I3, rw', ok.same rs rfl rz⟩) hs
    · exact ok.none.elim
theorem me_ixE (hu : X.A.units + 1 < cLine) {a b : Expr} {pos : Pos} {f h : Ex} (ha : ME X W a f) (hb : ME X W b h) (hs : PlainIx b := by intro _ _; rfl) : ME X W (.Subscript a b pos) (eOp opIxE f h) :=
  pe_imp (pe_ix (ix_opIxE hu) ha hb hs) fun _ _ _ => tOp_of
theorem set_dicM (hu : X.A.units + 1 < cLine) : PSet X (rSetD X.K stD) := by
  intro pins s σ H o i v ov iv u Q I ro ri rv h
  obtain ⟨m, S, x, y, z, S', rs, rx, ry, rz, e, q⟩ := h
  refine L2.set_dict hu pins s σ H o i v ov iv u Q I ro ri rv ?_
  unfold stD at e
  split at e
  · rename_i n kvs k e1 e2
    split at e
    · rename_i hz
      cases e
      obtain ⟨n', vs, en, rfl, hS, hH, r⟩ := rs.dic rx e2
      cases en
      have := ry.key e1
      subst this
      have mo : Mono X.K H (upd H (m n) (.dK (L2.putK vs k v))) := Mono.write hH (fun _ z => by cases z) (fun _ _ z => by cases z)
      refine ⟨m n, _, rfl, DPut.k hH (by rw [r.length, sizeLine_eq]; omega), q m _ (Fin.write rs hS rfl ⟨_, upd_same, (r.up (Nat.le_refl _) (fun _ _ => rfl) mo).putK (rz.up (Nat.le_refl _) (fun _ _ => rfl) mo)⟩)⟩
    · cases e
  · cases e
theorem set_or {g h : D → D → D → Store → Option Store} (a : PSet X (rSetD X.K g)) (b : PSet X (rSetD X.K h)) : PSet X (rSetD X.K (orS g h)) := by
  intro pins s σ H o i v ov iv u Q I ro ri rv q
  obtain ⟨m, S, x, y, z, S', rs, rx, ry, rz, e, q⟩ := q
  unfold orS at e
  cases e1 : g x y z S with
  | some r => rw [e1] at e; exact a pins s σ H o i v ov iv u Q I ro ri rv ⟨m, S, x, y, z, S', rs, rx, ry, rz, by rw [e1]; exact e, q⟩
  | none => rw [e1] at e; exact b pins s σ H o i v ov iv u Q I ro ri rv ⟨m, S, x, y, z, S', rs, rx, ry, rz, e, q⟩
theorem set_lstE (hu : X.A.units + 1 < cLine) : PSet X (rSetD X.K stE) := set_or set_lst (set_dicM hu)
/-- {} -/
def eDic0 : Ex := fun _ S => .ok (.loc S.length) (S ++ [.dic []])
theorem me_dic0 {pos : Pos} : ME X W (.Dict [] [] pos) eDic0 := pe_imp pe_dnewK fun σ H Q ⟨m, S, ρ, rs, re, q⟩ p hp => by
  have f : Fin X.K m S H (ext1 m S.length p) (S ++ [.dic []]) (upd H p (.dK [])) := Fin.new rs hp ⟨[], upd_same, rfl⟩
  have : Rv X.K (ext1 m S.length p) (S ++ [SO.dic []]).length (upd H p (.dK [])) (.loc S.length) (.ref (ext1 m S.length p S.length)) := Rv.mk_loc (by simp)
  rw [ext1_new] at this
  exact q _ _ _ f this
/-! ### three at once -/
def sPar3 (i j l : Nat) (f : Ax) : Sm := sE f fun ds ρ S => match ds with
  | [a, b, c] => .nx (((ρ.set i (some a)).set j (some b)).set l (some c)) S
  | _ => .er
theorem ms_par3 {i j l : Nat} {x y z : Str} {a b c : Expr} {fa : Ax} {px py pz pt pos : Pos} {kt k2 pt2} (hc : X.calm = true) (hN : X.N.Nodup) (hi : X.N[i]? = some x) (hj : X.N[j]? = some y) (hl : X.N[l]? = some z) (hij : i ≠ j) (hil : i ≠ l) (hjl : j ≠ l)
    (hx : X.env.scope.names.lookup x = some .local) (hy : X.env.scope.names.lookup y = some .local) (hz : X.env.scope.names.lookup z = some .local) (ha : MA X W [a, b, c] fa)
    (hw : swappedStores [.Tuple [.Name x px, .Name y py, .Name z pz] kt pt] (.Tuple [a, b, c] k2 pt2) X.env = pure (some [x, y, z]))
    (hs : swapsWithSole [.Tuple [.Name x px, .Name y py, .Name z pz] kt pt] (.Tuple [a, b, c] k2 pt2) pos.line X.env = pure false := by rfl) :
    MS X W (.Assign [.Tuple [.Name x px, .Name y py, .Name z pz] kt pt] (.Tuple [a, b, c] k2 pt2) pos) (sPar3 i j l fa) := by
  refine ps_imp (ps_par3 hc hN hi hj hl hij hil hjl hx hy hz ha hw hs) fun E σ H q => ?_
  obtain ⟨m, S, ρ, rs, re, q⟩ := tS_bind (P := Rvs X.K) (f := fa) q
  refine ⟨m, S, ρ, rs, re, q.mono fun vs H1 h1 => ?_⟩
  obtain ⟨m1, S1, ds, ρ1, rs1, re1, p, q1⟩ := h1
  split at q1
  · simp only [Rvs] at p
    obtain ⟨v1, _, rfl, r1, v2, _, rfl, r2, v3, _, rfl, r3, rfl⟩ := p
    exact ⟨v1, v2, v3, rfl, q1 m1 H1 _ (Fin.refl rs1) (((re1.set r1).set r2).set r3)⟩
  · exact q1.elim
end
end M1

end

section
set_option maxRecDepth 100000
set_option maxHeartbeats 2000000
/-! M15: texts: repeated, as numbers, split; f-strings; index; tuples of the module -/
namespace M1
open PySem PySem.Spec PyProof.Rows L2
/-! ### x * n -/
def mulOkB (x : Str) (n : Int) : Bool := !(decide (n < -(2 ^ 63 : Int)) || decide (n ≥ 2 ^ 63)) && (decide (n < 1) || (n == 1 || x.length == 0) || (!decide ((x.length : Int) > (2 ^ 63 - 1) / n) && !Builtin.Str.tooLong (x.length * n.toNat)))
def opMulS (x y : D) (S : Store) : O D := match x, y with
  | .str a, .int n => if mulOkB a n = true then some (.str (Txt.mul a n), S) else none
  | _, _ => none
abbrev opMulE := orO opMulA opMulS
section
variable {X : Cx} {W : WX}
theorem mulOk_of {x : Str} {n : Int} (h : mulOkB x n = true) : MulOk x n := by
  unfold mulOkB at h
  rw [Bool.and_eq_true, Bool.not_eq_true'] at h
  refine ⟨h.1, fun h1 h2 => ?_, fun h1 h2 => ?_⟩
  · have := h.2
    rw [decide_eq_false h1, h2] at this
    simp only [Bool.false_or, Bool.and_eq_true, Bool.not_eq_true', decide_eq_false_iff_not] at this
    exact this.1
  · have := h.2
    rw [decide_eq_false h1, h2] at this
    simp only [Bool.false_or, Bool.and_eq_true, Bool.not_eq_true', decide_eq_false_iff_not] at this
    exact this.2
theorem opp_mulS : OpR X (binaryOp .Mult) (rO2 X.K opMulS) := by
  intro pins s σ H v u vv uu Q I rv ru h
  obtain ⟨m, S, x, y, rs, rx, ry, ok⟩ := h
  unfold opMulS at ok
  split at ok
  · rename_i a n
    split at ok
    · rename_i hz
      cases rx; cases ry
      obtain ⟨t, rfl⟩ := rv
      obtain ⟨t', rfl⟩ := ru
      exact SB.mul (mulOk_of hz) fun t2 k => ⟨.str (Txt.mul a n), H, I.tok _, ⟨_, rfl⟩, ok.same rs rfl rfl⟩
    · exact ok.none.elim
  · exact ok.none.elim
theorem opp_mulE : OpR X (binaryOp .Mult) (rO2 X.K opMulE) := opp_or opp_mulA opp_mulS
/-! ### str(i), int(text) -/
def cStr (xs : List D) (S : Store) : O D := match xs with
  | [.int i] => if i.natAbs.log2 < 1920 then some (.str (toString i : String), S) else none
  | _ => none
theorem cr_str : CallR X (.type "str") (rOL X.K cStr) := by
  intro pins s σ H xs us Q I r h
  obtain ⟨m, S, ds, rs, rx, ok⟩ := h
  refine call_str_int pins s σ H xs us Q I r ?_
  unfold cStr at ok
  split at ok
  · split at ok
    · rename_i hz; obtain ⟨v, rfl, r1⟩ := rx.one_of; cases r1; exact ⟨_, rfl, hz, ok.same rs rfl rfl⟩
    · exact ok.none.elim
  · exact ok.none.elim
def cIntE (xs : List D) (S : Store) : O D := match xs with
  | [.str a] => match PySem.intText? a with
    | some n => if a.length ≤ 640 then some (.int n, S) else none
    | none => none
  | _ => cInt xs S
theorem cr_intE : CallR X (.type "int") (rOL X.K cIntE) := by
  intro pins s σ H xs us Q I r h
  obtain ⟨m, S, ds, rs, rx, ok⟩ := h
  unfold cIntE at ok
  split at ok
  · rename_i a
    refine call_int_str pins s σ H xs us Q I r ?_
    obtain ⟨v, rfl, r1⟩ := rx.one_of; cases r1
    split at ok
    · rename_i n e
      split at ok
      · rename_i hz; exact ⟨a, n, rfl, e, hz, ok.same rs rfl rfl⟩
      · exact ok.none.elim
    · exact ok.none.elim
  · exact cr_int pins s σ H xs us Q I r ⟨m, S, ds, rs, rx, ok⟩
/-! ### x.split(sep) -/
def gSplit (x : D) (xs : List D) (S : Store) : O D := match x, xs with
  | .str a, [.str b] => if b.length ≠ 0 ∧ a.length + 2 ≤ sizeLine then some (.loc S.length, S ++ [.lst ((Txt.split a b).map .str)]) else none
  | _, _ => none
theorem Rvs.strs_of {K : PySem.W.Frag} {m : Nat → Addr} {N : Nat} {H : Hp} : ∀ (ys : List Str), Rvs K m N H (ys.map .str) (ys.map V.str)
  | [] => by simp [Rvs]
  | y :: ys => Rvs.cons rfl (Rvs.strs_of ys)
theorem me_split {o e : Expr} {apos pos : Pos} {fo fe : Ex} (ho : ME X W o fo) (he : ME X W e fe) (hs : starEach [e] X.env = [(false, eval e X.env)] := by rfl) (hbase : attributeBase o "split" X.env (eval o X.env) = eval o X.env := by rfl) (hline : (apos.endLine == pos.line) = true := by rfl) :
    ME X W (.Call (.Attribute o "split" apos) [e] [] pos) (eMb isStr gSplit fo (aCons fe aNil)) :=
  me_m1 (pe_split ho he hs hbase hline) fun x xs H Q ⟨m, S, d, ds, rs, rx, ry, ok⟩ => by
    unfold gSplit at ok
    split at ok
    · rename_i a b
      split at ok
      · rename_i hz
        cases rx
        obtain ⟨v, rfl, r1⟩ := ry.one_of
        cases r1
        refine ⟨a, b, rfl, rfl, by simpa using hz.1, hz.2, fun p hp => ?_⟩
        exact ok.lst rs rfl (Rvs.strs_of _) hp
      · exact ok.none.elim
    · exact ok.none.elim
/-! ### index -/
def idxS (z : Str) : List Str → Option Nat
  | [] => none
  | y :: ys => if y = z then some 0 else (idxS z ys).map (· + 1)
theorem idxS_ok {z : Str} : ∀ {ys : List Str} {j : Nat}, idxS z ys = some j → ys[j]? = some z ∧ ∀ m, m < j → ys[m]? ≠ some z
  | [], _, h => by simp [idxS] at h
  | y :: ys, j, h => by
    unfold idxS at h
    split at h
    · rename_i e; cases h; subst e; exact ⟨rfl, fun m hm => by omega⟩
    · rename_i ne
      simp only [Option.map_eq_some_iff] at h
      obtain ⟨i, h1, rfl⟩ := h
      obtain ⟨a, b⟩ := idxS_ok h1
      refine ⟨by simpa using a, fun m hm => ?_⟩
      cases m with
      | zero => simpa using ne
      | succ m => simpa using b m (by omega)
def gIdxT (x : D) (xs : List D) (S : Store) : O D := match x, xs with
  | .tup ds, [.str z] => ((strsOf ds).bind (idxS z)).map fun j => (.int j, S)
  | _, _ => none
def gIdxL (x : D) (xs : List D) (S : Store) : O D := match x, xs with
  | .loc n, [.str z] => (((lstOf S n).bind strsOf).bind (idxS z)).map fun j => (.int j, S)
  | _, _ => none
def isTup : Store → D → Bool
  | _, .tup _ => true
  | _, _ => false
theorem mt_idxT : MtR X "tuple.index" (rOM X.K gIdxT) := by
  intro pins s σ H x xs v us Q I rx rs h
  obtain ⟨m, S, d, ds, rS, r1, r2, ok⟩ := h
  refine mt_tup_index pins s σ H x xs v us Q I rx rs ?_
  unfold gIdxT at ok
  split at ok
  · rename_i es z
    cases e : (strsOf es).bind (idxS z) with
    | none => rw [e] at ok; exact ok.none.elim
    | some j =>
      rw [e] at ok
      simp only [Option.bind_eq_some_iff] at e
      obtain ⟨ys, e1, e2⟩ := e
      obtain ⟨a, vs, rfl, q, r3⟩ := r1.tup
      have := r3.strs e1
      subst this
      obtain ⟨u, rfl, r4⟩ := r2.one_of
      cases r4
      obtain ⟨p1, p2⟩ := idxS_ok e2
      exact ⟨a, ys, z, j, rfl, rfl, q, p1, p2, ok.same rS rfl rfl⟩
  · exact ok.none.elim
theorem mt_idxL : MtR X "list.index" (rOM X.K gIdxL) := by
  intro pins s σ H x xs v us Q I rx rs h
  obtain ⟨m, S, d, ds, rS, r1, r2, ok⟩ := h
  refine mt_index pins s σ H x xs v us Q I rx rs ?_
  unfold gIdxL at ok
  split at ok
  · rename_i n z
    cases e : ((lstOf S n).bind strsOf).bind (idxS z) with
    | none => rw [e] at ok; exact ok.none.elim
    | some j =>
      rw [e] at ok
      simp only [Option.bind_eq_some_iff] at e
      obtain ⟨ys, ⟨es, e0, e1⟩, e2⟩ := e
      obtain ⟨_, rfl⟩ := r1.loc
      obtain ⟨vs, q, r3⟩ := rS.list e0
      have := r3.strs e1
      subst this
      obtain ⟨u, rfl, r4⟩ := r2.one_of
      cases r4
      obtain ⟨p1, p2⟩ := idxS_ok e2
      refine ⟨m n, _, .str z, j, .str z, rfl, rfl, q, rfl, by simp [flatV], by simp [p1], by simp [eqV], fun i z' hi hz => ?_, ok.same rS rfl rfl⟩
      simp only [List.getElem?_map, Option.map_eq_some_iff] at hz
      obtain ⟨y, hy, rfl⟩ := hz
      have := p2 i hi
      rw [hy] at this
      simpa [eqV] using this
  · exact ok.none.elim
/-! ### f-strings -/
def eFmt (f : Ex) : Ex := bnd f fun d _ S => match d with
  | .str y => if y.length ≤ sizeLine then .ok (.str y) S else .er
  | .int i => if i.natAbs.log2 < 1920 then .ok (.str (toString i : String)) S else .er
  | _ => .er
theorem me_fmt {e : Expr} {pos : Pos} {f : Ex} (he : ME X W e f) : ME X W (.FormattedValue e (-1) none pos) (eFmt f) := pe_imp (pe_fmt he) fun σ H Q q => by
  obtain ⟨m, S, ρ, rs, re, q⟩ := tX_bind (P := Rv X.K) (f := f) q
  refine ⟨m, S, ρ, rs, re, q.mono fun v H1 ⟨m1, S1, d, ρ1, rs1, re1, p, q1⟩ => ?_⟩
  split at q1
  · split at q1
    · rename_i y hz; cases p; exact .inl ⟨y, rfl, hz, q1 m1 H1 _ (Fin.refl rs1) rfl⟩
    · exact q1.elim
  · split at q1
    · rename_i i hz; cases p; exact .inr ⟨i, rfl, hz, q1 m1 H1 _ (Fin.refl rs1) rfl⟩
    · exact q1.elim
  · exact q1.elim
def jsN : List Ex → Str → Ex
  | [], acc, _, S => .ok (.str acc) S
  | f :: fs, acc, ρ, S => (f ρ S).bind fun d S1 => match d with
    | .str y => if (acc ++ y).length ≤ sizeLine then jsN fs (acc ++ y) ρ S1 else .er
    | _ => .er
def eJs (fs : List Ex) : Ex := jsN fs Str.empty
inductive MJ (X : Cx) (W : WX) : List Expr → List Ex → Prop where
  | nil : MJ X W [] []
  | cons {e : Expr} {f : Ex} {es : List Expr} {fs : List Ex} (h : ME X W e f) (r : MJ X W es fs) : MJ X W (e :: es) (f :: fs)
theorem MJ.pj {es : List Expr} {fs : List Ex} (h : MJ X W es fs) : PJ X es (fs.map (tE X.K W)) := by
  induction h with
  | nil => exact .nil
  | cons h r ih => exact .cons h ih
theorem js_of {σ : St} {Q : VK} : ∀ (fs : List Ex) (acc : Str) (H : Hp), tE X.K W (jsN fs acc) σ H Q → tJs (fs.map (tE X.K W)) acc σ H fun out H1 => Q (.str out) H1
  | [], acc, H, ⟨m, S, ρ, rs, re, q⟩ => q m H _ (Fin.refl rs) rfl
  | f :: fs, acc, H, q => by
    have q' : tE X.K W (bnd f fun d ρ S1 => match d with
      | .str y => if (acc ++ y).length ≤ sizeLine then jsN fs (acc ++ y) ρ S1 else .er
      | _ => .er) σ H Q := q
    obtain ⟨m, S, ρ, rs, re, q2⟩ := tX_bind (P := Rv X.K) (f := f) q'
    refine ⟨m, S, ρ, rs, re, q2.mono fun v H1 ⟨m1, S1, d, ρ1, rs1, re1, p, q1⟩ => ?_⟩
    split at q1
    · rename_i y
      split at q1
      · rename_i hz
        cases p
        exact ⟨y, rfl, hz, js_of fs (acc ++ y) H1 ⟨m1, S1, ρ1, rs1, re1, q1⟩⟩
      · exact q1.elim
    · exact q1.elim
theorem me_js {v1 v2 : Expr} {rest : List Expr} {pos : Pos} {fs : List Ex} (h : MJ X W (v1 :: v2 :: rest) fs) : ME X W (.JoinedStr (v1 :: v2 :: rest) pos) (eJs fs) := pe_imp (pe_joined h.pj) fun σ H Q q => js_of fs Str.empty H q
/-! ### tuples of texts that the module holds -/
def KTs (K : PySem.W.Frag) (a : Addr) (ys : List Str) : Prop := ∃ (o : Obj) (its : Array Value) (n : Nat), K.lookup a = some o ∧ o.cls = .type "tuple" ∧ o.dict = none ∧ o.data = .seq its n ∧ its.size ≤ sizeLine ∧ Vals (ys.map V.str) its.toList
def strB : List Value → List Str → Bool
  | [], [] => true
  | .str x _ :: vs, y :: ys => decide (x = y) && strB vs ys
  | _, _ => false
def ktsB (K : PySem.W.Frag) (a : Addr) (ys : List Str) : Bool := match K.lookup a with
  | some ⟨.type "tuple", none, .seq its _, _⟩ => decide (its.size ≤ sizeLine) && strB its.toList ys
  | _ => false
theorem strB_ok : ∀ {vs : List Value} {ys : List Str}, strB vs ys = true → Vals (ys.map V.str) vs
  | [], [], _ => .nil
  | .str x t :: vs, y :: ys, h => by
    unfold strB at h
    rw [Bool.and_eq_true, decide_eq_true_eq] at h
    obtain ⟨rfl, h2⟩ := h
    exact .cons ⟨t, rfl⟩ (strB_ok h2)
  | [], _ :: _, h => by simp [strB] at h
  | .str _ _ :: _, [], h => by simp [strB] at h
theorem ktsB_ok {K : PySem.W.Frag} {a : Addr} {ys : List Str} (h : ktsB K a ys = true) : KTs K a ys := by
  unfold ktsB at h
  split at h
  · rename_i its n sl e
    rw [Bool.and_eq_true, decide_eq_true_eq] at h
    exact ⟨_, its, n, e, rfl, rfl, rfl, h.1, strB_ok h.2⟩
  · cases h
theorem me_gts {x : Str} {a : Addr} {ys : List Str} {pos : Pos} (hg : Gl X x) (hm : X.mg x = some (.ref a)) (hk : KTs X.K a ys) (hd : (x == ("__debug__" : Str)) = false := by decide) : ME X W (.Name x pos) (eC (.tup (ys.map .str))) :=
  me_c (pe_glob (v := .ref a) hg hm rfl hd) fun m N H => Rv.mk_tup (let ⟨o, its, n, e, c, _, d, z, v⟩ := hk; .inr ⟨o, its, n, e, c, d, z, v⟩) (Rvs.strs_of ys)
theorem me_idxK {x : Str} {a : Addr} {ys : List Str} {e : Expr} {p apos cpos : Pos} {fe : Ex} (hg : Gl X x) (hm : X.mg x = some (.ref a)) (hk : KTs X.K a ys) (he : ME X W e fe) (hd : (x == ("__debug__" : Str)) = false := by decide)
    (hbase : attributeBase (.Name x p) "index" X.env (eval (.Name x p) X.env) = eval (.Name x p) X.env := by rfl)
    (hfew : ((backTo cpos (starEach [e] X.env)).all (fun x => !x.1) && (backToKw cpos (keywordEach [] X.env)).all (fun x => x.1.isSome)
      && decide ([e].length + ([] : List Keyword).length + (if ([] : List Keyword).isEmpty then 0 else 1) < 30)) = true := by rfl)
    (hline : (apos.endLine == cpos.line) = true := by rfl) (hs : starEach [e] X.env = (false, eval e X.env) :: starEach [] X.env := by rfl) (hplain : (backTo cpos (starEach [] X.env)).any (·.1) = false := by rfl) :
    ME X W (.Call (.Attribute (.Name x p) "index" apos) [e] [] cpos) (eMb isTup gIdxT (eC (.tup (ys.map .str))) (aCons fe aNil)) :=
  pe_imp (pe_bm F.plainAttrs_tuple PySem.F.slot_tuple_index (by show builtinType _ = _; rw [builtinType_eq_fast]; kernel_rfl) mt_idxT (pe_glob (v := .ref a) hg hm rfl hd) (ma_cons he ma_nil hs) hbase hfew hline hs hplain) fun σ H Q q => by
    obtain ⟨m, S, ρ, rs, re, q⟩ := q
    obtain ⟨o, its, n, e1, e2, e3, e4, e5, e6⟩ := hk
    refine ⟨.inr (.inl ⟨rfl, o, e1, e2, e3⟩), m, S, ρ, rs, re, ?_⟩
    have q1 : Aft X.K (Rv X.K) W ((aCons fe aNil ρ S).bind fun ds S2 => R.of (gIdxT (.tup (ys.map .str)) ds S2)) m S H σ Q := q
    exact (Aft.bind (P := Rvs X.K) q1).mono fun us H2 ⟨m2, S2, ds2, g2, p2, q2⟩ => ⟨m2, S2, .tup (ys.map .str), ds2, g2.rs, Rv.mk_tup (.inr ⟨o, its, n, e1, e2, e4, e5, e6⟩) (Rvs.strs_of ys), p2, Ok1.of q2⟩
end
/-! ### zip -/
def zipP (xs ys : List D) (i : Nat) : Option D := match xs[i]?, ys[i]? with
  | some x, some y => some (.tup [x, y])
  | _, _ => none
def zipT (xs ys : List D) : Src := ⟨fun i _ => some (zipP xs ys i), min xs.length ys.length⟩
def zipL (n k : Nat) (b : Nat) : Src := ⟨fun i S => (lstOf S n).bind fun xs => (lstOf S k).map fun ys => zipP xs ys i, b⟩
def iZipM (f : Ax) : Ix := bnd f fun ds _ S => match ds with
  | [.tup xs, .tup ys] => .ok (zipT xs ys) S
  | [.loc n, .loc k] => match lstOf S n, lstOf S k with
    | some xs, some ys => .ok (zipL n k (min xs.length ys.length)) S
    | _, _ => .er
  | _ => .er
theorem zipP_some {xs ys : List D} {i : Nat} {d : D} (h : zipP xs ys i = some d) : ∃ x y, xs[i]? = some x ∧ ys[i]? = some y ∧ d = .tup [x, y] := by
  unfold zipP at h
  split at h
  · rename_i x y e1 e2; cases h; exact ⟨x, y, e1, e2, rfl⟩
  · cases h
theorem zipP_none {xs ys : List D} {i : Nat} (h : zipP xs ys i = none) : xs.length ≤ i ∨ ys.length ≤ i := by
  unfold zipP at h
  split at h
  · cases h
  · rename_i hn
    by_cases h1 : xs.length ≤ i
    · exact .inl h1
    · by_cases h2 : ys.length ≤ i
      · exact .inr h2
      · exact absurd (List.getElem?_eq_getElem (by omega : i < ys.length)) (fun e => hn _ _ (List.getElem?_eq_getElem (by omega : i < xs.length)) e)
theorem itrel_zipL {K : PySem.W.Frag} {m : Nat → Addr} {S : Store} {H : Hp} {n k b : Nat} (hn : n < S.length) (hk : k < S.length) : ItRel K (zipL n k b) (Itz K (m n) (m k)) m S H where
  go := fun m2 S2 H2 f i d e => by
    simp only [zipL, Option.bind_eq_some_iff, Option.map_eq_some_iff] at e
    obtain ⟨xs, e1, ys, e2, e3⟩ := e
    obtain ⟨x, y, e4, e5, _⟩ := zipP_some e3
    obtain ⟨vs, q, r⟩ := f.rs.list e1
    obtain ⟨us, q', r'⟩ := f.rs.list e2
    rw [f.ext n hn] at q
    rw [f.ext k hk] at q'
    obtain ⟨v, hv, _⟩ := r.get e4
    obtain ⟨u, hu, _⟩ := r'.get e5
    exact ⟨vs, us, v, u, q, q', hv, hu⟩
  yld := fun m2 S2 H2 f i d e x H3 y => by
    simp only [zipL, Option.bind_eq_some_iff, Option.map_eq_some_iff] at e
    obtain ⟨xs, e1, ys, e2, e3⟩ := e
    obtain ⟨x1, y1, e4, e5, rfl⟩ := zipP_some e3
    obtain ⟨vs, q, r⟩ := f.rs.list e1
    obtain ⟨us, q', r'⟩ := f.rs.list e2
    rw [f.ext n hn] at q
    rw [f.ext k hk] at q'
    obtain ⟨v, hv, rv⟩ := r.get e4
    obtain ⟨u, hu, ru⟩ := r'.get e5
    obtain ⟨T, v', u', rfl, hT, rfl, y1, y2⟩ := y
    have z1 := y1 vs q
    have z2 := y2 us q'
    rw [hv] at z1; cases z1
    rw [hu] at z2; cases z2
    exact new_pair f.rs hT (.cons rv (Rvs.one ru))
  stop := fun m2 S2 H2 f i e => by
    simp only [zipL, Option.bind_eq_some_iff, Option.map_eq_some_iff] at e
    obtain ⟨xs, e1, ys, e2, e3⟩ := e
    obtain ⟨vs, q, r⟩ := f.rs.list e1
    obtain ⟨us, q', r'⟩ := f.rs.list e2
    rw [f.ext n hn] at q
    rw [f.ext k hk] at q'
    refine ⟨vs, us, q, q', ?_⟩
    rw [r.length, r'.length]
    exact zipP_none e3
theorem itrel_zipT {K : PySem.W.Frag} {m : Nat → Addr} {S : Store} {H : Hp} {a b : Addr} {vs us : List V} {xs ys : List D} (q : SqT K H a vs) (r : Rvs K m S.length H xs vs) (q' : SqT K H b us) (r' : Rvs K m S.length H ys us) : ItRel K (zipT xs ys) (RZ.ItzT K a b) m S H where
  go := fun m2 S2 H2 f i d e => by
    simp only [zipT, Option.some.injEq] at e
    obtain ⟨x, y, e4, e5, _⟩ := zipP_some e
    obtain ⟨v, hv, _⟩ := r.get e4
    obtain ⟨u, hu, _⟩ := r'.get e5
    exact ⟨vs, us, v, u, f.mono a vs q, f.mono b us q', hv, hu⟩
  yld := fun m2 S2 H2 f i d e x H3 y => by
    simp only [zipT, Option.some.injEq] at e
    obtain ⟨x1, y1, e4, e5, rfl⟩ := zipP_some e
    obtain ⟨v, hv, rv⟩ := r.get e4
    obtain ⟨u, hu, ru⟩ := r'.get e5
    obtain ⟨T, v', u', rfl, hT, rfl, y1, y2⟩ := y
    have z1 := y1 vs (f.mono a vs q)
    have z2 := y2 us (f.mono b us q')
    rw [hv] at z1; cases z1
    rw [hu] at z2; cases z2
    exact new_pair f.rs hT (.cons (f.rv rv) (Rvs.one (f.rv ru)))
  stop := fun m2 S2 H2 f i e => by
    simp only [zipT, Option.some.injEq] at e
    refine ⟨vs, us, f.mono a vs q, f.mono b us q', ?_⟩
    rw [r.length, r'.length]
    exact zipP_none e
theorem mi_zip {X : Cx} {W : WX} {e e2 : Expr} {fa : Ax} {p pos tpos : Pos} {elts : List Expr} {kk : Nat} (hg : Gl X "zip") (hm : X.mg "zip" = none) (ha : MA X W [e, e2] fa) (hs : starEach [e, e2] X.env = (false, eval e X.env) :: starEach [e2] X.env := by rfl) (hpl : (backTo pos (starEach [e2] X.env)).any (·.1) = false := by rfl) :
    MI X W (.Tuple elts kk tpos) (.Call (.Name "zip" p) [e, e2] [] pos) (iZipM fa) := by
  refine pi_imp (RZ.pi_zipA hg hm ha hs hpl) fun σ H Rr q => ?_
  obtain ⟨m, S, ρ, rs, re, q⟩ := tI_bind (P := Rvs X.K) (f := fa) q
  refine ⟨m, S, ρ, rs, re, q.mono fun v H1 ⟨m1, S1, ds, ρ1, rs1, re1, p1, q1⟩ => ?_⟩
  split at q1
  · rename_i src S2 hh
    split at hh
    · rename_i xs ys
      cases hh
      obtain ⟨v1, v2, rfl, r1, r2⟩ := p1.two_of
      obtain ⟨a, vs, rfl, qs, r⟩ := r1.tup
      obtain ⟨b, us, rfl, qs', r'⟩ := r2.tup
      exact ⟨a, b, vs, us, rfl, .inr ⟨qs, qs', q1 m1 H1 _ (Fin.refl rs1) (itrel_zipT qs r qs' r')⟩⟩
    · rename_i n k
      split at hh
      · rename_i xs ys e1 e2
        cases hh
        obtain ⟨v1, v2, rfl, r1, r2⟩ := p1.two_of
        obtain ⟨hn, rfl⟩ := r1.loc
        obtain ⟨hk, rfl⟩ := r2.loc
        obtain ⟨vs, qs, r⟩ := rs1.list e1
        obtain ⟨us, qs', r'⟩ := rs1.list e2
        exact ⟨_, _, vs, us, rfl, .inl ⟨qs, qs', q1 m1 H1 _ (Fin.refl rs1) (itrel_zipL hn hk)⟩⟩
      · cases hh
    · cases hh
  · rename_i hh
    split at hh
    · cases hh
    · split at hh <;> cases hh
    · cases hh
  · exact q1.elim
end M1

end

section
set_option maxRecDepth 100000
set_option maxHeartbeats 2000000
/-! M16: *a, b = a list -/
namespace M1
open PySem PySem.Spec PyProof.Rows L2
section
variable {prog : Program} {w : World} {A : Around} {E : Value → Shared → Prop} {s : Shared}
theorem star_itemsOf {l : Addr} {items : Array Value} {Q : List Value → Shared → Prop} (hh : A.handled = none) (hl : s.heap.IsList l items) (hne : 1 ≤ items.size) (hz : items.size ≤ sizeLine)
    (hQ : ∀ (h' : Heap) (tk : Nat), (∀ b o, s.heap.get? b = some o → h'.get? b = some o) → s.toks ≤ tk →
      Q (.ref h'.objs.size :: items.toList.drop (items.size - 1)) { s with heap := h'.push { cls := .type "list", data := .seq (items.toList.take (items.size - 1)).toArray }, toks := tk }) :
    wpAny (model prog w) A (unpackItems (.ref l) 2 (some 0)) Q E s := by
  have hlt : l ≠ s.heap.objs.size := by obtain ⟨o, ho, _⟩ := hl; exact Nat.ne_of_lt (Heap.lt_size ho)
  unfold unpackItems
  refine wpAny_bind ?_
  unfold notIterableAtAll
  refine wpAny_bind (wpAny_specialOf hl.typeIs slot_list_iter.lookup ?_)
  refine wpAny_pure ?_
  simp only [Bool.false_eq_true, if_false]
  refine wpAny_bind (wpAny_holding (wpAny_pyIter_list hl ?_))
  refine wpAny_bind (wpAny_holding ?_)
  show wpAny _ _ (pure []) _ _ _
  refine wpAny_pure ?_
  rw [if_neg (by simp)]
  refine wpAny_bind (wpAny_holding ?_)
  refine wpAny_collect_iter (T := "list_iterator") (.inr (.inr (.inl rfl))) (Walks.list (prog := prog) (w := w) (A := A.in1) hh s.heap.objs.size l hlt items).toS (fun i s2 st => st.1.typeIs) ⟨⟨_, Heap.get?_push_size _ rfl, rfl, rfl⟩, hl.push _⟩ (fun b hb => ?_) (by simp) (fun s' acc hm hacc => ?_) hz
  · have hll : l < s.heap.objs.size := by obtain ⟨o, ho, _⟩ := hl; exact Heap.lt_size ho
    have hps : ∀ ob, (s.heap.push ob).objs.size = s.heap.objs.size + 1 := fun ob => by simp [Heap.push]
    show b < (s.heap.push _).objs.size
    rw [hps]
    simp only [List.mem_cons, List.mem_nil_iff, or_false] at hb
    rcases hb with e | e
    · rw [e]; exact Nat.lt_succ_self _
    · rw [e]; exact Nat.lt_succ_of_lt hll
  · have ha : acc.toList = items.toList := by
      apply List.ext_getElem?
      intro j
      by_cases hj : j < items.size
      · have h1 : acc[j]? = some (acc[j]'(by rw [hacc.1]; exact hj)) := Array.getElem?_eq_getElem _
        have h2 := hacc.2 j _ h1
        rw [Array.getElem?_toList, Array.getElem?_toList, h1, h2]
      · rw [List.getElem?_eq_none (by simp [hacc.1]; omega), List.getElem?_eq_none (by simp; omega)]
    have hk : ∀ b o, s.heap.get? b = some o → s'.heap.get? b = some o := fun b o e => hm.heap b o (fun hb => by
      rw [List.mem_singleton.mp hb] at e
      exact absurd (Heap.lt_size e) (Nat.lt_irrefl _)) (Heap.get?_push_of_some _ e)
    have htk : s.toks ≤ s'.toks := hm.toks
    rw [ha]
    have hln : items.toList.length = items.size := by simp
    rw [if_neg (show ¬ items.toList.length < 2 - 1 - 0 by rw [hln]; omega)]
    rw [show items.toList.length - (2 - 1 - 0) = items.size - 1 by rw [hln]]
    refine wpAny_bind (wpAny_newObj_type ?_ (by show (items.toList.take (items.size - 1)).toArray.size ≤ sizeLine; simp; omega))
    refine wpAny_pure ?_
    have := hQ s'.heap s'.toks hk htk
    rw [Moved.eq_with hm]
    exact this
end
theorem vals_snoc : ∀ {xs : List V} {y : V} {its : List Value}, Vals (xs ++ [y]) its → ∃ us u, its = us ++ [u] ∧ Vals xs us ∧ RelV y u
  | [], y, its, h => by
    cases h with
    | cons r h2 => cases h2; exact ⟨[], _, rfl, .nil, r⟩
  | x :: xs, y, its, h => by
    cases h with
    | cons r h2 =>
      obtain ⟨us, u, rfl, a, b⟩ := vals_snoc h2
      exact ⟨_ :: us, u, rfl, .cons r a, b⟩
/-- *a, b = a list of at least one -/
def gStarL (K : PySem.W.Frag) (t : TGs) : TG := fun v σ H Q => ∃ a xs y, v = .ref a ∧ SqL K H a (xs ++ [y]) ∧ ∀ p, H p = none → t [.ref p, y] σ (upd H p (.lst xs)) Q
section
variable {X : Cx} {pos sp : Pos} {a b : Expr} {k : Nat} {t : TGs}
theorem pg_star (hc : X.calm = true) (h : PGs X [a, b] t) (hn : (assignEach [.Starred a sp, b] X.env).map (·.2) = (assignEach [a, b] X.env).map (·.2) := by rfl) (hst : (assignEach [.Starred a sp, b] X.env).findIdx? (·.1) = some 0 := by rfl)
    (hl : (assignEach [.Starred a sp, b] X.env).length = 2 := by rfl) : PG X (.Tuple [.Starred a sp, b] k pos) (gStarL X.K t) := by
  refine ⟨fun pins s σ H v u Q I r hw => ?_⟩
  obtain ⟨ad, xs, y, e1, hq, hw⟩ := hw
  subst e1
  cases r
  obtain ⟨its, rv, pl, hz⟩ := I.list hq
  rw [PyProof.Rows.assign_Tuple]
  refine wpAny_bind (wpAny_standAt ?_)
  unfold unpack
  rw [hl, hst, hn]
  obtain ⟨us, u, rfl, r1, r2⟩ := vals_snoc rv
  have hz' : xs.length + 1 ≤ sizeLine := by simpa using hz
  have hu := r1.length
  refine wpAny_bind (wpAny_holding (star_itemsOf (I.ok.hd hc) pl.isList (by simp) (by simp; omega) fun h' tk hk ht => ?_))
  have I1 : Inv X pins σ H { s with heap := h', toks := tk } := I.kept (t' := tk) hk
  have fr := I1.hok.fresh (Nat.le_refl h'.objs.size)
  have e1 : (us ++ [u]).toArray.size - 1 = us.length := by simp
  have e2 : (us ++ [u]).toArray.toList = us ++ [u] := by simp
  rw [e1, e2, List.take_left, List.drop_left]
  have I2 : Inv X pins σ (upd H h'.objs.size (.lst xs)) { s with heap := h'.push { cls := .type "list", data := .seq us.toArray }, toks := tk } :=
    I1.laid (s := { s with heap := h', toks := tk }) (h' := h'.push { cls := .type "list", data := .seq us.toArray }) (t' := tk) (fun b o e => Heap.get?_push_of_some _ e) (Nat.le_refl _)
      (show ObjOk X.prog X.w _ _ _ (.lst xs) from ⟨by omega, us, 0, r1, Heap.get?_push_size _ rfl⟩)
  exact h.run pins _ σ _ [.ref h'.objs.size, y] _ Q I2 (.cons rfl (.cons r2 .nil)) (hw _ fr)
end
/-- *a, b = a list, plain local names -/
def xStar (i j : Nat) : Xm := fun d ρ S => match d with
  | .loc l => match lstOf S l with
    | some ds => match ds.getLast? with
      | some z => .nx ((ρ.set i (some (.loc S.length))).set j (some z)) (S ++ [.lst ds.dropLast])
      | none => .er
    | none => .er
  | _ => .er
theorem Rvs.snoc_of {K : PySem.W.Frag} {m : Nat → Addr} {N : Nat} {H : Hp} : ∀ {ds : List D} {z : D} {vs : List V}, Rvs K m N H (ds ++ [z]) vs → ∃ us v, vs = us ++ [v] ∧ Rvs K m N H ds us ∧ Rv K m N H z v
  | [], z, vs, r => by
    obtain ⟨v, rfl, h⟩ := Rvs.one_of r
    exact ⟨[], v, rfl, Rvs.nil, h⟩
  | d :: ds, z, vs, r => by
    simp only [List.cons_append, Rvs] at r
    obtain ⟨v, r', rfl, h1, h2⟩ := r
    obtain ⟨us, u, rfl, a, b⟩ := Rvs.snoc_of h2
    exact ⟨v :: us, u, rfl, Rvs.cons h1 a, b⟩
section
variable {X : Cx} {W : WX} {pos sp pa pb : Pos} {x y : Str} {k i j : Nat}
theorem mx_star (hc : X.calm = true) (hx : PG X (.Name x pa) (gName i)) (hy : PG X (.Name y pb) (gName j)) (hs1 : (assignEach [.Name x pa, .Name y pb] X.env).map (·.2) = assign (.Name x pa) X.env :: (assignEach [.Name y pb] X.env).map (·.2) := by rfl)
    (hs2 : (assignEach [.Name y pb] X.env).map (·.2) = assign (.Name y pb) X.env :: (assignEach [] X.env).map (·.2) := by rfl)
    (hn : (assignEach [.Starred (.Name x pa) sp, .Name y pb] X.env).map (·.2) = (assignEach [.Name x pa, .Name y pb] X.env).map (·.2) := by rfl) (hst : (assignEach [.Starred (.Name x pa) sp, .Name y pb] X.env).findIdx? (·.1) = some 0 := by rfl)
    (hl : (assignEach [.Starred (.Name x pa) sp, .Name y pb] X.env).length = 2 := by rfl) : MX X W (.Tuple [.Starred (.Name x pa) sp, .Name y pb] k pos) (xStar i j) :=
  pg_imp (pg_star hc (pgs_cons hx (pgs_cons hy pgs_nil hs2) hs1) hn hst hl) fun v σ H Q ⟨m, S, d, ρ, rs, re, r, q⟩ => by
    unfold xStar at q
    split at q
    · rename_i l
      split at q
      · rename_i ds e1
        split at q
        · rename_i z e2
          obtain ⟨hl', rfl⟩ := r.loc
          obtain ⟨vs, qs, rv⟩ := rs.list e1
          have eds : ds = ds.dropLast ++ [z] := by
            have hne : ds ≠ [] := by intro h; subst h; simp at e2
            have := List.dropLast_concat_getLast hne
            rw [List.getLast?_eq_some_getLast hne] at e2
            cases e2
            exact this.symm
          rw [eds] at rv
          obtain ⟨us, u, rfl, r1, r2⟩ := Rvs.snoc_of rv
          refine ⟨m l, us, u, rfl, qs, fun p hp => ?_⟩
          have f : Fin X.K m S H (ext1 m S.length p) (S ++ [.lst ds.dropLast]) (upd H p (.lst us)) := Fin.new rs hp ⟨us, upd_same, r1.up (Nat.le_succ _) (fun n hn => ext1_old hn) (Mono.new hp)⟩
          have rp : Rv X.K (ext1 m S.length p) (S ++ [SO.lst ds.dropLast]).length (upd H p (.lst us)) (.loc S.length) (.ref p) := by
            have : Rv X.K (ext1 m S.length p) (S ++ [SO.lst ds.dropLast]).length (upd H p (.lst us)) (.loc S.length) (.ref (ext1 m S.length p S.length)) := Rv.mk_loc (by simp)
            rwa [ext1_new] at this
          refine ⟨_, _, rfl, _, _, rfl, rfl, ?_⟩
          exact q _ _ _ f (((f.re re).set rp).set (f.rv r2))
        · exact q.elim
      · exact q.elim
    · exact q.elim
end
theorem hu1 {n : Nat} (h : n + 64 < cLine) : n + 1 < cLine := by omega
end M1

end

section
set_option maxRecDepth 100000
set_option maxHeartbeats 2000000
/-! S1: evaluation of mirrors, by simp -/
namespace M1
open PySem L2

section
variable {ρ : Env} {S S1 : Store} {α β γ : Type}
@[simp] theorem eC_ev (d : D) : eC d ρ S = .ok d S := rfl
@[simp] theorem bind_ok (a : α) (k : α → Store → R β) : (R.ok a S).bind k = k a S := rfl
@[simp] theorem bind_ex (C d) (k : α → Store → R β) : (R.ex C d S : R α).bind k = .ex C d S := rfl
@[simp] theorem bind_er (k : α → Store → R β) : (R.er : R α).bind k = .er := rfl
@[simp] theorem out_ok (a : α) (k : α → Store → Out) : (R.ok a S).out ρ k = k a S := rfl
@[simp] theorem out_ex (C d) (k : α → Store → Out) : (R.ex C d S : R α).out ρ k = .ex C d ρ S := rfl
@[simp] theorem of_some (a : α) : R.of (some (a, S)) = .ok a S := rfl
@[simp] theorem seq_nx (k : Sm) : (Out.nx ρ S).seq k = k ρ S := rfl
@[simp] theorem seq_rt (d : D) (k : Sm) : (Out.rt d S).seq k = .rt d S := rfl
@[simp] theorem seq_ex (C d) (k : Sm) : (Out.ex C d ρ S).seq k = .ex C d ρ S := rfl
@[simp] theorem eOp_ev (g f h) : eOp g f h ρ S = (f ρ S).bind fun x S1 => (h ρ S1).bind fun y S2 => R.of (g x y S2) := rfl
@[simp] theorem aNil_ev : aNil ρ S = .ok [] S := rfl
@[simp] theorem aCons_ev (f g) : aCons f g ρ S = (f ρ S).bind fun d S1 => (g ρ S1).bind fun ds S2 => .ok (d :: ds) S2 := rfl
@[simp] theorem eCall_ev (g f) : eCall g f ρ S = (f ρ S).bind fun ds S1 => R.of (g ds S1) := rfl
@[simp] theorem eF_ev (F dd fa) : eF F dd fa ρ S = (fa ρ S).bind fun ds S1 => F (ds ++ dd) S1 := rfl
@[simp] theorem sSeq_ev (f g) : sSeq f g ρ S = (f ρ S).seq g := rfl
@[simp] theorem sRet_ev (f) : sRet f ρ S = (f ρ S).out ρ fun d S1 => .rt d S1 := rfl
@[simp] theorem sNil_ev : sNil ρ S = .nx ρ S := rfl
@[simp] theorem sExpr_ev (f) : sExpr f ρ S = (f ρ S).out ρ fun _ S1 => .nx ρ S1 := rfl
@[simp] theorem sAsg_ev (f i) : sAsg f (gN i) ρ S = (f ρ S).out ρ fun d S1 => .nx (ρ.set i (some d)) S1 := rfl
@[simp] theorem sIf_ev (t f g) : sIf t f g ρ S = (t ρ S).out ρ fun c S1 => if c = true then f ρ S1 else g ρ S1 := rfl
@[simp] theorem eIf_ev (t f g) : eIf t f g ρ S = (t ρ S).bind fun c S1 => if c = true then f ρ S1 else g ρ S1 := rfl
@[simp] theorem tBl_ev (f) : tBl f ρ S = (f ρ S).bind fun d S1 => toB d S1 := rfl
@[simp] theorem toB_ev (b) : toB (.bl b) S = .ok b S := rfl
@[simp] theorem tNotM_ev (f) : tNotM f ρ S = (f ρ S).bind fun c S1 => .ok (!c) S1 := rfl
@[simp] theorem tOrM_ev (f g) : tOrM f g ρ S = (f ρ S).bind fun c S1 => if c = true then .ok true S1 else g ρ S1 := rfl
@[simp] theorem tAndM_ev (f g) : tAndM f g ρ S = (f ρ S).bind fun c S1 => if c = true then g ρ S1 else .ok false S1 := rfl
@[simp] theorem eAnd_ev (f g) : eAnd f g ρ S = (f ρ S).bind fun d S1 => (toB d S1).bind fun c S1 => if c = true then g ρ S1 else .ok (.bl false) S1 := rfl
@[simp] theorem eOr_ev (f g) : eOr f g ρ S = (f ρ S).bind fun d S1 => (toB d S1).bind fun c S1 => if c = true then .ok (.bl true) S1 else g ρ S1 := rfl
@[simp] theorem eNot_ev (f) : eNot f ρ S = (f ρ S).bind fun d S1 => (toB d S1).bind fun c S1 => .ok (.bl (!c)) S1 := rfl
@[simp] theorem eVar_ev (i) : eVar i ρ S = match ρ[i]? with | some (some d) => .ok d S | _ => .er := rfl
@[simp] theorem eCh_ev (g g' f h k) : eCh g g' f h k ρ S = (f ρ S).bind fun x S1 => (h ρ S1).bind fun y S2 => (R.of (g x y S2)).bind fun z S3 => (toB z S3).bind fun c S4 => if c = true then (k ρ S4).bind fun w S5 => R.of (g' y w S5) else .ok (.bl false) S4 := rfl
@[simp] theorem sPar2_ev (i j f) : sPar2 i j f ρ S = (f ρ S).out ρ fun ds S => match ds with | [a, b] => .nx ((ρ.set i (some a)).set j (some b)) S | _ => .er := rfl
@[simp] theorem eTup_ev (f) : eTup f ρ S = (f ρ S).bind fun ds S1 => if ds.length ≤ sizeLine then .ok (.tup ds) S1 else .er := rfl
@[simp] theorem eLst_ev (f) : eLst f ρ S = (f ρ S).bind fun ds S1 => if ds.length ≤ sizeLine then .ok (.loc S1.length) (S1 ++ [.lst ds]) else .er := rfl
end
end M1

end

section
set_option maxRecDepth 100000
set_option maxHeartbeats 2000000
/-! S1b: == on ground values -/
namespace M1
open PySem L2
mutual
def gD : D → Bool
  | .non | .bl _ | .int _ => true
  | .str x => PyData.strOk x
  | .tup ds => gDs ds
  | _ => false
def gDs : List D → Bool
  | [] => true
  | d :: ds => gD d && gDs ds
end
mutual
def pd : D → PyData
  | .bl b => .bool b
  | .int i => .int i
  | .str x => .str x
  | .tup ds => .tuple (pds ds)
  | _ => .none
def pds : List D → List PyData
  | [] => []
  | d :: ds => pd d :: pds ds
end
mutual
def dpD : D → Nat
  | .tup ds => dpDs ds + 1
  | _ => 0
def dpDs : List D → Nat
  | [] => 0
  | d :: ds => max (dpD d) (dpDs ds)
end
mutual
theorem toPy_gD (S : Store) : ∀ (d : D) (f : Nat), gD d = true → dpD d ≤ f → toPy S f d = some (pd d)
  | .non, f, _, _ => by cases f <;> simp [toPy, pd]
  | .bl _, f, _, _ => by cases f <;> simp [toPy, pd]
  | .int _, f, _, _ => by cases f <;> simp [toPy, pd]
  | .str _, f, _, _ => by cases f <;> simp [toPy, pd]
  | .tup ds, f, h, hf => by
    simp only [gD] at h
    simp only [dpD] at hf
    cases f with
    | zero => omega
    | succ f =>
      simp only [toPy, pd]
      rw [toPy_gDs S ds f h (by omega)]
      rfl
  | .byt _, f, h, _ => by simp [gD] at h
  | .ty _, f, h, _ => by simp [gD] at h
  | .gl _, f, h, _ => by simp [gD] at h
  | .loc _, f, h, _ => by simp [gD] at h
theorem toPy_gDs (S : Store) : ∀ (ds : List D) (f : Nat), gDs ds = true → dpDs ds ≤ f → ds.mapM (toPy S f) = some (pds ds)
  | [], f, _, _ => by simp [pds]
  | d :: ds, f, h, hf => by
    simp only [gDs, Bool.and_eq_true] at h
    simp only [dpDs] at hf
    rw [List.mapM_cons, toPy_gD S d f h.1 (by omega), toPy_gDs S ds f h.2 (by omega)]
    rfl
end
mutual
theorem lay_gD : ∀ d : D, gD d = true → PyData.canLay0 (pd d) = true
  | .non, _ => by simp [pd, PyData.canLay0]
  | .bl _, _ => by simp [pd, PyData.canLay0]
  | .int _, _ => by simp [pd, PyData.canLay0]
  | .str _, h => by simpa [pd, PyData.canLay0, gD] using h
  | .tup ds, h => by simp only [gD] at h; simp only [pd, PyData.canLay0]; exact lay_gDs ds h
  | .byt _, h => by simp [gD] at h
  | .ty _, h => by simp [gD] at h
  | .gl _, h => by simp [gD] at h
  | .loc _, h => by simp [gD] at h
theorem lay_gDs : ∀ ds : List D, gDs ds = true → PyData.canLayAll0 (pds ds) = true
  | [], _ => by simp [pds, PyData.canLayAll0]
  | d :: ds, h => by
    simp only [gDs, Bool.and_eq_true] at h
    simp only [pds, PyData.canLayAll0, Bool.and_eq_true]
    exact ⟨lay_gD d h.1, lay_gDs ds h.2⟩
end
mutual
theorem dep_gD : ∀ d : D, PyData.depth (pd d) = dpD d
  | .non => by simp [pd, PyData.depth, dpD]
  | .bl _ => by simp [pd, PyData.depth, dpD]
  | .int _ => by simp [pd, PyData.depth, dpD]
  | .str _ => by simp [pd, PyData.depth, dpD]
  | .tup ds => by simp only [pd, PyData.depth, dpD]; rw [dep_gDs ds]
  | .byt _ => by simp [pd, PyData.depth, dpD]
  | .ty _ => by simp [pd, PyData.depth, dpD]
  | .gl _ => by simp [pd, PyData.depth, dpD]
  | .loc _ => by simp [pd, PyData.depth, dpD]
theorem dep_gDs : ∀ ds : List D, PyData.depthAll (pds ds) = dpDs ds
  | [] => by simp [pds, PyData.depthAll, dpDs]
  | d :: ds => by simp only [pds, PyData.depthAll, dpDs]; rw [dep_gD d, dep_gDs ds]
end
mutual
theorem eqv_refl : ∀ d : D, gD d = true → PyData.eqv (pd d) (pd d) = true
  | .non, _ => by simp [pd, PyData.eqv]
  | .bl _, _ => by simp [pd, PyData.eqv]
  | .int _, _ => by simp [pd, PyData.eqv]
  | .str _, _ => by simp [pd, PyData.eqv]
  | .tup ds, h => by simp only [gD] at h; simp only [pd, PyData.eqv]; exact eqvs_refl ds h
  | .byt _, h => by simp [gD] at h
  | .ty _, h => by simp [gD] at h
  | .gl _, h => by simp [gD] at h
  | .loc _, h => by simp [gD] at h
theorem eqvs_refl : ∀ ds : List D, gDs ds = true → PyData.eqvAll (pds ds) (pds ds) = true
  | [], _ => by simp [pds, PyData.eqvAll]
  | d :: ds, h => by
    simp only [gDs, Bool.and_eq_true] at h
    simp only [pds, PyData.eqvAll, Bool.and_eq_true]
    exact ⟨eqv_refl d h.1, eqvs_refl ds h.2⟩
end
theorem shaped_gD {d : D} (h : gD d = true) (hd : dpD d ≤ 60) : SeqAt.shaped (pd d) = true := by
  unfold SeqAt.shaped
  rw [lay_gD d h, dep_gD d]
  simp; omega
section
variable {S : Store}
theorem pyEq_gD {x y : D} (hx : gD x = true) (hy : gD y = true) (dx : dpD x ≤ 60) (dy : dpD y ≤ 60) : pyEq S x y = some (PyData.eqv (pd x) (pd y)) := by
  unfold pyEq
  rw [toPy_gD S x 60 hx dx, toPy_gD S y 60 hy dy]
  simp [shaped_gD hx dx, shaped_gD hy dy]
theorem opEq_self {x : D} (hx : gD x = true) (dx : dpD x ≤ 60) : opEq x x S = some (.bl true, S) := by
  unfold opEq; rw [pyEq_gD hx hx dx dx, eqv_refl x hx]; rfl
theorem opNe_self {x : D} (hx : gD x = true) (dx : dpD x ≤ 60) : opNe x x S = some (.bl false, S) := by
  unfold opNe; rw [pyEq_gD hx hx dx dx, eqv_refl x hx]; rfl
@[simp] theorem opEq_int (i j : Int) : opEq (.int i) (.int j) S = some (.bl (decide (i = j)), S) := by
  unfold opEq; rw [pyEq_gD rfl rfl (by simp [dpD]) (by simp [dpD])]
  simp only [pd, PyData.eqv, Option.map_some, Option.some.injEq, Prod.mk.injEq, D.bl.injEq, and_true]
  by_cases h : i = j <;> simp [h]
@[simp] theorem opNe_int (i j : Int) : opNe (.int i) (.int j) S = some (.bl (!decide (i = j)), S) := by
  unfold opNe; rw [pyEq_gD rfl rfl (by simp [dpD]) (by simp [dpD])]
  simp only [pd, PyData.eqv, Option.map_some, Option.some.injEq, Prod.mk.injEq, D.bl.injEq, and_true]
  by_cases h : i = j <;> simp [h]
/-- two lists -/
theorem pyEq_lst {a b : Nat} {xs ys : List D} (ha : lstOf S a = some xs) (hb : lstOf S b = some ys) (gx : gDs xs = true) (gy : gDs ys = true) (dx : dpDs xs ≤ 59) (dy : dpDs ys ≤ 59) : pyEq S (.loc a) (.loc b) = some (PyData.eqvAll (pds xs) (pds ys)) := by
  unfold pyEq
  have e1 : toPy S 60 (.loc a) = some (.list (pds xs)) := by
    rw [show (60 : Nat) = 59 + 1 from rfl]
    simp only [toPy, ha, Option.bind_some]
    rw [toPy_gDs S xs 59 gx dx]; rfl
  have e2 : toPy S 60 (.loc b) = some (.list (pds ys)) := by
    rw [show (60 : Nat) = 59 + 1 from rfl]
    simp only [toPy, hb, Option.bind_some]
    rw [toPy_gDs S ys 59 gy dy]; rfl
  have s1 : ∀ zs : List D, gDs zs = true → dpDs zs ≤ 59 → SeqAt.shaped (.list (pds zs)) = true := fun zs g d => by
    unfold SeqAt.shaped
    simp only [PyData.canLay0, PyData.depth, dep_gDs, lay_gDs zs g]
    simp; omega
  rw [e1, e2]
  simp [s1 xs gx dx, s1 ys gy dy, PyData.eqv]
theorem gDs_ints (ns : List Int) : gDs (ns.map .int) = true := by induction ns with | nil => rfl | cons n ns ih => simp [gDs, gD, ih]
theorem dpDs_ints (ns : List Int) : dpDs (ns.map .int) = 0 := by induction ns with | nil => rfl | cons n ns ih => simp [dpDs, dpD, ih]
end
end M1

end

section
set_option maxRecDepth 100000
set_option maxHeartbeats 2000000
/-! S3: comprehensions and loops, their plain laws -/
namespace M1
open PySem L2
theorem lstW_at {S X : Store} {acc : List D} : lstW (S ++ .lst acc :: X) S.length = some acc := by
  unfold lstW
  rw [List.getElem?_append_right (Nat.le_refl _)]; simp
theorem set_at {S X : Store} {a b : SO} : (S ++ a :: X).set S.length b = S ++ b :: X := by
  rw [List.set_append_right _ _ (Nat.le_refl _)]; simp
/-- a comprehension whose element only adds to the store -/
theorem compN_ext {src : Src} {g : Gm} {e : Ex} {ρ0 : Env} {S : Store} {ds : List D} {f : D → D} (hz : ds.length ≤ sizeLine) (hit : ∀ i X, src.item i (S ++ X) = some ds[i]?)
    (hf : ∀ d ∈ ds, ∀ X, ∃ ρ T, g d (S ++ X) ρ0 = some ρ ∧ e ρ (S ++ X) = .ok (f d) (S ++ X ++ T)) :
    ∀ (k i : Nat) (X : Store), i ≤ ds.length → ds.length + 1 ≤ k + i → ∃ T, compN src g tYesM e ρ0 S.length k i (S ++ .lst ((ds.take i).map f) :: X) = .ok () (S ++ .lst (ds.map f) :: T)
  | 0, i, X, h1, h2 => by omega
  | k + 1, i, X, h1, h2 => by
    unfold compN
    rw [hit i]
    by_cases hi : i < ds.length
    · have e1 : ds[i]? = some ds[i] := List.getElem?_eq_getElem hi
      obtain ⟨ρ, T, h3, h4⟩ := hf ds[i] (List.getElem_mem hi) (.lst ((ds.take i).map f) :: X)
      obtain ⟨T2, ih⟩ := compN_ext (src := src) (g := g) (e := e) (ρ0 := ρ0) (f := f) hz hit hf k (i + 1) (X ++ T) (by omega) (by omega)
      refine ⟨T2, ?_⟩
      rw [e1]
      simp only [h3, h4, tYesM, bind_ok, if_true, List.append_assoc, List.cons_append]
      rw [lstW_at]
      simp only [List.length_map, List.length_take]
      rw [if_pos (by omega), set_at]
      have e2 : (ds.take i).map f ++ [f ds[i]] = (ds.take (i + 1)).map f := by
        simp only [List.take_add_one, e1, Option.toList_some, List.map_append, List.map_cons, List.map_nil]
      rw [e2]
      exact ih
    · have e1 : ds[i]? = none := List.getElem?_eq_none (by omega)
      rw [e1]
      refine ⟨X, ?_⟩
      rw [List.take_of_length_le (by omega)]
theorem eLc_ext {n : Nat} {vs : List Nat} {fi : Ix} {g : Gm} {e : Ex} {ρ : Env} {S0 S : Store} {src : Src} {ds : List D} {f : D → D} (hn : ρ.length ≤ n) (hi : fi ρ S0 = .ok src S) (hb : ds.length ≤ src.bound) (hz : ds.length ≤ sizeLine) (hit : ∀ i X, src.item i (S ++ X) = some ds[i]?)
    (hf : ∀ d ∈ ds, ∀ X, ∃ ρ1 T, g d (S ++ X) (wipeE ρ vs) = some ρ1 ∧ e ρ1 (S ++ X) = .ok (f d) (S ++ X ++ T)) : ∃ T, eLc n vs fi g tYesM e ρ S0 = .ok (.loc S.length) (S ++ .lst (ds.map f) :: T) := by
  unfold eLc
  rw [if_pos hn, hi]
  simp only [bind_ok]
  obtain ⟨T, h⟩ := compN_ext (src := src) (g := g) (e := e) (ρ0 := wipeE ρ vs) (f := f) hz hit hf (src.bound + 1) 0 [] (by omega) (by omega)
  refine ⟨T, ?_⟩
  simp only [List.take_zero, List.map_nil] at h
  rw [h]
  rfl
@[simp] theorem wipeE_nil (ρ : Env) : wipeE ρ [] = ρ := rfl
@[simp] theorem wipeE_cons (ρ : Env) (v vs) : wipeE ρ (v :: vs) = (wipeE ρ vs).set v none := rfl
@[simp] theorem gN_ev (i d S ρ) : gN i d S ρ = some (ρ.set i (some d)) := rfl
@[simp] theorem iAny_ev (f : Ex) (ρ S) : iAny f ρ S = (f ρ S).bind fun d S => match d with
  | .tup ds => .ok (seqSrc ds) S
  | .loc n => match lstOf S n with
    | some ds => .ok (lstSrc n ds.length) S
    | none => .er
  | .str z => .ok (sgnSrc z) S
  | _ => .er := rfl
@[simp] theorem seqSrc_item (ds i S) : (seqSrc ds).item i S = some ds[i]? := rfl
@[simp] theorem seqSrc_bound (ds) : (seqSrc ds).bound = ds.length := rfl
end M1

end

section
set_option maxRecDepth 100000
set_option maxHeartbeats 2000000
/-! P1: more evaluation lemmas: operators, subscripts, lists, loops -/

namespace M1
open PySem L2
section
variable {ρ : Env} {S S1 T : Store} {α β γ : Type}
/-! tests, slices, fields, calls -/
@[simp] theorem tTru_ev (f) : tTru f ρ S = (f ρ S).bind fun d S1 => match truD S1 d with | some b => .ok b S1 | none => .er := rfl
@[simp] theorem truD_bl (b) : truD S (.bl b) = some b := rfl
@[simp] theorem pNo_ev : pNo ρ S = .ok none S := rfl
@[simp] theorem pAt_ev (f) : pAt f ρ S = (f ρ S).bind fun d S1 => match d with | .int i => .ok (some i) S1 | _ => .er := rfl
@[simp] theorem eSl_ev (f l h) : eSl f l h ρ S = (f ρ S).bind fun x S1 => (l ρ S1).bind fun lo S2 => (h ρ S2).bind fun hi S3 => R.of (opSl x lo hi S3) := rfl
@[simp] theorem eFld_ev (cs f nm) : eFld cs f nm ρ S = (f ρ S).bind fun d S1 => match insOf cs S1 d with | some (_, fs) => (match fs.lookup nm with | some v => .ok v S1 | none => .er) | none => .er := rfl
@[simp] theorem eMb_ev (t g fo fa) : eMb t g fo fa ρ S = (fo ρ S).bind fun o S1 => if t S1 o = true then (fa ρ S1).bind fun ds S2 => R.of (g o ds S2) else .er := rfl
@[simp] theorem eM_ev (C mm F dd fo fa) : eM C mm F dd fo fa ρ S = (fo ρ S).bind fun o S1 => if metOf C mm S1 o = true then (fa ρ S1).bind fun ds S2 => F (o :: (ds ++ dd)) S2 else .er := rfl
@[simp] theorem eMk_ev (C F dd fa) : eMk C F dd fa ρ S = (fa ρ S).bind fun ds S1 => (F (.loc S1.length :: (ds ++ dd)) (S1 ++ [.ins C []])).bind fun r S2 => match r with | .non => .ok (.loc S1.length) S2 | _ => .er := rfl
@[simp] theorem eF0_ev (F dd) : eF0 F dd ρ S = noX (F dd S) := rfl
@[simp] theorem noX_ok (d) : noX (.ok d S) = .ok d S := rfl
@[simp] theorem eNeg_ev (f) : eNeg f ρ S = (f ρ S).bind fun d S1 => match d with | .int i => .ok (.int (-i)) S1 | _ => .er := rfl
@[simp] theorem eHex_ev (fo) : eHex fo ρ S = (fo ρ S).bind fun o S => match o with | .byt b => if b.size ≤ 8388608 then .ok (.str (hexS b)) S else .er | _ => .er := rfl
@[simp] theorem sRaise0_ev (C) : sRaise0 C ρ S = .ex (.ref C) none ρ S := rfl
@[simp] theorem sRaise1_ev (C f fa) : sRaise1 C f fa ρ S = (fa ρ S).out ρ fun ds S => match ds with | [d] => .ex (.ref C) (some S.length) ρ (S ++ [.xd [(f, d)]]) | _ => .er := rfl
@[simp] theorem sFor_ev (f g b) : sFor f g b ρ S = (f ρ S).out ρ fun src S => forN src g b (src.bound + 1) 0 ρ S := rfl
@[simp] theorem sAsgX_ev (f g) : sAsgX f g ρ S = (f ρ S).out ρ fun d S => (g d ρ S).tgt := rfl
@[simp] theorem tgt_nx : (Out.nx ρ S).tgt = .nx ρ S := rfl
@[simp] theorem xSub_ev (fo fi g d) : xSub fo fi g d ρ S = (fo ρ S).out ρ fun o S1 => (fi ρ S1).out ρ fun i S2 => match g o i d S2 with | some S3 => .nx ρ S3 | none => .er := rfl
@[simp] theorem sFld_ev (cs fo nm fv) : sFld cs fo nm fv ρ S = (fv ρ S).out ρ fun v S => (fo ρ S).out ρ fun o S2 => match o, insOf cs S2 o with
  | .loc n, some (C, fs) => if fs.length < 1000 then .nx ρ (S2.set n (.ins C (putD nm v fs))) else .er
  | _, _ => .er := rfl
@[simp] theorem sFldAugM_ev (cs fo nm fe g) : sFldAugM cs fo nm fe g ρ S = (fo ρ S).out ρ fun o S1 => match o, insOf cs S1 o with
  | .loc n, some (C, fs) => match fs.lookup nm with
    | some v => (fe ρ S1).out ρ fun y S2 => match g v y S2 with
      | some (z, S3) => match insOf [C] S3 o with
        | some (_, fs') => if fs'.length < 1000 then .nx ρ (S3.set n (.ins C (putD nm z fs'))) else .er
        | none => .er
      | none => .er
    | none => .er
  | _, _ => .er := rfl
@[simp] theorem gT_ev (n g ds) : gT n g (.tup ds) S ρ = if ds.length = n then g ds S ρ else none := rfl
@[simp] theorem gsNil_ev : gsNil [] S ρ = some ρ := rfl
@[simp] theorem gsCons_ev (g h d r) : gsCons g h (d :: r) S ρ = (g d S ρ).bind fun ρ' => h r S ρ' := rfl
@[simp] theorem sAsg_ev2 (f g) : sAsg f g ρ S = (f ρ S).out ρ fun d S => match g d S ρ with | some ρ' => .nx ρ' S | none => .er := rfl
@[simp] theorem sTry_ev (b ans su) : sTry b ans su ρ S = match b ρ S with
  | .ex c d ρ' S' => match ans c with
    | some true => match su ρ' S' with
      | .ex _ _ _ _ => .er
      | o => o
    | some false => .ex c d ρ' S'
    | none => .er
  | o => o := rfl
theorem gA_loc {n g l ds} (h : lstOf S l = some ds) : gA n g (.loc l) S ρ = if ds.length = n then g ds S ρ else none := by simp [gA, gL, h]
@[simp] theorem gA_tup (n g ds) : gA n g (.tup ds) S ρ = if ds.length = n then g ds S ρ else none := rfl
theorem whileN_succ (t b n) : whileN t b (n + 1) ρ S = (t ρ S).out ρ fun c S1 => if c = true then match b ρ S1 with
      | .nx ρ' S' => whileN t b n ρ' S'
      | .ct ρ' S' => whileN t b n ρ' S'
      | .bk ρ' S' => .nx ρ' S'
      | o => o
    else .nx ρ S1 := rfl
theorem gL_ev {n g l ds} (h : lstOf S l = some ds) : gL n g (.loc l) S ρ = if ds.length = n then g ds S ρ else none := by simp [gL, h]
/-! the store -/
theorem get_of_lstOf {n : Nat} {xs : List D} (h : lstOf S n = some xs) : n < S.length := by
  unfold lstOf at h
  by_cases hl : n < S.length
  · exact hl
  · rw [List.getElem?_eq_none (by omega)] at h; cases h
theorem lstOf_app {n : Nat} {xs : List D} (h : lstOf S n = some xs) : lstOf (S ++ T) n = some xs := by
  have hn := get_of_lstOf h
  unfold lstOf at h ⊢
  rw [List.getElem?_append_left hn]; exact h
theorem lstW_of {n : Nat} {xs : List D} (h : S[n]? = some (.lst xs)) : lstW S n = some xs := by simp [lstW, h]
theorem lstOf_of {n : Nat} {xs : List D} (h : S[n]? = some (.lst xs)) : lstOf S n = some xs := by simp [lstOf, h]
@[simp] theorem get_app0 (o : SO) : (S ++ o :: T)[S.length]? = some o := by simp
@[simp] theorem lstOf_pk (k : Nat) : lstOf (S ++ T) (S.length + k) = lstOf T k := by
  unfold lstOf
  rw [List.getElem?_append_right (by omega)]; simp
@[simp] theorem lstOf_pk0 : lstOf (S ++ T) S.length = lstOf T 0 := lstOf_pk 0
@[simp] theorem lstOf_c0 (xs) : lstOf (.lst xs :: T) 0 = some xs := rfl
@[simp] theorem lstOf_cs (o : SO) (k : Nat) : lstOf (o :: T) (k + 1) = lstOf T k := by simp [lstOf]
@[simp] theorem lstW_pk (k : Nat) : lstW (S ++ T) (S.length + k) = lstW T k := by
  unfold lstW
  rw [List.getElem?_append_right (by omega)]; simp
@[simp] theorem lstW_pk0 : lstW (S ++ T) S.length = lstW T 0 := lstW_pk 0
@[simp] theorem lstW_c0 (xs) : lstW (.lst xs :: T) 0 = some xs := rfl
@[simp] theorem lstW_cs (o : SO) (k : Nat) : lstW (o :: T) (k + 1) = lstW T k := by simp [lstW]
@[simp] theorem set_pk (k : Nat) (x : SO) : (S ++ T).set (S.length + k) x = S ++ T.set k x := by
  rw [List.set_append_right _ _ (by omega)]; simp
@[simp] theorem set_pk0 (x : SO) : (S ++ T).set S.length x = S ++ T.set 0 x := set_pk 0 x
theorem lstW_app {n : Nat} {xs : List D} (h : lstW S n = some xs) : lstW (S ++ T) n = some xs := by
  have hn : n < S.length := by
    by_cases hl : n < S.length
    · exact hl
    · unfold lstW at h; rw [List.getElem?_eq_none (by omega)] at h; cases h
  unfold lstW at h ⊢
  rw [List.getElem?_append_left hn]; exact h
theorem lstOf_W {n : Nat} {xs : List D} (h : lstW S n = some xs) : lstOf S n = some xs := by
  unfold lstW at h
  unfold lstOf
  split at h
  · rename_i ys hx; rw [hx]; exact h
  · cases h
theorem lt_of_lstW {n : Nat} {xs : List D} (h : lstW S n = some xs) : n < S.length := get_of_lstOf (lstOf_W h)
/-! operators -/
theorem opMulA_rep {l : Nat} {a : List D} {k : Int} (h : lstW S l = some a) (h1 : 0 ≤ k) (h2 : a.length * k.toNat ≤ 16777216) (h3 : k < 9223372036854775808) : opMulA (.loc l) (.int k) S = some (.loc S.length, S ++ [.lst (List.replicate k.toNat a).flatten]) := by
  have hb : -(2 ^ 63) ≤ k ∧ k < 2 ^ 63 ∧ a.length * k.toNat ≤ sizeLine := by rw [sizeLine_eq]; omega
  show (match opMul (.loc l) (.int k) S with | some r => some r | none => opRepT (.loc l) (.int k) S) = _
  unfold opMul
  simp only [h, Option.bind_some]
  rw [if_pos hb]
@[simp] theorem opAdd_int (i j : Int) : opAdd (.int i) (.int j) S = some (.int (i + j), S) := rfl
@[simp] theorem opSub_int (i j : Int) : opSub (.int i) (.int j) S = some (.int (i - j), S) := rfl
@[simp] theorem opMulA_int (i j : Int) (h : small64 i = true ∨ small64 j = true) : opMulA (.int i) (.int j) S = some (.int (i * j), S) := by
  unfold opMulA orO opMul
  rcases h with h | h <;> simp [h]
theorem small_of {i : Int} (h1 : -18446744073709551616 < i) (h2 : i < 18446744073709551616) : small64 i = true := by
  unfold small64; simp; omega
theorem opMulA_l {i j : Int} (h1 : -18446744073709551616 < i) (h2 : i < 18446744073709551616) : opMulA (.int i) (.int j) S = some (.int (i * j), S) := opMulA_int _ _ (.inl (small_of h1 h2))
theorem opMulA_r {i j : Int} (h1 : -18446744073709551616 < j) (h2 : j < 18446744073709551616) : opMulA (.int i) (.int j) S = some (.int (i * j), S) := opMulA_int _ _ (.inr (small_of h1 h2))
@[simp] theorem opMod_int (i j : Int) (h : 0 < j) : opMod (.int i) (.int j) S = some (.int (i % j), S) := by unfold opMod; simp [h]
@[simp] theorem opFdiv_int (i j : Int) (h : 0 < j) (h2 : j < 1073741824) : opFdiv (.int i) (.int j) S = some (.int (i / j), S) := by unfold opFdiv; simp [h, h2]
@[simp] theorem opPow_1018 : opPow (.int 10) (.int 18) S = some (.int 1000000000000000000, S) := by
  show (if (0:Int) ≤ 18 ∧ (18:Int) ≤ 1000000 ∧ (10:Int).natAbs < 2 ^ 64 then some (D.int (10 ^ (18:Int).toNat), S) else none) = _
  rw [if_pos (by decide)]; rfl
@[simp] theorem opLe_int (i j : Int) : opLe (.int i) (.int j) S = some (.bl (decide (i ≤ j)), S) := rfl
@[simp] theorem opLt_int (i j : Int) : opLt (.int i) (.int j) S = some (.bl (decide (i < j)), S) := rfl
@[simp] theorem opGe_int (i j : Int) : opGe (.int i) (.int j) S = some (.bl (decide (j ≤ i)), S) := rfl
@[simp] theorem opGt_int (i j : Int) : opGt (.int i) (.int j) S = some (.bl (decide (j < i)), S) := rfl
@[simp] theorem opIAdd_int (i j : Int) : opIAdd (.int i) (.int j) S = some (.int (i + j), S) := rfl
@[simp] theorem opISub_int (i j : Int) : opISub (.int i) (.int j) S = some (.int (i - j), S) := rfl
@[simp] theorem cInt_int (i : Int) : cInt [.int i] S = some (.int i, S) := rfl
@[simp] theorem cInt_bl (b : Bool) : cInt [.bl b] S = some (.int (if b then 1 else 0), S) := rfl
@[simp] theorem cLen_tup (ds) : cLen [.tup ds] S = some (.int ds.length, S) := rfl
theorem cLen_loc {n ds} (h : lstOf S n = some ds) : cLen [.loc n] S = some (.int ds.length, S) := by simp [cLen, h]
@[simp] theorem cTup_tup (ds) : cTup [.tup ds] S = some (.tup ds, S) := rfl
theorem cTup_loc {n ds} (h : lstOf S n = some ds) : cTup [.loc n] S = some (.tup ds, S) := by simp [cTup, h]
@[simp] theorem cLst_tup (ds) : cLst [.tup ds] S = some (.loc S.length, S ++ [.lst ds]) := rfl
theorem cLst_loc {n ds} (h : lstOf S n = some ds) : cLst [.loc n] S = some (.loc S.length, S ++ [.lst ds]) := by simp [cLst, h]
@[simp] theorem opAdd_tup (a b) (h : a.length + b.length ≤ 16777216) : opAdd (.tup a) (.tup b) S = some (.tup (a ++ b), S) := by simp [opAdd, sizeLine_eq, h]
theorem opAdd_lst {i j a b} (h1 : lstW S i = some a) (h2 : lstW S j = some b) (h : a.length + b.length ≤ 16777216) : opAdd (.loc i) (.loc j) S = some (.loc S.length, S ++ [.lst (a ++ b)]) := by simp [opAdd, sizeLine_eq, h, h1, h2]
theorem opIxA_tup {ds : List D} {i : Int} {d : D} (h : 0 ≤ i) (e : ds[i.toNat]? = some d) : opIxA (.tup ds) (.int i) S = some (d, S) := by
  have hl : i.toNat < ds.length := by
    by_cases hl : i.toNat < ds.length
    · exact hl
    · rw [List.getElem?_eq_none (by omega)] at e; cases e
  unfold opIxA orO opIx L2.atI L2.ixN
  simp only [h, show i < ds.length by omega, if_true, Option.bind_some, e, Option.map_some]
theorem opIxA_lst {n : Nat} {ds : List D} {i : Int} {d : D} (hS : lstOf S n = some ds) (h : 0 ≤ i) (e : ds[i.toNat]? = some d) : opIxA (.loc n) (.int i) S = some (d, S) := by
  have hl : i.toNat < ds.length := by
    by_cases hl : i.toNat < ds.length
    · exact hl
    · rw [List.getElem?_eq_none (by omega)] at e; cases e
  unfold opIxA orO opIx L2.atI L2.ixN
  simp only [hS, h, show i < ds.length by omega, if_true, Option.bind_some, e, Option.map_some]
theorem opIxA_byt {b : Array UInt8} {i : Int} (hz : b.size ≤ 16777216) (h : 0 ≤ i) (h2 : i < b.size) : opIxA (.byt b) (.int i) S = some (.int ((b.toList.getD i.toNat 0).toNat : Nat), S) := by
  unfold opIxA orO opIx opIxB
  simp [sizeLine_eq, hz, h, h2]
theorem opIx_byt_er {b : Array UInt8} {i : Int} (h : ¬(0 ≤ i ∧ i < b.size)) : opIxA (.byt b) (.int i) S = none := by
  unfold opIxA orO opIx opIxB
  simp; omega
theorem opIxA_str {z : Str} {i : Int} {c : Nat} (hz : z.length ≤ 16777216) (h : 0 ≤ i) (e : z.cps.toList[i.toNat]? = some c) : opIxA (.str z) (.int i) S = some (.str ⟨#[c]⟩, S) := by
  have hl : i.toNat < z.cps.toList.length := by
    by_cases hl : i.toNat < z.cps.toList.length
    · exact hl
    · rw [List.getElem?_eq_none (by omega)] at e; cases e
  unfold opIxA orO opIx L2.atI L2.ixN
  simp [sizeLine_eq, hz, h]
  have : i < (z.cps.size : Int) := by simp at hl; omega
  simp at e
  simp [this, e]
@[simp] theorem opSl_tup (ds lo hi) : opSl (.tup ds) lo hi S = some (.tup (cutD ds lo hi), S) := rfl
theorem opSl_lst {n ds} (h : lstOf S n = some ds) (lo hi) : opSl (.loc n) lo hi S = some (.loc S.length, S ++ [.lst (cutD ds lo hi)]) := by simp [opSl, h]
theorem cut_drop {ds : List D} {i : Int} (h : 0 ≤ i) : cutD ds (some i) none = ds.drop i.toNat := by
  unfold cutD HT.sIx
  simp only [show ¬ i < 0 by omega, if_false]
  by_cases hl : i.toNat ≤ ds.length
  · rw [Nat.min_eq_left hl, List.take_of_length_le (by simp)]
  · rw [Nat.min_eq_right (by omega), List.drop_eq_nil_of_le (Nat.le_refl _), List.drop_eq_nil_of_le (by omega)]; simp
theorem cut_take {ds : List D} {i : Int} (h : 0 ≤ i) : cutD ds none (some i) = ds.take i.toNat := by
  unfold cutD HT.sIx
  simp only [show ¬ i < 0 by omega, if_false, List.drop_zero, Nat.sub_zero]
  by_cases hl : i.toNat ≤ ds.length
  · rw [Nat.min_eq_left hl]
  · rw [Nat.min_eq_right (by omega), List.take_of_length_le (Nat.le_refl _), List.take_of_length_le (by omega)]
/-! lists' methods -/
theorem isLst_of {n ds} (h : lstOf S n = some ds) : isLst S (.loc n) = true := by simp [isLst, h]
theorem gApp_ev {n l y} (h : lstW S n = some l) (hz : l.length < 16777216) : gApp (.loc n) [y] S = some (.non, S.set n (.lst (l ++ [y]))) := by simp [gApp, h, sizeLine_eq, hz]
theorem gExt_ev {n k l l2} (h : lstW S n = some l) (h2 : lstW S k = some l2) (hz : l.length + l2.length ≤ 16777216) : gExt (.loc n) [.loc k] S = some (.non, S.set n (.lst (l ++ l2))) := by simp [gExt, h, h2, sizeLine_eq, hz]
theorem strs_map (l : List Str) : strsOf (l.map .str) = some l := by induction l with | nil => rfl | cons b l ih => simp [strsOf, ih]
theorem ints_map (l : List Int) : intsOf (l.map .int) = some l := by induction l with | nil => rfl | cons b l ih => simp [intsOf, ih]
theorem bls_map (l : List Bool) : blsOf (l.map .bl) = some l := by induction l with | nil => rfl | cons b l ih => simp [blsOf, ih]
@[simp] theorem isStr_str (z) : isStr S (.str z) = true := rfl
@[simp] theorem isLst_pk (k : Nat) : isLst (S ++ T) (.loc (S.length + k)) = isLst T (.loc k) := by simp [isLst]
@[simp] theorem isLst_pk0 : isLst (S ++ T) (.loc S.length) = isLst T (.loc 0) := by simp [isLst]
@[simp] theorem isLst_c0 (xs) : isLst (.lst xs :: T) (.loc 0) = true := rfl
@[simp] theorem rngD_item (lo n i) : (rngD lo n).item i S = some (if i < n then some (.int (lo + i)) else none) := rfl
@[simp] theorem rngD_bound (lo n) : (rngD lo n).bound = n := rfl
theorem iRng1_ev {f : Ax} {j : Int} (e : f ρ S = .ok [.int j] S1) (h : 0 ≤ j) (h2 : j < 4611686018427387904) : iRng1 f ρ S = .ok (rngD 0 j.toNat) S1 := by
  unfold iRng1 bnd
  rw [e]
  simp only [bind_ok]
  rw [if_pos (by omega)]
@[simp] theorem iRng1_ev' (f : Ax) : iRng1 f ρ S = (f ρ S).bind fun ds S => match ds with
  | [.int j] => if -4611686018427387904 ≤ j ∧ j < 4611686018427387904 then .ok (rngD 0 j.toNat) S else .er
  | _ => .er := rfl
/-- a loop by its invariant -/
theorem forN_inv {src : Src} {g : Gm} {b : Sm} (I : Nat → Env → Store → Prop) (n : Nat)
    (step : ∀ i ρ S, i < n → I i ρ S → ∃ d ρ1 ρ2 S2, src.item i S = some (some d) ∧ g d S ρ = some ρ1 ∧ b ρ1 S = .nx ρ2 S2 ∧ I (i + 1) ρ2 S2)
    (stop : ∀ ρ S, I n ρ S → src.item n S = some none) : ∀ (k i : Nat) (ρ : Env) (S : Store), i ≤ n → n + 1 ≤ k + i → I i ρ S → ∃ ρ' S', forN src g b k i ρ S = .nx ρ' S' ∧ I n ρ' S'
  | 0, i, ρ, S, h1, h2, _ => by omega
  | k + 1, i, ρ, S, h1, h2, hI => by
    unfold forN
    by_cases hi : i < n
    · obtain ⟨d, ρ1, ρ2, S2, e1, e2, e3, hI2⟩ := step i ρ S hi hI
      obtain ⟨ρ', S', e4, h4⟩ := forN_inv I n step stop k (i + 1) ρ2 S2 (by omega) (by omega) hI2
      refine ⟨ρ', S', ?_, h4⟩
      simp only [e1, e2, e3]
      exact e4
    · have : i = n := by omega
      subst this
      rw [stop ρ S hI]
      exact ⟨ρ, S, rfl, hI⟩
end

end M1

end

local macro_rules | `(tactic| simp_arith [$a,*]) => `(tactic| simp (disch := first | assumption | omega | (simp; done) | fail) only [PySem.sizeLine_eq, Nat.reduceLT, Int.reduceLT, Int.reduceLE, Int.reduceAdd, Int.reduceSub, Int.reduceMul, Int.reduceEq, Int.reduceToNat, Nat.reduceEqDiff, Int.reduceDiv, Int.reduceMod, Int.reduceNeg, List.length_cons, List.length_nil, Nat.reduceAdd, Nat.reduceSub, Nat.reduceLeDiff, List.map_cons, List.map_nil, List.cons_append, List.nil_append, List.append_nil, List.replicate_zero, List.replicate_succ, if_true, if_false, Bool.false_eq_true, Bool.not_true, Bool.not_false, List.getElem?_cons_zero, List.getElem?_cons_succ, List.set_cons_zero, List.set_cons_succ, M1.eVar_ev, M1.wipeE_nil, M1.wipeE_cons, M1.gN_ev, M1.iAny_ev, M1.seqSrc_bound, M1.seqSrc_item, List.append_assoc, List.length_append, Nat.add_assoc, List.length_map, decide_true, decide_false, Option.bind_some, M1.opEq_int, M1.opNe_int, M1.opFdiv_int, M1.opMod_int, ite_self, reduceIte, reduceCtorEq, eq_self, Bool.true_and, Bool.false_and, Bool.and_true, Bool.and_false, M1.eC_ev, M1.bind_ok, M1.bind_ex, M1.bind_er, M1.out_ok, M1.out_ex, M1.of_some, M1.seq_nx, M1.seq_rt, M1.seq_ex, M1.eOp_ev, M1.aNil_ev, M1.aCons_ev, M1.eCall_ev, M1.eF_ev, M1.sSeq_ev, M1.sRet_ev, M1.sNil_ev, M1.sExpr_ev, M1.sAsg_ev, M1.sIf_ev, M1.eIf_ev, M1.tBl_ev, M1.toB_ev, M1.tNotM_ev, M1.tOrM_ev, M1.tAndM_ev, M1.eAnd_ev, M1.eOr_ev, M1.eNot_ev, M1.eCh_ev, M1.sPar2_ev, M1.eTup_ev, M1.eLst_ev, M1.tTru_ev, M1.truD_bl, M1.pNo_ev, M1.pAt_ev, M1.eSl_ev, M1.eFld_ev, M1.eMb_ev, M1.eM_ev, M1.eMk_ev, M1.eF0_ev, M1.noX_ok, M1.eNeg_ev, M1.eHex_ev, M1.sRaise0_ev, M1.sRaise1_ev, M1.sFor_ev, M1.sAsgX_ev, M1.tgt_nx, M1.xSub_ev, M1.sFld_ev, M1.sFldAugM_ev, M1.gT_ev, M1.gsNil_ev, M1.gsCons_ev, M1.sTry_ev, M1.get_app0, M1.lstOf_pk, M1.lstOf_pk0, M1.lstOf_c0, M1.lstOf_cs, M1.lstW_pk, M1.lstW_pk0, M1.lstW_c0, M1.lstW_cs, M1.set_pk, M1.set_pk0, M1.opAdd_int, M1.opSub_int, M1.opPow_1018, M1.opLe_int, M1.opLt_int, M1.opGe_int, M1.opGt_int, M1.opIAdd_int, M1.opISub_int, M1.cInt_int, M1.cInt_bl, M1.cLen_tup, M1.cTup_tup, M1.cLst_tup, M1.opAdd_tup, M1.opSl_tup, M1.isStr_str, M1.isLst_pk, M1.isLst_pk0, M1.isLst_c0, M1.rngD_item, M1.rngD_bound, M1.iRng1_ev', $a,*])

section
set_option maxRecDepth 100000
set_option maxHeartbeats 2000000
/-! P2: evaluation of the later mirrors: dicts, texts, f-strings, zip -/
namespace M1
open PySem L2
section
variable {ρ : Env} {S S1 T : Store} {α β γ : Type}
theorem orO_l {g h : D → D → Store → O D} {x y : D} {r} (e : g x y S = some r) : orO g h x y S = some r := by unfold orO; rw [e]
theorem orO_r {g h : D → D → Store → O D} {x y : D} {r} (e : g x y S = none) (e2 : h x y S = r) : orO g h x y S = r := by unfold orO; rw [e]; exact e2
theorem opMulE_l {i j : Int} (h1 : -18446744073709551616 < i) (h2 : i < 18446744073709551616) : opMulE (.int i) (.int j) S = some (.int (i * j), S) := orO_l (opMulA_l h1 h2)
theorem opMulE_r {i j : Int} (h1 : -18446744073709551616 < j) (h2 : j < 18446744073709551616) : opMulE (.int i) (.int j) S = some (.int (i * j), S) := orO_l (opMulA_r h1 h2)
theorem opMulE_int {i j : Int} (h : small64 i = true ∨ small64 j = true) : opMulE (.int i) (.int j) S = some (.int (i * j), S) := orO_l (opMulA_int _ _ h)
theorem opMulE_rep {l : Nat} {a : List D} {k : Int} (h : lstW S l = some a) (h1 : 0 ≤ k) (h2 : a.length * k.toNat ≤ 16777216) (h3 : k < 9223372036854775808) : opMulE (.loc l) (.int k) S = some (.loc S.length, S ++ [.lst (List.replicate k.toNat a).flatten]) := orO_l (opMulA_rep h h1 h2 h3)
theorem opMulE_str {a : Str} {k : Int} (h : mulOkB a k = true) : opMulE (.str a) (.int k) S = some (.str (Txt.mul a k), S) := orO_r rfl (by show (if mulOkB a k = true then some (D.str (Txt.mul a k), S) else none) = _; rw [if_pos h])
theorem opIxE_tup {ds : List D} {i : Int} {d : D} (h : 0 ≤ i) (e : ds[i.toNat]? = some d) : opIxE (.tup ds) (.int i) S = some (d, S) := orO_l (opIxA_tup h e)
theorem opIxE_lst {n : Nat} {ds : List D} {i : Int} {d : D} (hS : lstOf S n = some ds) (h : 0 ≤ i) (e : ds[i.toNat]? = some d) : opIxE (.loc n) (.int i) S = some (d, S) := orO_l (opIxA_lst hS h e)
theorem opIxE_str {z : Str} {i : Int} {c : Nat} (hz : z.length ≤ 16777216) (h : 0 ≤ i) (e : z.cps.toList[i.toNat]? = some c) : opIxE (.str z) (.int i) S = some (.str ⟨#[c]⟩, S) := orO_l (opIxA_str hz h e)
theorem opIxE_last {n : Nat} {ds : List D} {d : D} (hS : lstOf S n = some (ds ++ [d])) : opIxE (.loc n) (.int (-1)) S = some (d, S) := by
  refine orO_l ?_
  unfold opIxA orO opIx L2.atI L2.ixN
  have h1 : ¬ (0 : Int) ≤ -1 := by decide
  have h2 : -(((ds ++ [d]).length : Nat) : Int) ≤ -1 := by simp; omega
  have h3 : (-1 + (((ds ++ [d]).length : Nat) : Int)).toNat = ds.length := by simp; omega
  simp only [hS, Option.bind_some, h1, if_false, h2, if_true, h3]
  simp
theorem dicOf_of {n : Nat} {kvs} (h : S[n]? = some (.dic kvs)) : dicOf S (.loc n) = some kvs := by simp [dicOf, h]
theorem lstOf_dic {n : Nat} {kvs} (h : S[n]? = some (.dic kvs)) : lstOf S n = none := by simp [lstOf, h]
theorem opIxE_dic {n : Nat} {kvs} {k : D} {kk : DK} {v : D} (h : S[n]? = some (.dic kvs)) (hk : keyD k = some kk) (e : valD kvs kk = some v) : opIxE (.loc n) k S = some (v, S) := by
  refine orO_r ?_ (by unfold opIxD; rw [dicOf_of h, hk]; simp [e])
  refine orO_r ?_ ?_
  · unfold opIx
    cases k <;> simp [keyD] at hk
    · simp [lstOf_dic h]
    · rfl
  · unfold opIxB
    cases k <;> simp [keyD] at hk <;> rfl
theorem opInE_dic {n : Nat} {kvs} {k : D} {kk : DK} (h : S[n]? = some (.dic kvs)) (hk : keyD k = some kk) : opInE k (.loc n) S = some (.bl (valD kvs kk).isSome, S) := by
  refine orO_r ?_ (by unfold opInDG; rw [dicOf_of h, hk]; rfl)
  refine orO_r ?_ ?_
  · unfold opIn opInG; simp [lstOf_dic h]
  · unfold opInC; cases k <;> rfl
theorem opNinE_dic {n : Nat} {kvs} {k : D} {kk : DK} (h : S[n]? = some (.dic kvs)) (hk : keyD k = some kk) : opNinE k (.loc n) S = some (.bl (!(valD kvs kk).isSome), S) := by
  refine orO_r ?_ (by unfold opInDG; rw [dicOf_of h, hk]; rfl)
  refine orO_r ?_ ?_
  · unfold opNin opInG; simp [lstOf_dic h]
  · unfold opNinC; cases k <;> rfl
@[simp] theorem opInE_sign (c : Nat) (z : Str) : opInE (.str ⟨#[c]⟩) (.str z) S = some (.bl (decide (c ∈ z.cps.toList)), S) := orO_l (orO_r rfl (by simp [opInC]))
@[simp] theorem opNinE_sign (c : Nat) (z : Str) : opNinE (.str ⟨#[c]⟩) (.str z) S = some (.bl (!decide (c ∈ z.cps.toList)), S) := orO_l (orO_r rfl (by simp [opNinC]))
theorem inD_strs (z : Str) (ys : List Str) : inD (.str z) (ys.map .str) = some (decide (z ∈ ys)) := by
  unfold inD
  rw [if_pos ⟨rfl, by simp [flatD]⟩]
  congr 1
  unfold inV
  induction ys with
  | nil => rfl
  | cons y ys ih =>
    simp only [List.map_cons, List.any_cons, vOf, eqV] at ih ⊢
    rw [ih]
    by_cases e : y = z
    · subst e; simp
    · have e2 : ¬ z = y := fun h => e h.symm
      simp [e, e2]
theorem opNinE_tup (z : Str) (ys : List Str) : opNinE (.str z) (.tup (ys.map .str)) S = some (.bl (!decide (z ∈ ys)), S) := orO_l (orO_l (by show ((inD (.str z) (ys.map .str)).map fun b => (D.bl (!b), S)) = _; rw [inD_strs]; rfl))
theorem opNinE_lst {n : Nat} {z : Str} {ys : List Str} (h : lstOf S n = some (ys.map .str)) : opNinE (.str z) (.loc n) S = some (.bl (!decide (z ∈ ys)), S) := orO_l (orO_l (by unfold opNin opInG; simp only [h, Option.bind_some]; rw [inD_strs]; rfl))
@[simp] theorem opIsN_ev (x : D) : opIsN x .non S = some (.bl (isN x), S) := rfl
@[simp] theorem opNotN_ev (x : D) : opNotN x .non S = some (.bl (!isN x), S) := rfl
@[simp] theorem isN_non : isN .non = true := rfl
@[simp] theorem isN_int (i) : isN (.int i) = false := rfl
@[simp] theorem isN_str (i) : isN (.str i) = false := rfl
@[simp] theorem isN_loc (i) : isN (.loc i) = false := rfl
@[simp] theorem isN_tup (i) : isN (.tup i) = false := rfl
@[simp] theorem cIntE_int (i : Int) : cIntE [.int i] S = some (.int i, S) := rfl
@[simp] theorem cIntE_bl (b : Bool) : cIntE [.bl b] S = some (.int (if b then 1 else 0), S) := rfl
theorem cIntE_str {a : Str} {n : Int} (h : PySem.intText? a = some n) (hl : a.length ≤ 640) : cIntE [.str a] S = some (.int n, S) := by
  show (match PySem.intText? a with | some n => if a.length ≤ 640 then some (D.int n, S) else none | none => none) = _
  rw [h]; simp only; rw [if_pos hl]
theorem cStr_int {i : Int} (h : i.natAbs.log2 < 1920) : cStr [.int i] S = some (.str (toString i : String), S) := by
  show (if i.natAbs.log2 < 1920 then some (D.str (toString i : String), S) else none) = _
  rw [if_pos h]
@[simp] theorem eDic0_ev : eDic0 ρ S = .ok (.loc S.length) (S ++ [.dic []]) := rfl
@[simp] theorem sPar3_ev (i j l f) : sPar3 i j l f ρ S = (f ρ S).out ρ fun ds S => match ds with | [a, b, c] => .nx (((ρ.set i (some a)).set j (some b)).set l (some c)) S | _ => .er := rfl
@[simp] theorem eFmt_ev (f) : eFmt f ρ S = (f ρ S).bind fun d S => match d with
  | .str y => if y.length ≤ sizeLine then .ok (.str y) S else .er
  | .int i => if i.natAbs.log2 < 1920 then .ok (.str (toString i : String)) S else .er
  | _ => .er := rfl
@[simp] theorem sAug_ev (i fe g) : sAug i fe g ρ S = match ρ[i]? with
  | some (some d) => (fe ρ S).out ρ fun y S1 => match g d y S1 with
    | some (z, S2) => .nx (ρ.set i (some z)) S2
    | none => .er
  | _ => .er := rfl
theorem xStar_ev {i j l : Nat} {ds : List D} {z : D} (h : lstOf S l = some (ds ++ [z])) : xStar i j (.loc l) ρ S = .nx ((ρ.set i (some (.loc S.length))).set j (some z)) (S ++ [.lst ds]) := by
  unfold xStar
  simp [h]
@[simp] theorem iZipM_ev (f) : iZipM f ρ S = (f ρ S).bind fun ds S => match ds with
  | [.tup xs, .tup ys] => .ok (zipT xs ys) S
  | [.loc n, .loc k] => match lstOf S n, lstOf S k with
    | some xs, some ys => .ok (zipL n k (min xs.length ys.length)) S
    | _, _ => .er
  | _ => .er := rfl
@[simp] theorem iEnumM_ev (f) : iEnumM f ρ S = (f ρ S).bind fun ds S => match ds with
  | [.tup ds] => .ok (enumT ds) S
  | [.loc n] => match lstOf S n with
    | some ds => .ok (enumL n ds.length) S
    | none => .er
  | _ => .er := rfl
theorem gSplit_ev {a b : Str} (h : b.length ≠ 0) (hz : a.length + 2 ≤ 16777216) : gSplit (.str a) [.str b] S = some (.loc S.length, S ++ [.lst ((Txt.split a b).map .str)]) := by
  show (if b.length ≠ 0 ∧ a.length + 2 ≤ sizeLine then some (D.loc S.length, S ++ [SO.lst ((Txt.split a b).map .str)]) else none) = _
  rw [sizeLine_eq, if_pos ⟨h, hz⟩]
theorem stE_dic {n : Nat} {kvs} {k : D} {kk : DK} {v : D} (h : S[n]? = some (.dic kvs)) (hk : keyD k = some kk) (hl : kvs.length < 1000000) : stE (.loc n) k v S = some (S.set n (.dic (putKD kvs kk v))) := by
  unfold stE orS
  have e1 : stL (.loc n) k v S = none := by
    unfold stL
    cases k <;> simp [keyD] at hk
    · simp [lstW, h]
    · rfl
  rw [e1]
  unfold stD
  rw [dicOf_of h, hk]
  simp [hl]
/-- == of texts -/
theorem opEq_str {x y : Str} (hx : PyData.strOk x = true) (hy : PyData.strOk y = true) : opEq (.str x) (.str y) S = some (.bl (decide (x = y)), S) := by
  unfold opEq; rw [pyEq_gD (x := .str x) (y := .str y) (by simpa [gD] using hx) (by simpa [gD] using hy) (by simp [dpD]) (by simp [dpD])]
  simp only [pd, PyData.eqv, Option.map_some]
  by_cases h : x = y <;> simp [h]
theorem opNe_str {x y : Str} (hx : PyData.strOk x = true) (hy : PyData.strOk y = true) : opNe (.str x) (.str y) S = some (.bl (!decide (x = y)), S) := by
  unfold opNe; rw [pyEq_gD (x := .str x) (y := .str y) (by simpa [gD] using hx) (by simpa [gD] using hy) (by simp [dpD]) (by simp [dpD])]
  simp only [pd, PyData.eqv, Option.map_some]
  by_cases h : x = y <;> simp [h]
theorem cLen_str {z : Str} (h : z.length ≤ 16777216) : cLen [.str z] S = some (.int z.length, S) := by
  show (if z.length ≤ sizeLine then some (D.int z.length, S) else none) = _
  rw [sizeLine_eq, if_pos h]
theorem opSl_str {z : Str} (h : z.length ≤ 16777216) (lo hi) : opSl (.str z) lo hi S = some (.str (Txt.slice z lo hi), S) := by
  show (if z.length ≤ sizeLine then some (D.str (Txt.slice z lo hi), S) else none) = _
  rw [sizeLine_eq, if_pos h]
theorem opAdd_str {a b : Str} (h : a.length + b.length ≤ 16777216) : opAdd (.str a) (.str b) S = some (.str (a ++ b), S) := by
  show (if a.length + b.length ≤ sizeLine then some (D.str (a ++ b), S) else none) = _
  rw [sizeLine_eq, if_pos h]
end
end M1

end

local macro_rules | `(tactic| simp_arith [$a,*]) => `(tactic| simp (disch := first | assumption | omega | (simp; done) | fail) only [PySem.sizeLine_eq, Nat.reduceLT, Int.reduceLT, Int.reduceLE, Int.reduceAdd, Int.reduceSub, Int.reduceMul, Int.reduceEq, Int.reduceToNat, Nat.reduceEqDiff, Int.reduceDiv, Int.reduceMod, Int.reduceNeg, List.length_cons, List.length_nil, Nat.reduceAdd, Nat.reduceSub, Nat.reduceLeDiff, List.map_cons, List.map_nil, List.cons_append, List.nil_append, List.append_nil, List.replicate_zero, List.replicate_succ, if_true, if_false, Bool.false_eq_true, Bool.not_true, Bool.not_false, List.getElem?_cons_zero, List.getElem?_cons_succ, List.set_cons_zero, List.set_cons_succ, M1.eVar_ev, M1.wipeE_nil, M1.wipeE_cons, M1.gN_ev, M1.iAny_ev, M1.seqSrc_bound, M1.seqSrc_item, List.append_assoc, List.length_append, Nat.add_assoc, List.length_map, decide_true, decide_false, Option.bind_some, M1.opEq_int, M1.opNe_int, M1.opFdiv_int, M1.opMod_int, ite_self, reduceIte, reduceCtorEq, eq_self, Bool.true_and, Bool.false_and, Bool.and_true, Bool.and_false, M1.eC_ev, M1.bind_ok, M1.bind_ex, M1.bind_er, M1.out_ok, M1.out_ex, M1.of_some, M1.seq_nx, M1.seq_rt, M1.seq_ex, M1.eOp_ev, M1.aNil_ev, M1.aCons_ev, M1.eCall_ev, M1.eF_ev, M1.sSeq_ev, M1.sRet_ev, M1.sNil_ev, M1.sExpr_ev, M1.sAsg_ev, M1.sIf_ev, M1.eIf_ev, M1.tBl_ev, M1.toB_ev, M1.tNotM_ev, M1.tOrM_ev, M1.tAndM_ev, M1.eAnd_ev, M1.eOr_ev, M1.eNot_ev, M1.eCh_ev, M1.sPar2_ev, M1.eTup_ev, M1.eLst_ev, M1.tTru_ev, M1.truD_bl, M1.pNo_ev, M1.pAt_ev, M1.eSl_ev, M1.eFld_ev, M1.eMb_ev, M1.eM_ev, M1.eMk_ev, M1.eF0_ev, M1.noX_ok, M1.eNeg_ev, M1.eHex_ev, M1.sRaise0_ev, M1.sRaise1_ev, M1.sFor_ev, M1.sAsgX_ev, M1.tgt_nx, M1.xSub_ev, M1.sFld_ev, M1.sFldAugM_ev, M1.gT_ev, M1.gsNil_ev, M1.gsCons_ev, M1.sTry_ev, M1.get_app0, M1.lstOf_pk, M1.lstOf_pk0, M1.lstOf_c0, M1.lstOf_cs, M1.lstW_pk, M1.lstW_pk0, M1.lstW_c0, M1.lstW_cs, M1.set_pk, M1.set_pk0, M1.opAdd_int, M1.opSub_int, M1.opPow_1018, M1.opLe_int, M1.opLt_int, M1.opGe_int, M1.opGt_int, M1.opIAdd_int, M1.opISub_int, M1.cInt_int, M1.cInt_bl, M1.cLen_tup, M1.cTup_tup, M1.cLst_tup, M1.opAdd_tup, M1.opSl_tup, M1.isStr_str, M1.isLst_pk, M1.isLst_pk0, M1.isLst_c0, M1.rngD_item, M1.rngD_bound, M1.iRng1_ev', and_self, and_true, true_and, and_false, false_and, or_self, or_true, true_or, or_false, false_or, Bool.true_or, Bool.false_or, Bool.or_true, Bool.or_false, M1.sAsg_ev2, Nat.add_zero, M1.gA_tup, Option.isSome_some, Option.isSome_none, not_true_eq_false, not_false_eq_true, Option.bind_none, Option.map_some, Option.map_none, M1.bind_ok, M1.opInE_sign, M1.opNinE_sign, M1.opIsN_ev, M1.opNotN_ev, M1.isN_non, M1.isN_int, M1.isN_str, M1.isN_loc, M1.isN_tup, M1.cIntE_int, M1.cIntE_bl, M1.eDic0_ev, M1.sPar3_ev, M1.eFmt_ev, M1.sAug_ev, M1.iZipM_ev, M1.iEnumM_ev, $a,*])

section
set_option maxRecDepth 100000
set_option maxHeartbeats 4000000
namespace K03
open PySem PySem.Spec PyProof.Rows L2 M1
def top (i : Nat) : Stmt := PySem.Challenge.pw_virtmonitor_k03_whole_assembly.main.body.getD i (.Pass ⟨0, 0, 0, 0⟩)
abbrev st_ParseError___init__ : Stmt := inCls (top 3) 0
def d_ParseError___init__ : He.DefD := ⟨("ParseError", some "__init__"), "__init__", "ParseError.__init__", defArgs st_ParseError___init__, defBody st_ParseError___init__, defScope st_ParseError___init__, [], []⟩
abbrev st_is_integer : Stmt := top 8
def d_is_integer : He.DefD := ⟨("is_integer", none), "is_integer", "is_integer", defArgs st_is_integer, defBody st_is_integer, defScope st_is_integer, [], []⟩
abbrev st_is_word : Stmt := top 9
def d_is_word : He.DefD := ⟨("is_word", none), "is_word", "is_word", defArgs st_is_word, defBody st_is_word, defScope st_is_word, [], []⟩
abbrev st_is_words : Stmt := top 10
def d_is_words : He.DefD := ⟨("is_words", none), "is_words", "is_words", defArgs st_is_words, defBody st_is_words, defScope st_is_words, [], []⟩
abbrev st_check_memory : Stmt := top 11
def d_check_memory : He.DefD := ⟨("check_memory", none), "check_memory", "check_memory", defArgs st_check_memory, defBody st_check_memory, defScope st_check_memory, [], []⟩
abbrev st_is_name : Stmt := top 19
def d_is_name : He.DefD := ⟨("is_name", none), "is_name", "is_name", defArgs st_is_name, defBody st_is_name, defScope st_is_name, [], []⟩
abbrev st_parse_word : Stmt := top 20
def d_parse_word : He.DefD := ⟨("parse_word", none), "parse_word", "parse_word", defArgs st_parse_word, defBody st_parse_word, defScope st_parse_word, [], []⟩
abbrev st_parse_line : Stmt := top 21
def d_parse_line : He.DefD := ⟨("parse_line", none), "parse_line", "parse_line", defArgs st_parse_line, defBody st_parse_line, defScope st_parse_line, [], []⟩
abbrev st_assemble : Stmt := top 22
def d_assemble : He.DefD := ⟨("assemble", none), "assemble", "assemble", defArgs st_assemble, defBody st_assemble, defScope st_assemble, [], []⟩
abbrev st_disassemble : Stmt := top 23
def d_disassemble : He.DefD := ⟨("disassemble", none), "disassemble", "disassemble", defArgs st_disassemble, defBody st_disassemble, defScope st_disassemble, [], []⟩
abbrev st_law_mix : Stmt := top 25
def d_law_mix : He.DefD := ⟨("_law_mix", none), "_law_mix", "_law_mix", defArgs st_law_mix, defBody st_law_mix, defScope st_law_mix, [], []⟩
abbrev st_law_value : Stmt := top 26
def d_law_value : He.DefD := ⟨("_law_value", none), "_law_value", "_law_value", defArgs st_law_value, defBody st_law_value, defScope st_law_value, [], []⟩
abbrev st_law_mnemonics : Stmt := top 27
def d_law_mnemonics : He.DefD := ⟨("_law_mnemonics", none), "_law_mnemonics", "_law_mnemonics", defArgs st_law_mnemonics, defBody st_law_mnemonics, defScope st_law_mnemonics, [], []⟩
abbrev st_law_all_mnemonics : Stmt := top 28
def d_law_all_mnemonics : He.DefD := ⟨("_law_all_mnemonics", none), "_law_all_mnemonics", "_law_all_mnemonics", defArgs st_law_all_mnemonics, defBody st_law_all_mnemonics, defScope st_law_all_mnemonics, [], []⟩
abbrev st_law_disassemble : Stmt := top 29
def d_law_disassemble : He.DefD := ⟨("_law_disassemble", none), "_law_disassemble", "_law_disassemble", defArgs st_law_disassemble, defBody st_law_disassemble, defScope st_law_disassemble, [], []⟩
abbrev st_law_parse_word : Stmt := top 30
def d_law_parse_word : He.DefD := ⟨("_law_parse_word", none), "_law_parse_word", "_law_parse_word", defArgs st_law_parse_word, defBody st_law_parse_word, defScope st_law_parse_word, [], []⟩
abbrev st_law_is_name : Stmt := top 31
def d_law_is_name : He.DefD := ⟨("_law_is_name", none), "_law_is_name", "_law_is_name", defArgs st_law_is_name, defBody st_law_is_name, defScope st_law_is_name, [], []⟩
abbrev st_law_parse_line : Stmt := top 32
def d_law_parse_line : He.DefD := ⟨("_law_parse_line", none), "_law_parse_line", "_law_parse_line", defArgs st_law_parse_line, defBody st_law_parse_line, defScope st_law_parse_line, [], []⟩
abbrev st_law_assemble : Stmt := top 33
def d_law_assemble : He.DefD := ⟨("_law_assemble", none), "_law_assemble", "_law_assemble", defArgs st_law_assemble, defBody st_law_assemble, defScope st_law_assemble, [], []⟩
abbrev st_law_result : Stmt := top 34
def d_law_result : He.DefD := ⟨("_law_result", none), "_law_result", "_law_result", defArgs st_law_result, defBody st_law_result, defScope st_law_result, [], []⟩
abbrev st_law_changed : Stmt := top 35
def d_law_changed : He.DefD := ⟨("_law_changed", none), "_law_changed", "_law_changed", defArgs st_law_changed, defBody st_law_changed, defScope st_law_changed, [], []⟩
abbrev st_law_limits_right : Stmt := top 36
def d_law_limits_right : He.DefD := ⟨("_law_limits_right", none), "_law_limits_right", "_law_limits_right", defArgs st_law_limits_right, defBody st_law_limits_right, defScope st_law_limits_right, [], []⟩
abbrev st_law : Stmt := top 37
def d_law : He.DefD := ⟨("law", none), "law", "law", defArgs st_law, defBody st_law, defScope st_law, [], []⟩
def fn : List He.DefD := [d_ParseError___init__, d_is_integer, d_is_word, d_is_words, d_check_memory, d_is_name, d_parse_word, d_parse_line, d_assemble, d_disassemble, d_law_mix, d_law_value, d_law_mnemonics, d_law_all_mnemonics, d_law_disassemble, d_law_parse_word, d_law_is_name, d_law_parse_line, d_law_assemble, d_law_result, d_law_changed, d_law_limits_right, d_law]
def ts_MNEMONICS : List Str := ["set", "load", "store", "loadi", "storei", "add", "sub", "less", "jump", "jumpz", "trap", "out", "in", "halt", "resume", "custom0", "custom1", "custom2", "custom3", "custom4", "custom5", "custom6", "custom7"]
def fa : List He.Fa := [.glo "is_integer", .glo "is_word", .glo "is_words", .glo "check_memory", .glo "is_name", .glo "parse_word", .glo "parse_line", .glo "assemble", .glo "disassemble", .glo "_law_mix", .glo "_law_value", .glo "_law_mnemonics", .glo "_law_all_mnemonics", .glo "_law_disassemble", .glo "_law_parse_word", .glo "_law_is_name", .glo "_law_parse_line", .glo "_law_assemble", .glo "_law_result", .glo "_law_changed", .glo "_law_limits_right", .glo "law", .glo "VirtError", .glo "InvalidMemory", .glo "ParseError", .int "WORD_LIMIT" 10000, .int "MAX_MEMORY" 4000, .str "LETTERS" "abcdefghijklmnopqrstuvwxyz", .str "DIGITS" "0123456789", .int "MAX_NAME" 8, .int "MAX_DIGITS" 4, .free "ValueError", .free "all", .free "any", .free "bool", .free "enumerate", .free "int", .free "isinstance", .free "len", .free "list", .free "range", .free "str", .free "tuple", .free "zip", .exc "InvalidMemory", .exm "VirtError" "InvalidMemory" false, .exm "InvalidMemory" "InvalidMemory" true, .exm "ParseError" "InvalidMemory" false, .exm "VirtError" "ParseError" false, .exm "InvalidMemory" "ParseError" false, .exm "ParseError" "ParseError" true, .noat "ParseError" "line", .glo "MNEMONICS"]
def exl (K : PySem.W.Frag) : List Bool := [xfB K (He.ga K "ParseError"), oexB K (He.ga K "ParseError"), initB K (He.ga K "ParseError") "line", ownB K (He.ga K "VirtError"), ktsB K (He.ga K "MNEMONICS") ts_MNEMONICS]
def ex (K : PySem.W.Frag) : Bool := (exl K).all id
theorem exs (K : PySem.W.Frag) (e : ex K = true) (i : Nat) {b : Bool} (h : (exl K)[i]? = some b) : b = true := by
  have := List.all_eq_true.mp e b (List.mem_of_getElem? h)
  exact this
structure Hy (K : PySem.W.Frag) (mg : Str → Option Value) : Prop where
  f_ParseError___init__ : ∃ fd, FunD K "__init__" "ParseError.__init__" (defArgs st_ParseError___init__) (defBody st_ParseError___init__) (defScope st_ParseError___init__) [] [] (He.fAd K ("ParseError", some "__init__")) fd
  f_is_integer : ∃ fd, FunD K "is_integer" "is_integer" (defArgs st_is_integer) (defBody st_is_integer) (defScope st_is_integer) [] [] (He.fAd K ("is_integer", none)) fd
  f_is_word : ∃ fd, FunD K "is_word" "is_word" (defArgs st_is_word) (defBody st_is_word) (defScope st_is_word) [] [] (He.fAd K ("is_word", none)) fd
  f_is_words : ∃ fd, FunD K "is_words" "is_words" (defArgs st_is_words) (defBody st_is_words) (defScope st_is_words) [] [] (He.fAd K ("is_words", none)) fd
  f_check_memory : ∃ fd, FunD K "check_memory" "check_memory" (defArgs st_check_memory) (defBody st_check_memory) (defScope st_check_memory) [] [] (He.fAd K ("check_memory", none)) fd
  f_is_name : ∃ fd, FunD K "is_name" "is_name" (defArgs st_is_name) (defBody st_is_name) (defScope st_is_name) [] [] (He.fAd K ("is_name", none)) fd
  f_parse_word : ∃ fd, FunD K "parse_word" "parse_word" (defArgs st_parse_word) (defBody st_parse_word) (defScope st_parse_word) [] [] (He.fAd K ("parse_word", none)) fd
  f_parse_line : ∃ fd, FunD K "parse_line" "parse_line" (defArgs st_parse_line) (defBody st_parse_line) (defScope st_parse_line) [] [] (He.fAd K ("parse_line", none)) fd
  f_assemble : ∃ fd, FunD K "assemble" "assemble" (defArgs st_assemble) (defBody st_assemble) (defScope st_assemble) [] [] (He.fAd K ("assemble", none)) fd
  f_disassemble : ∃ fd, FunD K "disassemble" "disassemble" (defArgs st_disassemble) (defBody st_disassemble) (defScope st_disassemble) [] [] (He.fAd K ("disassemble", none)) fd
  f_law_mix : ∃ fd, FunD K "_law_mix" "_law_mix" (defArgs st_law_mix) (defBody st_law_mix) (defScope st_law_mix) [] [] (He.fAd K ("_law_mix", none)) fd
  f_law_value : ∃ fd, FunD K "_law_value" "_law_value" (defArgs st_law_value) (defBody st_law_value) (defScope st_law_value) [] [] (He.fAd K ("_law_value", none)) fd
  f_law_mnemonics : ∃ fd, FunD K "_law_mnemonics" "_law_mnemonics" (defArgs st_law_mnemonics) (defBody st_law_mnemonics) (defScope st_law_mnemonics) [] [] (He.fAd K ("_law_mnemonics", none)) fd
  f_law_all_mnemonics : ∃ fd, FunD K "_law_all_mnemonics" "_law_all_mnemonics" (defArgs st_law_all_mnemonics) (defBody st_law_all_mnemonics) (defScope st_law_all_mnemonics) [] [] (He.fAd K ("_law_all_mnemonics", none)) fd
  f_law_disassemble : ∃ fd, FunD K "_law_disassemble" "_law_disassemble" (defArgs st_law_disassemble) (defBody st_law_disassemble) (defScope st_law_disassemble) [] [] (He.fAd K ("_law_disassemble", none)) fd
  f_law_parse_word : ∃ fd, FunD K "_law_parse_word" "_law_parse_word" (defArgs st_law_parse_word) (defBody st_law_parse_word) (defScope st_law_parse_word) [] [] (He.fAd K ("_law_parse_word", none)) fd
  f_law_is_name : ∃ fd, FunD K "_law_is_name" "_law_is_name" (defArgs st_law_is_name) (defBody st_law_is_name) (defScope st_law_is_name) [] [] (He.fAd K ("_law_is_name", none)) fd
  f_law_parse_line : ∃ fd, FunD K "_law_parse_line" "_law_parse_line" (defArgs st_law_parse_line) (defBody st_law_parse_line) (defScope st_law_parse_line) [] [] (He.fAd K ("_law_parse_line", none)) fd
  f_law_assemble : ∃ fd, FunD K "_law_assemble" "_law_assemble" (defArgs st_law_assemble) (defBody st_law_assemble) (defScope st_law_assemble) [] [] (He.fAd K ("_law_assemble", none)) fd
  f_law_result : ∃ fd, FunD K "_law_result" "_law_result" (defArgs st_law_result) (defBody st_law_result) (defScope st_law_result) [] [] (He.fAd K ("_law_result", none)) fd
  f_law_changed : ∃ fd, FunD K "_law_changed" "_law_changed" (defArgs st_law_changed) (defBody st_law_changed) (defScope st_law_changed) [] [] (He.fAd K ("_law_changed", none)) fd
  f_law_limits_right : ∃ fd, FunD K "_law_limits_right" "_law_limits_right" (defArgs st_law_limits_right) (defBody st_law_limits_right) (defScope st_law_limits_right) [] [] (He.fAd K ("_law_limits_right", none)) fd
  f_law : ∃ fd, FunD K "law" "law" (defArgs st_law) (defBody st_law) (defScope st_law) [] [] (He.fAd K ("law", none)) fd
  g_is_integer : mg "is_integer" = some (.ref (He.ga K "is_integer"))
  g_is_word : mg "is_word" = some (.ref (He.ga K "is_word"))
  g_is_words : mg "is_words" = some (.ref (He.ga K "is_words"))
  g_check_memory : mg "check_memory" = some (.ref (He.ga K "check_memory"))
  g_is_name : mg "is_name" = some (.ref (He.ga K "is_name"))
  g_parse_word : mg "parse_word" = some (.ref (He.ga K "parse_word"))
  g_parse_line : mg "parse_line" = some (.ref (He.ga K "parse_line"))
  g_assemble : mg "assemble" = some (.ref (He.ga K "assemble"))
  g_disassemble : mg "disassemble" = some (.ref (He.ga K "disassemble"))
  g_law_mix : mg "_law_mix" = some (.ref (He.ga K "_law_mix"))
  g_law_value : mg "_law_value" = some (.ref (He.ga K "_law_value"))
  g_law_mnemonics : mg "_law_mnemonics" = some (.ref (He.ga K "_law_mnemonics"))
  g_law_all_mnemonics : mg "_law_all_mnemonics" = some (.ref (He.ga K "_law_all_mnemonics"))
  g_law_disassemble : mg "_law_disassemble" = some (.ref (He.ga K "_law_disassemble"))
  g_law_parse_word : mg "_law_parse_word" = some (.ref (He.ga K "_law_parse_word"))
  g_law_is_name : mg "_law_is_name" = some (.ref (He.ga K "_law_is_name"))
  g_law_parse_line : mg "_law_parse_line" = some (.ref (He.ga K "_law_parse_line"))
  g_law_assemble : mg "_law_assemble" = some (.ref (He.ga K "_law_assemble"))
  g_law_result : mg "_law_result" = some (.ref (He.ga K "_law_result"))
  g_law_changed : mg "_law_changed" = some (.ref (He.ga K "_law_changed"))
  g_law_limits_right : mg "_law_limits_right" = some (.ref (He.ga K "_law_limits_right"))
  g_law : mg "law" = some (.ref (He.ga K "law"))
  g_VirtError : mg "VirtError" = some (.ref (He.ga K "VirtError"))
  g_InvalidMemory : mg "InvalidMemory" = some (.ref (He.ga K "InvalidMemory"))
  g_ParseError : mg "ParseError" = some (.ref (He.ga K "ParseError"))
  g_WORD_LIMIT : ∃ t, mg "WORD_LIMIT" = some (.int 10000 t)
  g_MAX_MEMORY : ∃ t, mg "MAX_MEMORY" = some (.int 4000 t)
  g_LETTERS : ∃ t, mg "LETTERS" = some (.str "abcdefghijklmnopqrstuvwxyz" t)
  g_DIGITS : ∃ t, mg "DIGITS" = some (.str "0123456789" t)
  g_MAX_NAME : ∃ t, mg "MAX_NAME" = some (.int 8 t)
  g_MAX_DIGITS : ∃ t, mg "MAX_DIGITS" = some (.int 4 t)
  g_ValueError : mg "ValueError" = none
  g_all : mg "all" = none
  g_any : mg "any" = none
  g_bool : mg "bool" = none
  g_enumerate : mg "enumerate" = none
  g_int : mg "int" = none
  g_isinstance : mg "isinstance" = none
  g_len : mg "len" = none
  g_list : mg "list" = none
  g_range : mg "range" = none
  g_str : mg "str" = none
  g_tuple : mg "tuple" = none
  g_zip : mg "zip" = none
  x_InvalidMemory : RaiseS K mg "InvalidMemory" (He.ga K "InvalidMemory")
  e_VirtError_InvalidMemory : PySem.W.exmOne K (.ref (He.ga K "VirtError")) (.ref (He.ga K "InvalidMemory")) = some false
  e_InvalidMemory_InvalidMemory : PySem.W.exmOne K (.ref (He.ga K "InvalidMemory")) (.ref (He.ga K "InvalidMemory")) = some true
  e_ParseError_InvalidMemory : PySem.W.exmOne K (.ref (He.ga K "ParseError")) (.ref (He.ga K "InvalidMemory")) = some false
  e_VirtError_ParseError : PySem.W.exmOne K (.ref (He.ga K "VirtError")) (.ref (He.ga K "ParseError")) = some false
  e_InvalidMemory_ParseError : PySem.W.exmOne K (.ref (He.ga K "InvalidMemory")) (.ref (He.ga K "ParseError")) = some false
  e_ParseError_ParseError : PySem.W.exmOne K (.ref (He.ga K "ParseError")) (.ref (He.ga K "ParseError")) = some true
  xf_ParseError : XfC K (He.ga K "ParseError")
  xn_ParseError_line : PySem.W.findIn K (.ref (He.ga K "ParseError")) "line" = some none
  ox_ParseError : OexC K (He.ga K "ParseError")
  oi_ParseError : initB K (He.ga K "ParseError") "line" = true
  ob_ParseError : OwnInit K (He.ga K "VirtError")
  g_MNEMONICS : mg "MNEMONICS" = some (.ref (He.ga K "MNEMONICS"))
  t_MNEMONICS : KTs K (He.ga K "MNEMONICS") ts_MNEMONICS
theorem hy_of {K : PySem.W.Frag} {h : Heap} {mg : Str → Option Value} (X : K.In h) (G : h.Ns mainGlobals mg) (c : He.SaysD fa fn K) (e : ex K = true) : Hy K mg where
  f_ParseError___init__ := c.def_ 0 (d := d_ParseError___init__) rfl
  f_is_integer := c.def_ 1 (d := d_is_integer) rfl
  f_is_word := c.def_ 2 (d := d_is_word) rfl
  f_is_words := c.def_ 3 (d := d_is_words) rfl
  f_check_memory := c.def_ 4 (d := d_check_memory) rfl
  f_is_name := c.def_ 5 (d := d_is_name) rfl
  f_parse_word := c.def_ 6 (d := d_parse_word) rfl
  f_parse_line := c.def_ 7 (d := d_parse_line) rfl
  f_assemble := c.def_ 8 (d := d_assemble) rfl
  f_disassemble := c.def_ 9 (d := d_disassemble) rfl
  f_law_mix := c.def_ 10 (d := d_law_mix) rfl
  f_law_value := c.def_ 11 (d := d_law_value) rfl
  f_law_mnemonics := c.def_ 12 (d := d_law_mnemonics) rfl
  f_law_all_mnemonics := c.def_ 13 (d := d_law_all_mnemonics) rfl
  f_law_disassemble := c.def_ 14 (d := d_law_disassemble) rfl
  f_law_parse_word := c.def_ 15 (d := d_law_parse_word) rfl
  f_law_is_name := c.def_ 16 (d := d_law_is_name) rfl
  f_law_parse_line := c.def_ 17 (d := d_law_parse_line) rfl
  f_law_assemble := c.def_ 18 (d := d_law_assemble) rfl
  f_law_result := c.def_ 19 (d := d_law_result) rfl
  f_law_changed := c.def_ 20 (d := d_law_changed) rfl
  f_law_limits_right := c.def_ 21 (d := d_law_limits_right) rfl
  f_law := c.def_ 22 (d := d_law) rfl
  g_is_integer := He.glo_ok X G (c.fact 0 (f := .glo "is_integer") rfl)
  g_is_word := He.glo_ok X G (c.fact 1 (f := .glo "is_word") rfl)
  g_is_words := He.glo_ok X G (c.fact 2 (f := .glo "is_words") rfl)
  g_check_memory := He.glo_ok X G (c.fact 3 (f := .glo "check_memory") rfl)
  g_is_name := He.glo_ok X G (c.fact 4 (f := .glo "is_name") rfl)
  g_parse_word := He.glo_ok X G (c.fact 5 (f := .glo "parse_word") rfl)
  g_parse_line := He.glo_ok X G (c.fact 6 (f := .glo "parse_line") rfl)
  g_assemble := He.glo_ok X G (c.fact 7 (f := .glo "assemble") rfl)
  g_disassemble := He.glo_ok X G (c.fact 8 (f := .glo "disassemble") rfl)
  g_law_mix := He.glo_ok X G (c.fact 9 (f := .glo "_law_mix") rfl)
  g_law_value := He.glo_ok X G (c.fact 10 (f := .glo "_law_value") rfl)
  g_law_mnemonics := He.glo_ok X G (c.fact 11 (f := .glo "_law_mnemonics") rfl)
  g_law_all_mnemonics := He.glo_ok X G (c.fact 12 (f := .glo "_law_all_mnemonics") rfl)
  g_law_disassemble := He.glo_ok X G (c.fact 13 (f := .glo "_law_disassemble") rfl)
  g_law_parse_word := He.glo_ok X G (c.fact 14 (f := .glo "_law_parse_word") rfl)
  g_law_is_name := He.glo_ok X G (c.fact 15 (f := .glo "_law_is_name") rfl)
  g_law_parse_line := He.glo_ok X G (c.fact 16 (f := .glo "_law_parse_line") rfl)
  g_law_assemble := He.glo_ok X G (c.fact 17 (f := .glo "_law_assemble") rfl)
  g_law_result := He.glo_ok X G (c.fact 18 (f := .glo "_law_result") rfl)
  g_law_changed := He.glo_ok X G (c.fact 19 (f := .glo "_law_changed") rfl)
  g_law_limits_right := He.glo_ok X G (c.fact 20 (f := .glo "_law_limits_right") rfl)
  g_law := He.glo_ok X G (c.fact 21 (f := .glo "law") rfl)
  g_VirtError := He.glo_ok X G (c.fact 22 (f := .glo "VirtError") rfl)
  g_InvalidMemory := He.glo_ok X G (c.fact 23 (f := .glo "InvalidMemory") rfl)
  g_ParseError := He.glo_ok X G (c.fact 24 (f := .glo "ParseError") rfl)
  g_WORD_LIMIT := He.int_ok X G (c.fact 25 (f := .int "WORD_LIMIT" 10000) rfl)
  g_MAX_MEMORY := He.int_ok X G (c.fact 26 (f := .int "MAX_MEMORY" 4000) rfl)
  g_LETTERS := He.str_ok X G (c.fact 27 (f := .str "LETTERS" "abcdefghijklmnopqrstuvwxyz") rfl)
  g_DIGITS := He.str_ok X G (c.fact 28 (f := .str "DIGITS" "0123456789") rfl)
  g_MAX_NAME := He.int_ok X G (c.fact 29 (f := .int "MAX_NAME" 8) rfl)
  g_MAX_DIGITS := He.int_ok X G (c.fact 30 (f := .int "MAX_DIGITS" 4) rfl)
  g_ValueError := He.free_ok X G (c.fact 31 (f := .free "ValueError") rfl)
  g_all := He.free_ok X G (c.fact 32 (f := .free "all") rfl)
  g_any := He.free_ok X G (c.fact 33 (f := .free "any") rfl)
  g_bool := He.free_ok X G (c.fact 34 (f := .free "bool") rfl)
  g_enumerate := He.free_ok X G (c.fact 35 (f := .free "enumerate") rfl)
  g_int := He.free_ok X G (c.fact 36 (f := .free "int") rfl)
  g_isinstance := He.free_ok X G (c.fact 37 (f := .free "isinstance") rfl)
  g_len := He.free_ok X G (c.fact 38 (f := .free "len") rfl)
  g_list := He.free_ok X G (c.fact 39 (f := .free "list") rfl)
  g_range := He.free_ok X G (c.fact 40 (f := .free "range") rfl)
  g_str := He.free_ok X G (c.fact 41 (f := .free "str") rfl)
  g_tuple := He.free_ok X G (c.fact 42 (f := .free "tuple") rfl)
  g_zip := He.free_ok X G (c.fact 43 (f := .free "zip") rfl)
  x_InvalidMemory := (let z := He.exc_ok (c.fact 44 (f := .exc "InvalidMemory") rfl); ⟨⟨_, _, _, _, PySem.F.excBase_ValueError, z.1, He.glo_ok X G (c.fact 23 (f := .glo "InvalidMemory") rfl), z.2.1, z.2.2.1, z.2.2.2⟩⟩)
  e_VirtError_InvalidMemory := He.exm_ok (c.fact 45 (f := .exm "VirtError" "InvalidMemory" false) rfl)
  e_InvalidMemory_InvalidMemory := He.exm_ok (c.fact 46 (f := .exm "InvalidMemory" "InvalidMemory" true) rfl)
  e_ParseError_InvalidMemory := He.exm_ok (c.fact 47 (f := .exm "ParseError" "InvalidMemory" false) rfl)
  e_VirtError_ParseError := He.exm_ok (c.fact 48 (f := .exm "VirtError" "ParseError" false) rfl)
  e_InvalidMemory_ParseError := He.exm_ok (c.fact 49 (f := .exm "InvalidMemory" "ParseError" false) rfl)
  e_ParseError_ParseError := He.exm_ok (c.fact 50 (f := .exm "ParseError" "ParseError" true) rfl)
  xf_ParseError := xfB_ok (exs K e 0 rfl)
  xn_ParseError_line := He.noat_ok (c.fact 51 (f := .noat "ParseError" "line") rfl)
  ox_ParseError := oexB_ok (exs K e 1 rfl)
  oi_ParseError := (exs K e 2 rfl)
  ob_ParseError := ownB_ok (exs K e 3 rfl)
  g_MNEMONICS := He.glo_ok X G (c.fact 52 (f := .glo "MNEMONICS") rfl)
  t_MNEMONICS := ktsB_ok (exs K e 4 rfl)
theorem one_cls {K : PySem.W.Frag} {C : Addr} {a : Str} (h : Cls K C) (n : NoAttr K C a) : ∀ D ∈ [C], Cls K D ∧ NoAttr K D a := fun D hD => by
  have : D = C := by simpa using hD
  subst this; exact ⟨h, n⟩
theorem no_cls {K : PySem.W.Frag} {a : Str} : ∀ D ∈ ([] : List Addr), Cls K D ∧ NoAttr K D a := fun D hD => by simp at hD
theorem cons_cls {K : PySem.W.Frag} {C : Addr} {l : List Addr} {a : Str} (h : Cls K C) (n : NoAttr K C a) (r : ∀ D ∈ l, Cls K D ∧ NoAttr K D a) : ∀ D ∈ C :: l, Cls K D ∧ NoAttr K D a := fun D hD => by
  rcases List.mem_cons.mp hD with e | e
  · subst e; exact ⟨h, n⟩
  · exact r D e
def ans_InvalidMemory (K : PySem.W.Frag) : Value → Option Bool := fun c => if c = .ref (He.ga K "VirtError") then some false else if c = .ref (He.ga K "InvalidMemory") then some true else if c = .ref (He.ga K "ParseError") then some false else none
theorem ans_InvalidMemory_ok {K : PySem.W.Frag} {mg : Str → Option Value} (hy : Hy K mg) : ∀ c b, ans_InvalidMemory K c = some b → PySem.W.exmOne K c (.ref (He.ga K "InvalidMemory")) = some b := by
  intro c b h
  unfold ans_InvalidMemory at h
  split at h
  · rename_i e; subst e; rw [hy.e_VirtError_InvalidMemory]; exact h
  split at h
  · rename_i e; subst e; rw [hy.e_InvalidMemory_InvalidMemory]; exact h
  split at h
  · rename_i e; subst e; rw [hy.e_ParseError_InvalidMemory]; exact h
  cases h
def ans_ParseError (K : PySem.W.Frag) : Value → Option Bool := fun c => if c = .ref (He.ga K "VirtError") then some false else if c = .ref (He.ga K "InvalidMemory") then some false else if c = .ref (He.ga K "ParseError") then some true else none
theorem ans_ParseError_ok {K : PySem.W.Frag} {mg : Str → Option Value} (hy : Hy K mg) : ∀ c b, ans_ParseError K c = some b → PySem.W.exmOne K c (.ref (He.ga K "ParseError")) = some b := by
  intro c b h
  unfold ans_ParseError at h
  split at h
  · rename_i e; subst e; rw [hy.e_VirtError_ParseError]; exact h
  split at h
  · rename_i e; subst e; rw [hy.e_InvalidMemory_ParseError]; exact h
  split at h
  · rename_i e; subst e; rw [hy.e_ParseError_ParseError]; exact h
  cases h
section
variable {P : Program} {w : World} {K : PySem.W.Frag} {mg : Str → Option Value} {base : Heap}
theorem sc_ParseError___init__ : FnScope ["self", "line"] ["self", "line"] (defScope st_ParseError___init__) := ⟨rfl, rfl, rfl, by decide +kernel, rfl, by decide +kernel, by decide +kernel⟩
theorem rox_ParseError (hy : Hy K mg) : RaiseOx P w K mg base 1 "ParseError" (He.ga K "ParseError") "line" := by
  obtain ⟨fd, F⟩ := hy.f_ParseError___init__
  obtain ⟨i1, i2⟩ := He.ba hy.oi_ParseError
  obtain ⟨i3, i4⟩ := He.ba i2
  refine ⟨_, fd, ["self", "line"], ?_, hy.ox_ParseError, He.eqO_ok i4, He.eqO_ok i1, of_decide_eq_true i3, hy.g_ParseError, F.bindsN fun _ _ _ _ _ _ us hl => match us, hl with | [_, _], _ => rfl⟩
  refine F.ok sc_ParseError___init__ (fun vs H Q E h => ?_) (fun cdv A outer s H vs Q E hr h => ⟨tOxI K "invalid assembly text" "line", ?_, ox_pure vs H Q E h⟩)
  · obtain ⟨_, _, _, rfl, _⟩ := h
    rfl
  · exact pss_cons (ps_expr (pe_oinit rfl hy.g_VirtError hy.ob_ParseError (pa_cons (pv 0) (pa_cons pe_str pa_nil)))) (pss_one (ps_ost (pv 0) (pv 1)))
/-! is_integer -/
def b_is_integer (K : PySem.W.Frag) : Sm :=
    (sRet (eAnd (eCall cIsi (aCons (eVar 0) (aCons (eC (.ty "int")) aNil))) (eAnd (eNot (eCall cIsi (aCons (eVar 0) (aCons (eC (.ty "bool")) aNil)))) (eCh opLe opLe (eVar 1) (eVar 0) (eVar 2)))))
def m_is_integer (K : PySem.W.Frag) : M1.Fn := mkFn 3 3 (b_is_integer K)
theorem sc_is_integer : FnScope ["value", "low", "high"] ["value", "low", "high"] (defScope st_is_integer) := ⟨rfl, rfl, rfl, by decide +kernel, rfl, by decide +kernel, by decide +kernel⟩
theorem ok_is_integer (hy : Hy K mg) {f : Addr} {fd : FuncData} (F : FunD K "is_integer" "is_integer" (defArgs st_is_integer) (defBody st_is_integer) (defScope st_is_integer) [] [] f fd) : FnOk P w K mg base (L2.CX P w) 1 f fd ["value", "low", "high"] (spM K 3 (m_is_integer K)) := by
  have h := fn_mk (P := P) (w := w) (mg := mg) (base := base) (k := 0) (b := b_is_integer K) F sc_is_integer (fun cdv A outer s H E hr => by
    have hu := hr.units
    refine mss_one ?_
    refine ms_ret ?_
    refine me_and ?_ ?_
    refine me_callB cr_isi rfl hy.g_isinstance bt_isinstance ?_
    refine ma_cons ?_ ?_
    exact me_var (pv 0)
    refine ma_cons ?_ ?_
    exact me_ty rfl hy.g_int bt_int
    exact ma_nil
    refine me_and ?_ ?_
    refine me_not ?_
    refine me_callB cr_isi rfl hy.g_isinstance bt_isinstance ?_
    refine ma_cons ?_ ?_
    exact me_var (pv 0)
    refine ma_cons ?_ ?_
    exact me_ty rfl hy.g_bool bt_bool
    exact ma_nil
    refine me_one ?_
    refine me_chain opp_le opp_le ?_ ?_ ?_
    exact me_var (pv 1)
    exact me_var (pv 0)
    exact me_var (pv 2))
  exact h
theorem cal_is_integer (hy : Hy K mg) : Cal P w K mg base 1 "is_integer" (m_is_integer K) [] := by
  obtain ⟨fd, F⟩ := hy.f_is_integer
  exact cal_mk F rfl lenOk_mk (ok_is_integer hy F) hy.g_is_integer (F.bindsN fun _ _ _ _ _ _ us hl => match us, hl with | [_, _, _], _ => rfl)
/-! is_name -/
def b_is_name (K : PySem.W.Frag) : Sm :=
    (sRet (eAnd (eCall cIsi (aCons (eVar 0) (aCons (eC (.ty "str")) aNil))) (eAnd (eCh opLe opLe (eC (.int 1)) (eCall cLen (aCons (eVar 0) aNil)) (eC (.int 8))) (eCall cAll (aCons (eLc 2 [1] (iAny (eVar 0)) (gN 1) tYesM (eOp opInE (eVar 1) (eC (.str "abcdefghijklmnopqrstuvwxyz")))) aNil)))))
def m_is_name (K : PySem.W.Frag) : M1.Fn := mkFn 1 2 (b_is_name K)
theorem sc_is_name : FnScope ["value", "sign"] ["value"] (defScope st_is_name) := ⟨rfl, rfl, rfl, by decide +kernel, rfl, by decide +kernel, by decide +kernel⟩
theorem ok_is_name (hy : Hy K mg) {f : Addr} {fd : FuncData} (F : FunD K "is_name" "is_name" (defArgs st_is_name) (defBody st_is_name) (defScope st_is_name) [] [] f fd) : FnOk P w K mg base (L2.CX P w) 1 f fd ["value"] (spM K 1 (m_is_name K)) := by
  have h := fn_mk (P := P) (w := w) (mg := mg) (base := base) (k := 0) (b := b_is_name K) F sc_is_name (fun cdv A outer s H E hr => by
    have hu := hr.units
    refine mss_one ?_
    refine ms_ret ?_
    refine me_and ?_ ?_
    refine me_callB cr_isi rfl hy.g_isinstance bt_isinstance ?_
    refine ma_cons ?_ ?_
    exact me_var (pv 0)
    refine ma_cons ?_ ?_
    exact me_ty rfl hy.g_str bt_str
    exact ma_nil
    refine me_and ?_ ?_
    refine me_chain opp_le opp_le ?_ ?_ ?_
    exact me_int
    refine me_callB cr_len rfl hy.g_len bt_len ?_
    refine ma_cons ?_ ?_
    exact me_var (pv 0)
    exact ma_nil
    exact me_gint rfl hy.g_MAX_NAME
    refine me_one ?_
    refine me_callB (cr_allM rfl) rfl hy.g_all bt_all ?_
    refine ma_cons ?_ ?_
    refine me_lc rfl rfl tk0 rfl sc_is_name.nd rfl ?_ (own := [("sign", 1)]) (blkOk_by (by kernel_rfl)) ?_ ?_ ?_
    refine mi_any ?_
    exact me_var (pv 0)
    intro s H C cl fp xe
    exact mc_name (pg_name sc_is_name.nd (i := 1) rfl (by first | exact .inl rfl | exact .inr rfl)) (by decide)
    intro s H C cl fp xe Wb tb
    exact mts_nil
    intro s H C cl fp xe Wb tb
    refine me_cmp (opp_inE (hu1 hu)) ?_ ?_ (by first | exact nomark _ | with_unfolding_all rfl)
    exact me_var (pv 1)
    exact me_gstr rfl hy.g_LETTERS
    exact ma_nil)
  exact h
theorem cal_is_name (hy : Hy K mg) : Cal P w K mg base 1 "is_name" (m_is_name K) [] := by
  obtain ⟨fd, F⟩ := hy.f_is_name
  exact cal_mk F rfl lenOk_mk (ok_is_name hy F) hy.g_is_name (F.bindsN fun _ _ _ _ _ _ us hl => match us, hl with | [_], _ => rfl)
/-! parse_word -/
def b_parse_word (K : PySem.W.Frag) : Sm :=
    (sSeq (sIf (tOrM (tNotM (tBl (eCh opLe opLe (eC (.int 1)) (eCall cLen (aCons (eVar 0) aNil)) (eC (.int 4))))) (tOrM (tNotM (tTru (eCall cAll (aCons (eLc 2 [1] (iAny (eVar 0)) (gN 1) tYesM (eOp opInE (eVar 1) (eC (.str "0123456789")))) aNil)))) (tBl (eOp opNe (eCall cStr (aCons (eCall cIntE (aCons (eVar 0) aNil)) aNil)) (eVar 0))))) (sRet (eC .non)) sNil)
    (sRet (eCall cIntE (aCons (eVar 0) aNil))))
def m_parse_word (K : PySem.W.Frag) : M1.Fn := mkFn 1 2 (b_parse_word K)
theorem sc_parse_word : FnScope ["text", "sign"] ["text"] (defScope st_parse_word) := ⟨rfl, rfl, rfl, by decide +kernel, rfl, by decide +kernel, by decide +kernel⟩
theorem ok_parse_word (hy : Hy K mg) {f : Addr} {fd : FuncData} (F : FunD K "parse_word" "parse_word" (defArgs st_parse_word) (defBody st_parse_word) (defScope st_parse_word) [] [] f fd) : FnOk P w K mg base (L2.CX P w) 1 f fd ["text"] (spM K 1 (m_parse_word K)) := by
  have h := fn_mk (P := P) (w := w) (mg := mg) (base := base) (k := 0) (b := b_parse_word K) F sc_parse_word (fun cdv A outer s H E hr => by
    have hu := hr.units
    refine mss_cons ?_ ?_
    refine ms_if ?_ ?_ ?_
    refine mw_pt ?_
    refine mw_or ?_ ?_
    refine mt_not ?_
    refine mt_chain opp_le opp_le ?_ ?_ ?_
    exact me_int
    refine me_callB cr_len rfl hy.g_len bt_len ?_
    refine ma_cons ?_ ?_
    exact me_var (pv 0)
    exact ma_nil
    exact me_gint rfl hy.g_MAX_DIGITS
    refine mw_or ?_ ?_
    refine mt_not ?_
    refine mt_tru ?_
    refine me_callB (cr_allM rfl) rfl hy.g_all bt_all ?_
    refine ma_cons ?_ ?_
    refine me_lc rfl rfl tk0 rfl sc_parse_word.nd rfl ?_ (own := [("sign", 1)]) (blkOk_by (by kernel_rfl)) ?_ ?_ ?_
    refine mi_any ?_
    exact me_var (pv 0)
    intro s H C cl fp xe
    exact mc_name (pg_name sc_parse_word.nd (i := 1) rfl (by first | exact .inl rfl | exact .inr rfl)) (by decide)
    intro s H C cl fp xe Wb tb
    exact mts_nil
    intro s H C cl fp xe Wb tb
    refine me_cmp (opp_inE (hu1 hu)) ?_ ?_ (by first | exact nomark _ | with_unfolding_all rfl)
    exact me_var (pv 1)
    exact me_gstr rfl hy.g_DIGITS
    exact ma_nil
    refine mw_or1 ?_
    refine mt_cmp (opp_ne hu) ?_ ?_ (by first | exact nomark _ | with_unfolding_all rfl)
    refine me_callTy cr_str rfl hy.g_str bt_str ?_
    refine ma_cons ?_ ?_
    refine me_callTy cr_intE rfl hy.g_int bt_int ?_
    refine ma_cons ?_ ?_
    exact me_var (pv 0)
    exact ma_nil
    exact ma_nil
    exact me_var (pv 0)
    refine mss_one ?_
    refine ms_ret ?_
    exact me_non
    exact mss_nil
    refine mss_one ?_
    refine ms_ret ?_
    refine me_callTy cr_intE rfl hy.g_int bt_int ?_
    refine ma_cons ?_ ?_
    exact me_var (pv 0)
    exact ma_nil)
  exact h
theorem cal_parse_word (hy : Hy K mg) : Cal P w K mg base 1 "parse_word" (m_parse_word K) [] := by
  obtain ⟨fd, F⟩ := hy.f_parse_word
  exact cal_mk F rfl lenOk_mk (ok_parse_word hy F) hy.g_parse_word (F.bindsN fun _ _ _ _ _ _ us hl => match us, hl with | [_], _ => rfl)
/-! _law_mix -/
def b_law_mix (K : PySem.W.Frag) : Sm :=
    (sSeq (sAsg (eOp opMod (eCall cIntE (aCons (eOp opIxE (eVar 0) (eOp opMod (eCall cIntE (aCons (eVar 1) aNil)) (eCall cLen (aCons (eVar 0) aNil)))) aNil)) (eOp opPow (eC (.int 10)) (eC (.int 18)))) (gN 2))
    (sSeq (sAsg (eOp opAdd (eVar 2) (eOp opMulE (eC (.int 13)) (eOp opFdiv (eVar 1) (eCall cLen (aCons (eVar 0) aNil))))) (gN 2))
    (sSeq (sAsg (eOp opMod (eOp opAdd (eOp opMulE (eOp opAdd (eVar 2) (eOp opMulE (eC (.int 977)) (eVar 1))) (eC (.int 48271))) (eOp opMulE (eC (.int 7919)) (eCall cLen (aCons (eVar 0) aNil)))) (eC (.int 2147483647))) (gN 3))
    (sRet (eOp opFdiv (eOp opMulE (eOp opMulE (eVar 3) (eOp opAdd (eOp opAdd (eVar 3) (eOp opMulE (eC (.int 31)) (eVar 1))) (eC (.int 7)))) (eOp opAdd (eVar 3) (eC (.int 5)))) (eC (.int 1009)))))))
def m_law_mix (K : PySem.W.Frag) : M1.Fn := mkFn 2 4 (b_law_mix K)
theorem sc_law_mix : FnScope ["_law_values", "_law_index", "_law_value_here", "_law_mixed"] ["_law_values", "_law_index"] (defScope st_law_mix) := ⟨rfl, rfl, rfl, by decide +kernel, rfl, by decide +kernel, by decide +kernel⟩
theorem ok_law_mix (hy : Hy K mg) {f : Addr} {fd : FuncData} (F : FunD K "_law_mix" "_law_mix" (defArgs st_law_mix) (defBody st_law_mix) (defScope st_law_mix) [] [] f fd) : FnOk P w K mg base (L2.CX P w) 1 f fd ["_law_values", "_law_index"] (spM K 2 (m_law_mix K)) := by
  have h := fn_mk (P := P) (w := w) (mg := mg) (base := base) (k := 0) (b := b_law_mix K) F sc_law_mix (fun cdv A outer s H E hr => by
    have hu := hr.units
    refine mss_cons ?_ ?_
    refine ms_asg ?_ ?_
    refine me_op opp_mod ?_ ?_
    refine me_callTy cr_intE rfl hy.g_int bt_int ?_
    refine ma_cons ?_ ?_
    refine me_ixE (hu1 hu) ?_ ?_
    exact me_var (pv 0)
    refine me_op opp_mod ?_ ?_
    refine me_callTy cr_intE rfl hy.g_int bt_int ?_
    refine ma_cons ?_ ?_
    exact me_var (pv 1)
    exact ma_nil
    refine me_callB cr_len rfl hy.g_len bt_len ?_
    refine ma_cons ?_ ?_
    exact me_var (pv 0)
    exact ma_nil
    exact ma_nil
    refine me_op opp_pow ?_ ?_
    exact me_int
    exact me_int
    exact mg_name (pg_name sc_law_mix.nd (i := 2) rfl (by first | exact .inl rfl | exact .inr rfl))
    refine mss_cons ?_ ?_
    refine ms_asg ?_ ?_
    refine me_op opp_add ?_ ?_
    exact me_var (pv 2)
    refine me_op opp_mulE ?_ ?_
    exact me_int
    refine me_op opp_fdiv ?_ ?_
    exact me_var (pv 1)
    refine me_callB cr_len rfl hy.g_len bt_len ?_
    refine ma_cons ?_ ?_
    exact me_var (pv 0)
    exact ma_nil
    exact mg_name (pg_name sc_law_mix.nd (i := 2) rfl (by first | exact .inl rfl | exact .inr rfl))
    refine mss_cons ?_ ?_
    refine ms_asg ?_ ?_
    refine me_op opp_mod ?_ ?_
    refine me_op opp_add ?_ ?_
    refine me_op opp_mulE ?_ ?_
    refine me_op opp_add ?_ ?_
    exact me_var (pv 2)
    refine me_op opp_mulE ?_ ?_
    exact me_int
    exact me_var (pv 1)
    exact me_int
    refine me_op opp_mulE ?_ ?_
    exact me_int
    refine me_callB cr_len rfl hy.g_len bt_len ?_
    refine ma_cons ?_ ?_
    exact me_var (pv 0)
    exact ma_nil
    exact me_int
    exact mg_name (pg_name sc_law_mix.nd (i := 3) rfl (by first | exact .inl rfl | exact .inr rfl))
    refine mss_one ?_
    refine ms_ret ?_
    refine me_op opp_fdiv ?_ ?_
    refine me_op opp_mulE ?_ ?_
    refine me_op opp_mulE ?_ ?_
    exact me_var (pv 3)
    refine me_op opp_add ?_ ?_
    refine me_op opp_add ?_ ?_
    exact me_var (pv 3)
    refine me_op opp_mulE ?_ ?_
    exact me_int
    exact me_var (pv 1)
    exact me_int
    refine me_op opp_add ?_ ?_
    exact me_var (pv 3)
    exact me_int
    exact me_int)
  exact h
theorem cal_law_mix (hy : Hy K mg) : Cal P w K mg base 1 "_law_mix" (m_law_mix K) [] := by
  obtain ⟨fd, F⟩ := hy.f_law_mix
  exact cal_mk F rfl lenOk_mk (ok_law_mix hy F) hy.g_law_mix (F.bindsN fun _ _ _ _ _ _ us hl => match us, hl with | [_, _], _ => rfl)
/-! _law_mnemonics -/
def b_law_mnemonics (K : PySem.W.Frag) : Sm :=
    (sSeq (sAsg (eLst (aCons (eC (.str "set")) (aCons (eC (.str "load")) (aCons (eC (.str "store")) (aCons (eC (.str "loadi")) (aCons (eC (.str "storei")) (aCons (eC (.str "add")) (aCons (eC (.str "sub")) aNil)))))))) (gN 0))
    (sSeq (sAsg (eOp opAdd (eVar 0) (eLst (aCons (eC (.str "less")) (aCons (eC (.str "jump")) (aCons (eC (.str "jumpz")) (aCons (eC (.str "trap")) (aCons (eC (.str "out")) (aCons (eC (.str "in")) aNil)))))))) (gN 0))
    (sRet (eOp opAdd (eVar 0) (eLst (aCons (eC (.str "halt")) (aCons (eC (.str "resume")) aNil)))))))
def m_law_mnemonics (K : PySem.W.Frag) : M1.Fn := mkFn 0 1 (b_law_mnemonics K)
theorem sc_law_mnemonics : FnScope ["_law_names"] [] (defScope st_law_mnemonics) := ⟨rfl, rfl, rfl, by decide +kernel, rfl, by decide +kernel, by decide +kernel⟩
theorem ok_law_mnemonics (hy : Hy K mg) {f : Addr} {fd : FuncData} (F : FunD K "_law_mnemonics" "_law_mnemonics" (defArgs st_law_mnemonics) (defBody st_law_mnemonics) (defScope st_law_mnemonics) [] [] f fd) : FnOk P w K mg base (L2.CX P w) 1 f fd [] (spM K 0 (m_law_mnemonics K)) := by
  have h := fn_mk (P := P) (w := w) (mg := mg) (base := base) (k := 0) (b := b_law_mnemonics K) F sc_law_mnemonics (fun cdv A outer s H E hr => by
    have hu := hr.units
    refine mss_cons ?_ ?_
    refine ms_asg ?_ ?_
    refine me_lst ?_
    refine ma_cons ?_ ?_
    exact me_str
    refine ma_cons ?_ ?_
    exact me_str
    refine ma_cons ?_ ?_
    exact me_str
    refine ma_cons ?_ ?_
    exact me_str
    refine ma_cons ?_ ?_
    exact me_str
    refine ma_cons ?_ ?_
    exact me_str
    refine ma_cons ?_ ?_
    exact me_str
    exact ma_nil
    exact mg_name (pg_name sc_law_mnemonics.nd (i := 0) rfl (by first | exact .inl rfl | exact .inr rfl))
    refine mss_cons ?_ ?_
    refine ms_asg ?_ ?_
    refine me_op opp_add ?_ ?_
    exact me_var (pv 0)
    refine me_lst ?_
    refine ma_cons ?_ ?_
    exact me_str
    refine ma_cons ?_ ?_
    exact me_str
    refine ma_cons ?_ ?_
    exact me_str
    refine ma_cons ?_ ?_
    exact me_str
    refine ma_cons ?_ ?_
    exact me_str
    refine ma_cons ?_ ?_
    exact me_str
    exact ma_nil
    exact mg_name (pg_name sc_law_mnemonics.nd (i := 0) rfl (by first | exact .inl rfl | exact .inr rfl))
    refine mss_one ?_
    refine ms_ret ?_
    refine me_op opp_add ?_ ?_
    exact me_var (pv 0)
    refine me_lst ?_
    refine ma_cons ?_ ?_
    exact me_str
    refine ma_cons ?_ ?_
    exact me_str
    exact ma_nil)
  exact h
theorem cal_law_mnemonics (hy : Hy K mg) : Cal P w K mg base 1 "_law_mnemonics" (m_law_mnemonics K) [] := by
  obtain ⟨fd, F⟩ := hy.f_law_mnemonics
  exact cal_mk F rfl lenOk_mk (ok_law_mnemonics hy F) hy.g_law_mnemonics (F.bindsN fun _ _ _ _ _ _ us hl => match us, hl with | [], _ => rfl)
/-! _law_parse_word -/
def b_law_parse_word (K : PySem.W.Frag) : Sm :=
    (sSeq (sIf (tOrM (tNotM (tBl (eCh opLt opLt (eC (.int 0)) (eCall cLen (aCons (eVar 0) aNil)) (eC (.int 5))))) (tTru (eCall cAny (aCons (eLc 2 [1] (iAny (eVar 0)) (gN 1) tYesM (eOp opNinE (eVar 1) (eC (.str "0123456789")))) aNil)))) (sRet (eC .non)) sNil)
    (sRet (eIf (tOrM (tBl (eOp opNe (eOp opIxE (eVar 0) (eC (.int 0))) (eC (.str "0")))) (tBl (eOp opEq (eVar 0) (eC (.str "0"))))) (eCall cIntE (aCons (eVar 0) aNil)) (eC .non))))
def m_law_parse_word (K : PySem.W.Frag) : M1.Fn := mkFn 1 2 (b_law_parse_word K)
theorem sc_law_parse_word : FnScope ["_law_text", "_law_character"] ["_law_text"] (defScope st_law_parse_word) := ⟨rfl, rfl, rfl, by decide +kernel, rfl, by decide +kernel, by decide +kernel⟩
theorem ok_law_parse_word (hy : Hy K mg) {f : Addr} {fd : FuncData} (F : FunD K "_law_parse_word" "_law_parse_word" (defArgs st_law_parse_word) (defBody st_law_parse_word) (defScope st_law_parse_word) [] [] f fd) : FnOk P w K mg base (L2.CX P w) 1 f fd ["_law_text"] (spM K 1 (m_law_parse_word K)) := by
  have h := fn_mk (P := P) (w := w) (mg := mg) (base := base) (k := 0) (b := b_law_parse_word K) F sc_law_parse_word (fun cdv A outer s H E hr => by
    have hu := hr.units
    refine mss_cons ?_ ?_
    refine ms_if ?_ ?_ ?_
    refine mw_pt ?_
    refine mw_or ?_ ?_
    refine mt_not ?_
    refine mt_chain opp_lt opp_lt ?_ ?_ ?_
    exact me_int
    refine me_callB cr_len rfl hy.g_len bt_len ?_
    refine ma_cons ?_ ?_
    exact me_var (pv 0)
    exact ma_nil
    exact me_int
    refine mw_or1 ?_
    refine mt_tru ?_
    refine me_callB (cr_anyM rfl) rfl hy.g_any bt_any ?_
    refine ma_cons ?_ ?_
    refine me_lc rfl rfl tk0 rfl sc_law_parse_word.nd rfl ?_ (own := [("_law_character", 1)]) (blkOk_by (by kernel_rfl)) ?_ ?_ ?_
    refine mi_any ?_
    exact me_var (pv 0)
    intro s H C cl fp xe
    exact mc_name (pg_name sc_law_parse_word.nd (i := 1) rfl (by first | exact .inl rfl | exact .inr rfl)) (by decide)
    intro s H C cl fp xe Wb tb
    exact mts_nil
    intro s H C cl fp xe Wb tb
    refine me_cmp (opp_ninE (hu1 hu)) ?_ ?_ (by first | exact nomark _ | with_unfolding_all rfl)
    exact me_var (pv 1)
    exact me_str
    exact ma_nil
    refine mss_one ?_
    refine ms_ret ?_
    exact me_non
    exact mss_nil
    refine mss_one ?_
    refine ms_ret ?_
    refine me_if ?_ ?_ ?_
    refine mw_pt ?_
    refine mw_or ?_ ?_
    refine mt_cmp (opp_ne hu) ?_ ?_ (by first | exact nomark _ | with_unfolding_all rfl)
    refine me_ixE (hu1 hu) ?_ ?_
    exact me_var (pv 0)
    exact me_int
    exact me_str
    refine mw_or1 ?_
    refine mt_cmp (opp_eq hu) ?_ ?_ (by first | exact nomark _ | with_unfolding_all rfl)
    exact me_var (pv 0)
    exact me_str
    refine me_callTy cr_intE rfl hy.g_int bt_int ?_
    refine ma_cons ?_ ?_
    exact me_var (pv 0)
    exact ma_nil
    exact me_non)
  exact h
theorem cal_law_parse_word (hy : Hy K mg) : Cal P w K mg base 1 "_law_parse_word" (m_law_parse_word K) [] := by
  obtain ⟨fd, F⟩ := hy.f_law_parse_word
  exact cal_mk F rfl lenOk_mk (ok_law_parse_word hy F) hy.g_law_parse_word (F.bindsN fun _ _ _ _ _ _ us hl => match us, hl with | [_], _ => rfl)
/-! _law_is_name -/
def b_law_is_name (K : PySem.W.Frag) : Sm :=
    (sRet (eAnd (eCh opLe opLe (eC (.int 1)) (eCall cLen (aCons (eVar 0) aNil)) (eC (.int 8))) (eCall cAll (aCons (eLc 2 [1] (iAny (eVar 0)) (gN 1) tYesM (eOp opInE (eVar 1) (eC (.str "abcdefghijklmnopqrstuvwxyz")))) aNil))))
def m_law_is_name (K : PySem.W.Frag) : M1.Fn := mkFn 1 2 (b_law_is_name K)
theorem sc_law_is_name : FnScope ["_law_text", "_law_character"] ["_law_text"] (defScope st_law_is_name) := ⟨rfl, rfl, rfl, by decide +kernel, rfl, by decide +kernel, by decide +kernel⟩
theorem ok_law_is_name (hy : Hy K mg) {f : Addr} {fd : FuncData} (F : FunD K "_law_is_name" "_law_is_name" (defArgs st_law_is_name) (defBody st_law_is_name) (defScope st_law_is_name) [] [] f fd) : FnOk P w K mg base (L2.CX P w) 1 f fd ["_law_text"] (spM K 1 (m_law_is_name K)) := by
  have h := fn_mk (P := P) (w := w) (mg := mg) (base := base) (k := 0) (b := b_law_is_name K) F sc_law_is_name (fun cdv A outer s H E hr => by
    have hu := hr.units
    refine mss_one ?_
    refine ms_ret ?_
    refine me_and ?_ ?_
    refine me_chain opp_le opp_le ?_ ?_ ?_
    exact me_int
    refine me_callB cr_len rfl hy.g_len bt_len ?_
    refine ma_cons ?_ ?_
    exact me_var (pv 0)
    exact ma_nil
    exact me_int
    refine me_one ?_
    refine me_callB (cr_allM rfl) rfl hy.g_all bt_all ?_
    refine ma_cons ?_ ?_
    refine me_lc rfl rfl tk0 rfl sc_law_is_name.nd rfl ?_ (own := [("_law_character", 1)]) (blkOk_by (by kernel_rfl)) ?_ ?_ ?_
    refine mi_any ?_
    exact me_var (pv 0)
    intro s H C cl fp xe
    exact mc_name (pg_name sc_law_is_name.nd (i := 1) rfl (by first | exact .inl rfl | exact .inr rfl)) (by decide)
    intro s H C cl fp xe Wb tb
    exact mts_nil
    intro s H C cl fp xe Wb tb
    refine me_cmp (opp_inE (hu1 hu)) ?_ ?_ (by first | exact nomark _ | with_unfolding_all rfl)
    exact me_var (pv 1)
    exact me_str
    exact ma_nil)
  exact h
theorem cal_law_is_name (hy : Hy K mg) : Cal P w K mg base 1 "_law_is_name" (m_law_is_name K) [] := by
  obtain ⟨fd, F⟩ := hy.f_law_is_name
  exact cal_mk F rfl lenOk_mk (ok_law_is_name hy F) hy.g_law_is_name (F.bindsN fun _ _ _ _ _ _ us hl => match us, hl with | [_], _ => rfl)
/-! _law_changed -/
def b_law_changed (K : PySem.W.Frag) : Sm :=
    (sSeq (sPar3 2 3 4 (aCons (eMb isStr gSplit (eVar 0) (aCons (eC (.str "\n")) aNil)) (aCons (eOp opMod (eVar 1) (eC (.int 7))) (aCons (eOp opFdiv (eVar 1) (eC (.int 7))) aNil))))
    (sSeq (sPar2 5 6 (aCons (eOp opMod (eCall cIntE (aCons (eVar 4) aNil)) (eOp opAdd (eCall cLen (aCons (eVar 0) aNil)) (eC (.int 1)))) (aCons (eOp opMod (eCall cIntE (aCons (eVar 4) aNil)) (eCall cLen (aCons (eVar 2) aNil))) aNil)))
    (sSeq (sAsg (eOp opIxE (eC (.str "0129 :\nabxspec")) (eOp opMod (eOp opFdiv (eVar 4) (eC (.int 5000))) (eC (.int 14)))) (gN 7))
    (sSeq (sIf (tBl (eOp opLt (eVar 3) (eC (.int 2)))) (sRet (eOp opAdd (eOp opAdd (eSl (eVar 0) pNo (pAt (eVar 5))) (eVar 7)) (eSl (eVar 0) (pAt (eOp opAdd (eVar 5) (eVar 3))) pNo))) sNil)
    (sSeq (sIf (tBl (eOp opEq (eVar 3) (eC (.int 2)))) (sRet (eOp opAdd (eSl (eVar 0) pNo (pAt (eVar 5))) (eSl (eVar 0) (pAt (eOp opAdd (eVar 5) (eC (.int 1)))) pNo))) sNil)
    (sSeq (sIf (tBl (eOp opEq (eVar 3) (eC (.int 3)))) (sRet (eMb isStr gJoin (eC (.str "\n")) (aCons (eOp opAdd (eOp opAdd (eSl (eVar 2) pNo (pAt (eVar 6))) (eLst (aCons (eC (.str "here:")) aNil))) (eSl (eVar 2) (pAt (eVar 6)) pNo)) aNil))) sNil)
    (sSeq (sIf (tBl (eOp opEq (eVar 3) (eC (.int 4)))) (sRet (eMb isStr gJoin (eC (.str "\n")) (aCons (eOp opAdd (eOp opAdd (eSl (eVar 2) pNo (pAt (eVar 6))) (eLst (aCons (eOp opAdd (eC (.str "jump ")) (eOp opIxE (eTup (aCons (eC (.str "here")) (aCons (eC (.str "there")) (aCons (eC (.str "x")) (aCons (eC (.str "set")) aNil))))) (eOp opMod (eOp opFdiv (eVar 4) (eC (.int 50))) (eC (.int 4))))) aNil))) (eSl (eVar 2) (pAt (eVar 6)) pNo)) aNil))) sNil)
    (sSeq (sIf (tBl (eOp opEq (eVar 3) (eC (.int 5)))) (sSeq (sAsg (eOp opIxE (eVar 2) (eOp opMod (eOp opFdiv (eVar 4) (eC (.int 50))) (eCall cLen (aCons (eVar 2) aNil)))) (gN 8))
    (sRet (eMb isStr gJoin (eC (.str "\n")) (aCons (eOp opAdd (eOp opAdd (eSl (eVar 2) pNo (pAt (eVar 6))) (eLst (aCons (eVar 8) aNil))) (eSl (eVar 2) (pAt (eVar 6)) pNo)) aNil)))) sNil)
    (sRet (eMb isStr gJoin (eC (.str "\n")) (aCons (eOp opAdd (eOp opAdd (eOp opAdd (eSl (eVar 2) pNo (pAt (eVar 6))) (eLst (aCons (eC (.str "here:")) (aCons (eC (.str "resume here")) (aCons (eC (.str "jumpz end")) aNil))))) (eSl (eVar 2) (pAt (eVar 6)) pNo)) (eLst (aCons (eC (.str "end:")) (aCons (eC (.str "")) aNil)))) aNil)))))))))))
def m_law_changed (K : PySem.W.Frag) : M1.Fn := mkFn 2 9 (b_law_changed K)
theorem sc_law_changed : FnScope ["_law_text", "_law_seed", "_law_lines", "_law_choice", "_law_rest", "_law_position", "_law_number", "_law_character", "_law_other"] ["_law_text", "_law_seed"] (defScope st_law_changed) := ⟨rfl, rfl, rfl, by decide +kernel, rfl, by decide +kernel, by decide +kernel⟩
theorem ok_law_changed (hy : Hy K mg) {f : Addr} {fd : FuncData} (F : FunD K "_law_changed" "_law_changed" (defArgs st_law_changed) (defBody st_law_changed) (defScope st_law_changed) [] [] f fd) : FnOk P w K mg base (L2.CX P w) 1 f fd ["_law_text", "_law_seed"] (spM K 2 (m_law_changed K)) := by
  have h := fn_mk (P := P) (w := w) (mg := mg) (base := base) (k := 0) (b := b_law_changed K) F sc_law_changed (fun cdv A outer s H E hr => by
    have hu := hr.units
    refine mss_cons ?_ ?_
    refine ms_par3 rfl sc_law_changed.nd (i := 2) (j := 3) (l := 4) rfl rfl rfl (by decide) (by decide) (by decide) rfl rfl rfl ?_ (by rfl)
    refine ma_cons ?_ ?_
    refine me_split ?_ ?_
    exact me_var (pv 0)
    exact me_str
    refine ma_cons ?_ ?_
    refine me_op opp_mod ?_ ?_
    exact me_var (pv 1)
    exact me_int
    refine ma_cons ?_ ?_
    refine me_op opp_fdiv ?_ ?_
    exact me_var (pv 1)
    exact me_int
    exact ma_nil
    refine mss_cons ?_ ?_
    refine ms_par2 rfl sc_law_changed.nd (i := 5) (j := 6) rfl rfl (by decide) rfl rfl ?_ (by rfl)
    refine ma_cons ?_ ?_
    refine me_op opp_mod ?_ ?_
    refine me_callTy cr_intE rfl hy.g_int bt_int ?_
    refine ma_cons ?_ ?_
    exact me_var (pv 4)
    exact ma_nil
    refine me_op opp_add ?_ ?_
    refine me_callB cr_len rfl hy.g_len bt_len ?_
    refine ma_cons ?_ ?_
    exact me_var (pv 0)
    exact ma_nil
    exact me_int
    refine ma_cons ?_ ?_
    refine me_op opp_mod ?_ ?_
    refine me_callTy cr_intE rfl hy.g_int bt_int ?_
    refine ma_cons ?_ ?_
    exact me_var (pv 4)
    exact ma_nil
    refine me_callB cr_len rfl hy.g_len bt_len ?_
    refine ma_cons ?_ ?_
    exact me_var (pv 2)
    exact ma_nil
    exact ma_nil
    refine mss_cons ?_ ?_
    refine ms_asg ?_ ?_
    refine me_ixE (hu1 hu) ?_ ?_
    exact me_str
    refine me_op opp_mod ?_ ?_
    refine me_op opp_fdiv ?_ ?_
    exact me_var (pv 4)
    exact me_int
    exact me_int
    exact mg_name (pg_name sc_law_changed.nd (i := 7) rfl (by first | exact .inl rfl | exact .inr rfl))
    refine mss_cons ?_ ?_
    refine ms_if ?_ ?_ ?_
    refine mt_cmp opp_lt ?_ ?_ (by first | exact nomark _ | with_unfolding_all rfl)
    exact me_var (pv 3)
    exact me_int
    refine mss_one ?_
    refine ms_ret ?_
    refine me_op opp_add ?_ ?_
    refine me_op opp_add ?_ ?_
    refine me_sl ?_ ?_ ?_
    exact me_var (pv 0)
    exact mp_no
    refine mp_at ?_
    exact me_var (pv 5)
    exact me_var (pv 7)
    refine me_sl ?_ ?_ ?_
    exact me_var (pv 0)
    refine mp_at ?_
    refine me_op opp_add ?_ ?_
    exact me_var (pv 5)
    exact me_var (pv 3)
    exact mp_no
    exact mss_nil
    refine mss_cons ?_ ?_
    refine ms_if ?_ ?_ ?_
    refine mt_cmp (opp_eq hu) ?_ ?_ (by first | exact nomark _ | with_unfolding_all rfl)
    exact me_var (pv 3)
    exact me_int
    refine mss_one ?_
    refine ms_ret ?_
    refine me_op opp_add ?_ ?_
    refine me_sl ?_ ?_ ?_
    exact me_var (pv 0)
    exact mp_no
    refine mp_at ?_
    exact me_var (pv 5)
    refine me_sl ?_ ?_ ?_
    exact me_var (pv 0)
    refine mp_at ?_
    refine me_op opp_add ?_ ?_
    exact me_var (pv 5)
    exact me_int
    exact mp_no
    exact mss_nil
    refine mss_cons ?_ ?_
    refine ms_if ?_ ?_ ?_
    refine mt_cmp (opp_eq hu) ?_ ?_ (by first | exact nomark _ | with_unfolding_all rfl)
    exact me_var (pv 3)
    exact me_int
    refine mss_one ?_
    refine ms_ret ?_
    refine me_join ?_ ?_
    exact me_str
    refine me_op opp_add ?_ ?_
    refine me_op opp_add ?_ ?_
    refine me_sl ?_ ?_ ?_
    exact me_var (pv 2)
    exact mp_no
    refine mp_at ?_
    exact me_var (pv 6)
    refine me_lst ?_
    refine ma_cons ?_ ?_
    exact me_str
    exact ma_nil
    refine me_sl ?_ ?_ ?_
    exact me_var (pv 2)
    refine mp_at ?_
    exact me_var (pv 6)
    exact mp_no
    exact mss_nil
    refine mss_cons ?_ ?_
    refine ms_if ?_ ?_ ?_
    refine mt_cmp (opp_eq hu) ?_ ?_ (by first | exact nomark _ | with_unfolding_all rfl)
    exact me_var (pv 3)
    exact me_int
    refine mss_one ?_
    refine ms_ret ?_
    refine me_join ?_ ?_
    exact me_str
    refine me_op opp_add ?_ ?_
    refine me_op opp_add ?_ ?_
    refine me_sl ?_ ?_ ?_
    exact me_var (pv 2)
    exact mp_no
    refine mp_at ?_
    exact me_var (pv 6)
    refine me_lst ?_
    refine ma_cons ?_ ?_
    refine me_op opp_add ?_ ?_
    exact me_str
    refine me_ixE (hu1 hu) ?_ ?_
    refine me_tup ?_
    refine ma_cons ?_ ?_
    exact me_str
    refine ma_cons ?_ ?_
    exact me_str
    refine ma_cons ?_ ?_
    exact me_str
    refine ma_cons ?_ ?_
    exact me_str
    exact ma_nil
    refine me_op opp_mod ?_ ?_
    refine me_op opp_fdiv ?_ ?_
    exact me_var (pv 4)
    exact me_int
    exact me_int
    exact ma_nil
    refine me_sl ?_ ?_ ?_
    exact me_var (pv 2)
    refine mp_at ?_
    exact me_var (pv 6)
    exact mp_no
    exact mss_nil
    refine mss_cons ?_ ?_
    refine ms_if ?_ ?_ ?_
    refine mt_cmp (opp_eq hu) ?_ ?_ (by first | exact nomark _ | with_unfolding_all rfl)
    exact me_var (pv 3)
    exact me_int
    refine mss_cons ?_ ?_
    refine ms_asg ?_ ?_
    refine me_ixE (hu1 hu) ?_ ?_
    exact me_var (pv 2)
    refine me_op opp_mod ?_ ?_
    refine me_op opp_fdiv ?_ ?_
    exact me_var (pv 4)
    exact me_int
    refine me_callB cr_len rfl hy.g_len bt_len ?_
    refine ma_cons ?_ ?_
    exact me_var (pv 2)
    exact ma_nil
    exact mg_name (pg_name sc_law_changed.nd (i := 8) rfl (by first | exact .inl rfl | exact .inr rfl))
    refine mss_one ?_
    refine ms_ret ?_
    refine me_join ?_ ?_
    exact me_str
    refine me_op opp_add ?_ ?_
    refine me_op opp_add ?_ ?_
    refine me_sl ?_ ?_ ?_
    exact me_var (pv 2)
    exact mp_no
    refine mp_at ?_
    exact me_var (pv 6)
    refine me_lst ?_
    refine ma_cons ?_ ?_
    exact me_var (pv 8)
    exact ma_nil
    refine me_sl ?_ ?_ ?_
    exact me_var (pv 2)
    refine mp_at ?_
    exact me_var (pv 6)
    exact mp_no
    exact mss_nil
    refine mss_one ?_
    refine ms_ret ?_
    refine me_join ?_ ?_
    exact me_str
    refine me_op opp_add ?_ ?_
    refine me_op opp_add ?_ ?_
    refine me_op opp_add ?_ ?_
    refine me_sl ?_ ?_ ?_
    exact me_var (pv 2)
    exact mp_no
    refine mp_at ?_
    exact me_var (pv 6)
    refine me_lst ?_
    refine ma_cons ?_ ?_
    exact me_str
    refine ma_cons ?_ ?_
    exact me_str
    refine ma_cons ?_ ?_
    exact me_str
    exact ma_nil
    refine me_sl ?_ ?_ ?_
    exact me_var (pv 2)
    refine mp_at ?_
    exact me_var (pv 6)
    exact mp_no
    refine me_lst ?_
    refine ma_cons ?_ ?_
    exact me_str
    refine ma_cons ?_ ?_
    exact me_str
    exact ma_nil)
  exact h
theorem cal_law_changed (hy : Hy K mg) : Cal P w K mg base 1 "_law_changed" (m_law_changed K) [] := by
  obtain ⟨fd, F⟩ := hy.f_law_changed
  exact cal_mk F rfl lenOk_mk (ok_law_changed hy F) hy.g_law_changed (F.bindsN fun _ _ _ _ _ _ us hl => match us, hl with | [_, _], _ => rfl)
/-! is_word -/
def b_is_word (K : PySem.W.Frag) : Sm :=
    (sRet (eF (m_is_integer K) [] (aCons (eVar 0) (aCons (eC (.int 0)) (aCons (eOp opSub (eC (.int 10000)) (eC (.int 1))) aNil)))))
def m_is_word (K : PySem.W.Frag) : M1.Fn := mkFn 1 1 (b_is_word K)
theorem sc_is_word : FnScope ["value"] ["value"] (defScope st_is_word) := ⟨rfl, rfl, rfl, by decide +kernel, rfl, by decide +kernel, by decide +kernel⟩
theorem ok_is_word (hy : Hy K mg) {f : Addr} {fd : FuncData} (F : FunD K "is_word" "is_word" (defArgs st_is_word) (defBody st_is_word) (defScope st_is_word) [] [] f fd) : FnOk P w K mg base (L2.CX P w) 2 f fd ["value"] (spM K 1 (m_is_word K)) := by
  have h := fn_mk (P := P) (w := w) (mg := mg) (base := base) (k := 1) (b := b_is_word K) F sc_is_word (fun cdv A outer s H E hr => by
    have hu := hr.units
    refine mss_one ?_
    refine ms_ret ?_
    refine me_call (cal_is_integer hy) hr (by decide) tk0 rfl ?_
    refine ma_cons ?_ ?_
    exact me_var (pv 0)
    refine ma_cons ?_ ?_
    exact me_int
    refine ma_cons ?_ ?_
    refine me_op opp_sub ?_ ?_
    exact me_gint rfl hy.g_WORD_LIMIT
    exact me_int
    exact ma_nil)
  exact h
theorem cal_is_word (hy : Hy K mg) : Cal P w K mg base 2 "is_word" (m_is_word K) [] := by
  obtain ⟨fd, F⟩ := hy.f_is_word
  exact cal_mk F rfl lenOk_mk (ok_is_word hy F) hy.g_is_word (F.bindsN fun _ _ _ _ _ _ us hl => match us, hl with | [_], _ => rfl)
/-! parse_line -/
def b_parse_line (K : PySem.W.Frag) : Sm :=
    (sSeq (sIf (tAndM (tBl (eOp opEq (eSl (eVar 0) (pAt (eNeg (eC (.int 1)))) pNo) (eC (.str ":")))) (tTru (eF (m_is_name K) [] (aCons (eSl (eVar 0) pNo (pAt (eNeg (eC (.int 1))))) aNil)))) (sRet (eSl (eVar 0) pNo (pAt (eNeg (eC (.int 1)))))) sNil)
    (sSeq (sAsg (eMb isStr gSplit (eVar 0) (aCons (eC (.str " ")) aNil)) (gN 1))
    (sSeq (sIf (tBl (eOp opNe (eCall cLen (aCons (eVar 1) aNil)) (eC (.int 2)))) (sRet (eC .non)) sNil)
    (sSeq (sAsg (eF (m_parse_word K) [] (aCons (eOp opIxE (eVar 1) (eC (.int 1))) aNil)) (gN 2))
    (sSeq (sIf (tBl (eOp opEq (eOp opIxE (eVar 1) (eC (.int 0))) (eC (.str "word")))) (sRet (eIf (tBl (eOp opIsN (eVar 2) (eC .non))) (eC .non) (eLst (aCons (eVar 2) aNil)))) sNil)
    (sSeq (sIf (tOrM (tBl (eOp opNinE (eOp opIxE (eVar 1) (eC (.int 0))) (eC (.tup (ts_MNEMONICS.map .str))))) (tAndM (tBl (eOp opIsN (eVar 2) (eC .non))) (tNotM (tTru (eF (m_is_name K) [] (aCons (eOp opIxE (eVar 1) (eC (.int 1))) aNil)))))) (sRet (eC .non)) sNil)
    (sRet (eLst (aCons (eOp opAdd (eMb isTup gIdxT (eC (.tup (ts_MNEMONICS.map .str))) (aCons (eOp opIxE (eVar 1) (eC (.int 0))) aNil)) (eC (.int 1))) (aCons (eIf (tBl (eOp opIsN (eVar 2) (eC .non))) (eOp opIxE (eVar 1) (eC (.int 1))) (eVar 2)) aNil))))))))))
def m_parse_line (K : PySem.W.Frag) : M1.Fn := mkFn 1 3 (b_parse_line K)
theorem sc_parse_line : FnScope ["line", "parts", "operand"] ["line"] (defScope st_parse_line) := ⟨rfl, rfl, rfl, by decide +kernel, rfl, by decide +kernel, by decide +kernel⟩
theorem ok_parse_line (hy : Hy K mg) {f : Addr} {fd : FuncData} (F : FunD K "parse_line" "parse_line" (defArgs st_parse_line) (defBody st_parse_line) (defScope st_parse_line) [] [] f fd) : FnOk P w K mg base (L2.CX P w) 2 f fd ["line"] (spM K 1 (m_parse_line K)) := by
  have h := fn_mk (P := P) (w := w) (mg := mg) (base := base) (k := 1) (b := b_parse_line K) F sc_parse_line (fun cdv A outer s H E hr => by
    have hu := hr.units
    refine mss_cons ?_ ?_
    refine ms_if ?_ ?_ ?_
    refine mw_pt ?_
    refine mw_and ?_ ?_
    refine mt_cmp (opp_eq hu) ?_ ?_ (by first | exact nomark _ | with_unfolding_all rfl)
    refine me_sl ?_ ?_ ?_
    exact me_var (pv 0)
    refine mp_at ?_
    refine me_neg ?_
    exact me_int
    exact mp_no
    exact me_str
    refine mw_and1 ?_
    refine mt_tru ?_
    refine me_call (cal_is_name hy) hr (by decide) tk0 rfl ?_
    refine ma_cons ?_ ?_
    refine me_sl ?_ ?_ ?_
    exact me_var (pv 0)
    exact mp_no
    refine mp_at ?_
    refine me_neg ?_
    exact me_int
    exact ma_nil
    refine mss_one ?_
    refine ms_ret ?_
    refine me_sl ?_ ?_ ?_
    exact me_var (pv 0)
    exact mp_no
    refine mp_at ?_
    refine me_neg ?_
    exact me_int
    exact mss_nil
    refine mss_cons ?_ ?_
    refine ms_asg ?_ ?_
    refine me_split ?_ ?_
    exact me_var (pv 0)
    exact me_str
    exact mg_name (pg_name sc_parse_line.nd (i := 1) rfl (by first | exact .inl rfl | exact .inr rfl))
    refine mss_cons ?_ ?_
    refine ms_if ?_ ?_ ?_
    refine mt_cmp (opp_ne hu) ?_ ?_ (by first | exact nomark _ | with_unfolding_all rfl)
    refine me_callB cr_len rfl hy.g_len bt_len ?_
    refine ma_cons ?_ ?_
    exact me_var (pv 1)
    exact ma_nil
    exact me_int
    refine mss_one ?_
    refine ms_ret ?_
    exact me_non
    exact mss_nil
    refine mss_cons ?_ ?_
    refine ms_asg ?_ ?_
    refine me_call (cal_parse_word hy) hr (by decide) tk0 rfl ?_
    refine ma_cons ?_ ?_
    refine me_ixE (hu1 hu) ?_ ?_
    exact me_var (pv 1)
    exact me_int
    exact ma_nil
    exact mg_name (pg_name sc_parse_line.nd (i := 2) rfl (by first | exact .inl rfl | exact .inr rfl))
    refine mss_cons ?_ ?_
    refine ms_if ?_ ?_ ?_
    refine mt_cmp (opp_eq hu) ?_ ?_ (by first | exact nomark _ | with_unfolding_all rfl)
    refine me_ixE (hu1 hu) ?_ ?_
    exact me_var (pv 1)
    exact me_int
    exact me_str
    refine mss_one ?_
    refine ms_ret ?_
    refine me_if ?_ ?_ ?_
    refine mt_cmp opp_isN ?_ ?_ (by first | exact nomark _ | with_unfolding_all rfl)
    exact me_var (pv 2)
    exact me_non
    exact me_non
    refine me_lst ?_
    refine ma_cons ?_ ?_
    exact me_var (pv 2)
    exact ma_nil
    exact mss_nil
    refine mss_cons ?_ ?_
    refine ms_if ?_ ?_ ?_
    refine mw_pt ?_
    refine mw_or ?_ ?_
    refine mt_cmp (opp_ninE (hu1 hu)) ?_ ?_ (by first | exact nomark _ | with_unfolding_all rfl)
    refine me_ixE (hu1 hu) ?_ ?_
    exact me_var (pv 1)
    exact me_int
    exact me_gts rfl hy.g_MNEMONICS hy.t_MNEMONICS
    refine mw_or1 ?_
    refine mw_pt ?_
    refine mw_and ?_ ?_
    refine mt_cmp opp_isN ?_ ?_ (by first | exact nomark _ | with_unfolding_all rfl)
    exact me_var (pv 2)
    exact me_non
    refine mw_and1 ?_
    refine mt_not ?_
    refine mt_tru ?_
    refine me_call (cal_is_name hy) hr (by decide) tk0 rfl ?_
    refine ma_cons ?_ ?_
    refine me_ixE (hu1 hu) ?_ ?_
    exact me_var (pv 1)
    exact me_int
    exact ma_nil
    refine mss_one ?_
    refine ms_ret ?_
    exact me_non
    exact mss_nil
    refine mss_one ?_
    refine ms_ret ?_
    refine me_lst ?_
    refine ma_cons ?_ ?_
    refine me_op opp_add ?_ ?_
    refine me_idxK rfl hy.g_MNEMONICS hy.t_MNEMONICS ?_
    refine me_ixE (hu1 hu) ?_ ?_
    exact me_var (pv 1)
    exact me_int
    exact me_int
    refine ma_cons ?_ ?_
    refine me_if ?_ ?_ ?_
    refine mt_cmp opp_isN ?_ ?_ (by first | exact nomark _ | with_unfolding_all rfl)
    exact me_var (pv 2)
    exact me_non
    refine me_ixE (hu1 hu) ?_ ?_
    exact me_var (pv 1)
    exact me_int
    exact me_var (pv 2)
    exact ma_nil)
  exact h
theorem cal_parse_line (hy : Hy K mg) : Cal P w K mg base 2 "parse_line" (m_parse_line K) [] := by
  obtain ⟨fd, F⟩ := hy.f_parse_line
  exact cal_mk F rfl lenOk_mk (ok_parse_line hy F) hy.g_parse_line (F.bindsN fun _ _ _ _ _ _ us hl => match us, hl with | [_], _ => rfl)
/-! _law_value -/
def b_law_value (K : PySem.W.Frag) : Sm :=
    (sRet (eF (m_law_mix K) [] (aCons (eIf (tBl (eOp opNe (eVar 0) (eLst aNil))) (eVar 0) (eLst (aCons (eC (.int 9)) aNil))) (aCons (eVar 1) aNil))))
def m_law_value (K : PySem.W.Frag) : M1.Fn := mkFn 2 2 (b_law_value K)
theorem sc_law_value : FnScope ["_law_script", "_law_index"] ["_law_script", "_law_index"] (defScope st_law_value) := ⟨rfl, rfl, rfl, by decide +kernel, rfl, by decide +kernel, by decide +kernel⟩
theorem ok_law_value (hy : Hy K mg) {f : Addr} {fd : FuncData} (F : FunD K "_law_value" "_law_value" (defArgs st_law_value) (defBody st_law_value) (defScope st_law_value) [] [] f fd) : FnOk P w K mg base (L2.CX P w) 2 f fd ["_law_script", "_law_index"] (spM K 2 (m_law_value K)) := by
  have h := fn_mk (P := P) (w := w) (mg := mg) (base := base) (k := 1) (b := b_law_value K) F sc_law_value (fun cdv A outer s H E hr => by
    have hu := hr.units
    refine mss_one ?_
    refine ms_ret ?_
    refine me_call (cal_law_mix hy) hr (by decide) tk0 rfl ?_
    refine ma_cons ?_ ?_
    refine me_if ?_ ?_ ?_
    refine mt_cmp (opp_ne hu) ?_ ?_ (by first | exact nomark _ | with_unfolding_all rfl)
    exact me_var (pv 0)
    refine me_lst ?_
    exact ma_nil
    exact me_var (pv 0)
    refine me_lst ?_
    refine ma_cons ?_ ?_
    exact me_int
    exact ma_nil
    refine ma_cons ?_ ?_
    exact me_var (pv 1)
    exact ma_nil)
  exact h
theorem cal_law_value (hy : Hy K mg) : Cal P w K mg base 2 "_law_value" (m_law_value K) [] := by
  obtain ⟨fd, F⟩ := hy.f_law_value
  exact cal_mk F rfl lenOk_mk (ok_law_value hy F) hy.g_law_value (F.bindsN fun _ _ _ _ _ _ us hl => match us, hl with | [_, _], _ => rfl)
/-! _law_all_mnemonics -/
def b_law_all_mnemonics (K : PySem.W.Frag) : Sm :=
    (sSeq (sAsg (eLst (aCons (eC (.str "custom0")) (aCons (eC (.str "custom1")) (aCons (eC (.str "custom2")) (aCons (eC (.str "custom3")) (aCons (eC (.str "custom4")) (aCons (eC (.str "custom5")) (aCons (eC (.str "custom6")) (aCons (eC (.str "custom7")) aNil))))))))) (gN 0))
    (sRet (eOp opAdd (eF0 (m_law_mnemonics K) []) (eVar 0))))
def m_law_all_mnemonics (K : PySem.W.Frag) : M1.Fn := mkFn 0 1 (b_law_all_mnemonics K)
theorem sc_law_all_mnemonics : FnScope ["_law_names"] [] (defScope st_law_all_mnemonics) := ⟨rfl, rfl, rfl, by decide +kernel, rfl, by decide +kernel, by decide +kernel⟩
theorem ok_law_all_mnemonics (hy : Hy K mg) {f : Addr} {fd : FuncData} (F : FunD K "_law_all_mnemonics" "_law_all_mnemonics" (defArgs st_law_all_mnemonics) (defBody st_law_all_mnemonics) (defScope st_law_all_mnemonics) [] [] f fd) : FnOk P w K mg base (L2.CX P w) 2 f fd [] (spM K 0 (m_law_all_mnemonics K)) := by
  have h := fn_mk (P := P) (w := w) (mg := mg) (base := base) (k := 1) (b := b_law_all_mnemonics K) F sc_law_all_mnemonics (fun cdv A outer s H E hr => by
    have hu := hr.units
    refine mss_cons ?_ ?_
    refine ms_asg ?_ ?_
    refine me_lst ?_
    refine ma_cons ?_ ?_
    exact me_str
    refine ma_cons ?_ ?_
    exact me_str
    refine ma_cons ?_ ?_
    exact me_str
    refine ma_cons ?_ ?_
    exact me_str
    refine ma_cons ?_ ?_
    exact me_str
    refine ma_cons ?_ ?_
    exact me_str
    refine ma_cons ?_ ?_
    exact me_str
    refine ma_cons ?_ ?_
    exact me_str
    exact ma_nil
    exact mg_name (pg_name sc_law_all_mnemonics.nd (i := 0) rfl (by first | exact .inl rfl | exact .inr rfl))
    refine mss_one ?_
    refine ms_ret ?_
    refine me_op opp_add ?_ ?_
    exact me_call0 (cal_law_mnemonics hy) hr (by decide) rfl
    exact me_var (pv 0))
  exact h
theorem cal_law_all_mnemonics (hy : Hy K mg) : Cal P w K mg base 2 "_law_all_mnemonics" (m_law_all_mnemonics K) [] := by
  obtain ⟨fd, F⟩ := hy.f_law_all_mnemonics
  exact cal_mk F rfl lenOk_mk (ok_law_all_mnemonics hy F) hy.g_law_all_mnemonics (F.bindsN fun _ _ _ _ _ _ us hl => match us, hl with | [], _ => rfl)
/-! is_words -/
def b_is_words (K : PySem.W.Frag) : Sm :=
    (sRet (eAnd (eCall cIsi (aCons (eVar 0) (aCons (eC (.ty "tuple")) aNil))) (eCall cAll (aCons (eLc 2 [1] (iAny (eVar 0)) (gN 1) tYesM (eF (m_is_word K) [] (aCons (eVar 1) aNil))) aNil))))
def m_is_words (K : PySem.W.Frag) : M1.Fn := mkFn 1 2 (b_is_words K)
theorem sc_is_words : FnScope ["value", "item"] ["value"] (defScope st_is_words) := ⟨rfl, rfl, rfl, by decide +kernel, rfl, by decide +kernel, by decide +kernel⟩
theorem ok_is_words (hy : Hy K mg) {f : Addr} {fd : FuncData} (F : FunD K "is_words" "is_words" (defArgs st_is_words) (defBody st_is_words) (defScope st_is_words) [] [] f fd) : FnOk P w K mg base (L2.CX P w) 3 f fd ["value"] (spM K 1 (m_is_words K)) := by
  have h := fn_mk (P := P) (w := w) (mg := mg) (base := base) (k := 2) (b := b_is_words K) F sc_is_words (fun cdv A outer s H E hr => by
    have hu := hr.units
    refine mss_one ?_
    refine ms_ret ?_
    refine me_and ?_ ?_
    refine me_callB cr_isi rfl hy.g_isinstance bt_isinstance ?_
    refine ma_cons ?_ ?_
    exact me_var (pv 0)
    refine ma_cons ?_ ?_
    exact me_ty rfl hy.g_tuple bt_tuple
    exact ma_nil
    refine me_one ?_
    refine me_callB (cr_allM rfl) rfl hy.g_all bt_all ?_
    refine ma_cons ?_ ?_
    refine me_lc rfl rfl tk0 rfl sc_is_words.nd rfl ?_ (own := [("item", 1)]) (blkOk_by (by kernel_rfl)) ?_ ?_ ?_
    refine mi_any ?_
    exact me_var (pv 0)
    intro s H C cl fp xe
    exact mc_name (pg_name sc_is_words.nd (i := 1) rfl (by first | exact .inl rfl | exact .inr rfl)) (by decide)
    intro s H C cl fp xe Wb tb
    exact mts_nil
    intro s H C cl fp xe Wb tb
    refine me_call (cal_is_word hy) hr (by decide) tb rfl ?_
    refine ma_cons ?_ ?_
    exact me_var (pv 1)
    exact ma_nil
    exact ma_nil)
  exact h
theorem cal_is_words (hy : Hy K mg) : Cal P w K mg base 3 "is_words" (m_is_words K) [] := by
  obtain ⟨fd, F⟩ := hy.f_is_words
  exact cal_mk F rfl lenOk_mk (ok_is_words hy F) hy.g_is_words (F.bindsN fun _ _ _ _ _ _ us hl => match us, hl with | [_], _ => rfl)
/-! assemble -/
def b_assemble (K : PySem.W.Frag) : Sm :=
    (sSeq (sIf (tNotM (tTru (eCall cIsi (aCons (eVar 0) (aCons (eC (.ty "str")) aNil))))) (sRaise1 (He.ga K "ParseError") "line" (aCons (eC (.int 0)) aNil)) sNil)
    (sSeq (sAsgX (eMb isStr gSplit (eVar 0) (aCons (eC (.str "\n")) aNil)) (xStar 1 2))
    (sSeq (sAsg (eTup (aCons (eLst aNil) (aCons eDic0 (aCons (eLst aNil) aNil)))) (gT 3 (gsCons (gN 3) (gsCons (gN 4) (gsCons (gN 5) gsNil)))))
    (sSeq (sFor (iEnumM (aCons (eVar 1) aNil)) (gT 2 (gsCons (gN 6) (gsCons (gN 7) gsNil))) (sSeq (sAsg (eF (m_parse_line K) [] (aCons (eVar 7) aNil)) (gN 8))
    (sSeq (sIf (tOrM (tBl (eOp opIsN (eVar 8) (eC .non))) (tAndM (tTru (eCall cIsi (aCons (eVar 8) (aCons (eC (.ty "str")) aNil)))) (tBl (eOp opInE (eVar 8) (eVar 4))))) (sRaise1 (He.ga K "ParseError") "line" (aCons (eVar 6) aNil)) sNil)
    (sSeq (sIf (tTru (eCall cIsi (aCons (eVar 8) (aCons (eC (.ty "str")) aNil)))) (sSeq (sAsgX (eCall cLen (aCons (eVar 3) aNil)) (xSub (eVar 4) (eVar 8) stE))
    sCnt) sNil)
    (sSeq (sIf (tBl (eOp opGt (eOp opAdd (eCall cLen (aCons (eVar 3) aNil)) (eCall cLen (aCons (eVar 8) aNil))) (eC (.int 4000)))) (sRaise1 (He.ga K "ParseError") "line" (aCons (eVar 6) aNil)) sNil)
    (sSeq (sExpr (eMb isLst gExt (eVar 3) (aCons (eVar 8) aNil)))
    (sExpr (eMb isLst gExt (eVar 5) (aCons (eOp opMulE (eLst (aCons (eVar 6) aNil)) (eCall cLen (aCons (eVar 8) aNil))) aNil)))))))))
    (sSeq (sIf (tBl (eOp opNe (eVar 2) (eC (.str "")))) (sRaise1 (He.ga K "ParseError") "line" (aCons (eCall cLen (aCons (eVar 1) aNil)) aNil)) sNil)
    (sSeq (sFor (iZipM (aCons (eVar 5) (aCons (eVar 3) aNil))) (gT 2 (gsCons (gN 6) (gsCons (gN 9) gsNil))) (sIf (tAndM (tTru (eCall cIsi (aCons (eVar 9) (aCons (eC (.ty "str")) aNil)))) (tBl (eOp opNinE (eVar 9) (eVar 4)))) (sRaise1 (He.ga K "ParseError") "line" (aCons (eVar 6) aNil)) sNil))
    (sRet (eCall cTup (aCons (eLc 10 [9] (iAny (eVar 3)) (gN 9) tYesM (eIf (tTru (eCall cIsi (aCons (eVar 9) (aCons (eC (.ty "str")) aNil)))) (eOp opIxE (eVar 4) (eVar 9)) (eVar 9))) aNil)))))))))
def m_assemble (K : PySem.W.Frag) : M1.Fn := mkFn 1 10 (b_assemble K)
theorem sc_assemble : FnScope ["text", "lines", "rest", "cells", "labels", "origins", "number", "line", "parsed", "cell"] ["text"] (defScope st_assemble) := ⟨rfl, rfl, rfl, by decide +kernel, rfl, by decide +kernel, by decide +kernel⟩
theorem ok_assemble (hy : Hy K mg) {f : Addr} {fd : FuncData} (F : FunD K "assemble" "assemble" (defArgs st_assemble) (defBody st_assemble) (defScope st_assemble) [] [] f fd) : FnOk P w K mg base (L2.CX P w) 3 f fd ["text"] (spM K 1 (m_assemble K)) := by
  have h := fn_mk (P := P) (w := w) (mg := mg) (base := base) (k := 2) (b := b_assemble K) F sc_assemble (fun cdv A outer s H E hr => by
    have hu := hr.units
    refine mss_cons ?_ ?_
    refine ms_if ?_ ?_ ?_
    refine mt_not ?_
    refine mt_tru ?_
    refine me_callB cr_isi rfl hy.g_isinstance bt_isinstance ?_
    refine ma_cons ?_ ?_
    exact me_var (pv 0)
    refine ma_cons ?_ ?_
    exact me_ty rfl hy.g_str bt_str
    exact ma_nil
    refine mss_one ?_
    refine ms_raise1 (rox_ParseError hy) hr (by decide) rfl tk0 rfl ?_
    refine ma_cons ?_ ?_
    exact me_int
    exact ma_nil
    exact mss_nil
    refine mss_cons ?_ ?_
    refine ms_asgX ?_ ?_
    refine me_split ?_ ?_
    exact me_var (pv 0)
    exact me_str
    exact mx_star rfl (pg_name sc_assemble.nd (i := 1) rfl (by first | exact .inl rfl | exact .inr rfl)) (pg_name sc_assemble.nd (i := 2) rfl (by first | exact .inl rfl | exact .inr rfl))
    refine mss_cons ?_ ?_
    refine ms_asg ?_ ?_
    refine me_tup ?_
    refine ma_cons ?_ ?_
    refine me_lst ?_
    exact ma_nil
    refine ma_cons ?_ ?_
    exact me_dic0
    refine ma_cons ?_ ?_
    refine me_lst ?_
    exact ma_nil
    exact ma_nil
    refine mg_tup rfl ?_
    refine mgs_cons ?_ ?_
    exact mg_name (pg_name sc_assemble.nd (i := 3) rfl (by first | exact .inl rfl | exact .inr rfl))
    refine mgs_cons ?_ ?_
    exact mg_name (pg_name sc_assemble.nd (i := 4) rfl (by first | exact .inl rfl | exact .inr rfl))
    refine mgs_cons ?_ ?_
    exact mg_name (pg_name sc_assemble.nd (i := 5) rfl (by first | exact .inl rfl | exact .inr rfl))
    exact mgs_nil
    refine mss_cons ?_ ?_
    refine ms_for hp0 rfl ?_ ?_ ?_
    refine mi_enum rfl hy.g_enumerate ?_
    refine ma_cons ?_ ?_
    exact me_var (pv 1)
    exact ma_nil
    refine mg_tup rfl ?_
    refine mgs_cons ?_ ?_
    exact mg_name (pg_name sc_assemble.nd (i := 6) rfl (by first | exact .inl rfl | exact .inr rfl))
    refine mgs_cons ?_ ?_
    exact mg_name (pg_name sc_assemble.nd (i := 7) rfl (by first | exact .inl rfl | exact .inr rfl))
    exact mgs_nil
    refine mss_cons ?_ ?_
    refine ms_asg ?_ ?_
    refine me_call (cal_parse_line hy) hr (by decide) tk0 rfl ?_
    refine ma_cons ?_ ?_
    exact me_var (pv 7)
    exact ma_nil
    exact mg_name (pg_name sc_assemble.nd (i := 8) rfl (by first | exact .inl rfl | exact .inr rfl))
    refine mss_cons ?_ ?_
    refine ms_if ?_ ?_ ?_
    refine mw_pt ?_
    refine mw_or ?_ ?_
    refine mt_cmp opp_isN ?_ ?_ (by first | exact nomark _ | with_unfolding_all rfl)
    exact me_var (pv 8)
    exact me_non
    refine mw_or1 ?_
    refine mw_pt ?_
    refine mw_and ?_ ?_
    refine mt_tru ?_
    refine me_callB cr_isi rfl hy.g_isinstance bt_isinstance ?_
    refine ma_cons ?_ ?_
    exact me_var (pv 8)
    refine ma_cons ?_ ?_
    exact me_ty rfl hy.g_str bt_str
    exact ma_nil
    refine mw_and1 ?_
    refine mt_cmp (opp_inE (hu1 hu)) ?_ ?_ (by first | exact nomark _ | with_unfolding_all rfl)
    exact me_var (pv 8)
    exact me_var (pv 4)
    refine mss_one ?_
    refine ms_raise1 (rox_ParseError hy) hr (by decide) rfl tk0 rfl ?_
    refine ma_cons ?_ ?_
    exact me_var (pv 6)
    exact ma_nil
    exact mss_nil
    refine mss_cons ?_ ?_
    refine ms_if ?_ ?_ ?_
    refine mt_tru ?_
    refine me_callB cr_isi rfl hy.g_isinstance bt_isinstance ?_
    refine ma_cons ?_ ?_
    exact me_var (pv 8)
    refine ma_cons ?_ ?_
    exact me_ty rfl hy.g_str bt_str
    exact ma_nil
    refine mss_cons ?_ ?_
    refine ms_asgX ?_ ?_
    refine me_callB cr_len rfl hy.g_len bt_len ?_
    refine ma_cons ?_ ?_
    exact me_var (pv 3)
    exact ma_nil
    refine mx_sub ?_ ?_ (set_lstE (hu1 hu))
    exact me_var (pv 4)
    exact me_var (pv 8)
    refine mss_one ?_
    exact ms_continue
    exact mss_nil
    refine mss_cons ?_ ?_
    refine ms_if ?_ ?_ ?_
    refine mt_cmp opp_gt ?_ ?_ (by first | exact nomark _ | with_unfolding_all rfl)
    refine me_op opp_add ?_ ?_
    refine me_callB cr_len rfl hy.g_len bt_len ?_
    refine ma_cons ?_ ?_
    exact me_var (pv 3)
    exact ma_nil
    refine me_callB cr_len rfl hy.g_len bt_len ?_
    refine ma_cons ?_ ?_
    exact me_var (pv 8)
    exact ma_nil
    exact me_gint rfl hy.g_MAX_MEMORY
    refine mss_one ?_
    refine ms_raise1 (rox_ParseError hy) hr (by decide) rfl tk0 rfl ?_
    refine ma_cons ?_ ?_
    exact me_var (pv 6)
    exact ma_nil
    exact mss_nil
    refine mss_cons ?_ ?_
    refine ms_expr ?_
    refine me_bmL PySem.F.slot_list_extend PySem.F.type_list_extend mt_ext ?_ ?_
    exact me_var (pv 3)
    refine ma_cons ?_ ?_
    exact me_var (pv 8)
    exact ma_nil
    refine mss_one ?_
    refine ms_expr ?_
    refine me_bmL PySem.F.slot_list_extend PySem.F.type_list_extend mt_ext ?_ ?_
    exact me_var (pv 5)
    refine ma_cons ?_ ?_
    refine me_op opp_mulE ?_ ?_
    refine me_lst ?_
    refine ma_cons ?_ ?_
    exact me_var (pv 6)
    exact ma_nil
    refine me_callB cr_len rfl hy.g_len bt_len ?_
    refine ma_cons ?_ ?_
    exact me_var (pv 8)
    exact ma_nil
    exact ma_nil
    refine mss_cons ?_ ?_
    refine ms_if ?_ ?_ ?_
    refine mt_cmp (opp_ne hu) ?_ ?_ (by first | exact nomark _ | with_unfolding_all rfl)
    exact me_var (pv 2)
    exact me_str
    refine mss_one ?_
    refine ms_raise1 (rox_ParseError hy) hr (by decide) rfl tk0 rfl ?_
    refine ma_cons ?_ ?_
    refine me_callB cr_len rfl hy.g_len bt_len ?_
    refine ma_cons ?_ ?_
    exact me_var (pv 1)
    exact ma_nil
    exact ma_nil
    exact mss_nil
    refine mss_cons ?_ ?_
    refine ms_for hp0 rfl ?_ ?_ ?_
    refine mi_zip rfl hy.g_zip ?_
    refine ma_cons ?_ ?_
    exact me_var (pv 5)
    refine ma_cons ?_ ?_
    exact me_var (pv 3)
    exact ma_nil
    refine mg_tup rfl ?_
    refine mgs_cons ?_ ?_
    exact mg_name (pg_name sc_assemble.nd (i := 6) rfl (by first | exact .inl rfl | exact .inr rfl))
    refine mgs_cons ?_ ?_
    exact mg_name (pg_name sc_assemble.nd (i := 9) rfl (by first | exact .inl rfl | exact .inr rfl))
    exact mgs_nil
    refine mss_one ?_
    refine ms_if ?_ ?_ ?_
    refine mw_pt ?_
    refine mw_and ?_ ?_
    refine mt_tru ?_
    refine me_callB cr_isi rfl hy.g_isinstance bt_isinstance ?_
    refine ma_cons ?_ ?_
    exact me_var (pv 9)
    refine ma_cons ?_ ?_
    exact me_ty rfl hy.g_str bt_str
    exact ma_nil
    refine mw_and1 ?_
    refine mt_cmp (opp_ninE (hu1 hu)) ?_ ?_ (by first | exact nomark _ | with_unfolding_all rfl)
    exact me_var (pv 9)
    exact me_var (pv 4)
    refine mss_one ?_
    refine ms_raise1 (rox_ParseError hy) hr (by decide) rfl tk0 rfl ?_
    refine ma_cons ?_ ?_
    exact me_var (pv 6)
    exact ma_nil
    exact mss_nil
    refine mss_one ?_
    refine ms_ret ?_
    refine me_callTy cr_tup rfl hy.g_tuple bt_tuple ?_
    refine ma_cons ?_ ?_
    refine me_lc rfl rfl tk0 rfl sc_assemble.nd rfl ?_ (own := [("cell", 9)]) (blkOk_by (by kernel_rfl)) ?_ ?_ ?_
    refine mi_any ?_
    exact me_var (pv 3)
    intro s H C cl fp xe
    exact mc_name (pg_name sc_assemble.nd (i := 9) rfl (by first | exact .inl rfl | exact .inr rfl)) (by decide)
    intro s H C cl fp xe Wb tb
    exact mts_nil
    intro s H C cl fp xe Wb tb
    refine me_if ?_ ?_ ?_
    refine mt_tru ?_
    refine me_callB cr_isi rfl hy.g_isinstance bt_isinstance ?_
    refine ma_cons ?_ ?_
    exact me_var (pv 9)
    refine ma_cons ?_ ?_
    exact me_ty rfl hy.g_str bt_str
    exact ma_nil
    refine me_ixE (hu1 hu) ?_ ?_
    exact me_var (pv 4)
    exact me_var (pv 9)
    exact me_var (pv 9)
    exact ma_nil)
  exact h
theorem cal_assemble (hy : Hy K mg) : Cal P w K mg base 3 "assemble" (m_assemble K) [] := by
  obtain ⟨fd, F⟩ := hy.f_assemble
  exact cal_mk F rfl lenOk_mk (ok_assemble hy F) hy.g_assemble (F.bindsN fun _ _ _ _ _ _ us hl => match us, hl with | [_], _ => rfl)
/-! _law_disassemble -/
def b_law_disassemble (K : PySem.W.Frag) : Sm :=
    (sSeq (sPar3 1 2 3 (aCons (eC (.str "")) (aCons (eC (.int 0)) (aCons (eF0 (m_law_all_mnemonics K) []) aNil))))
    (sSeq (whileN (tBl (eOp opLt (eVar 2) (eCall cLen (aCons (eVar 0) aNil)))) (sIf (tAndM (tBl (eCh opLt opLt (eC (.int 0)) (eOp opIxE (eVar 0) (eVar 2)) (eC (.int 24)))) (tBl (eOp opLt (eOp opAdd (eVar 2) (eC (.int 1))) (eCall cLen (aCons (eVar 0) aNil))))) (sSeq (sAsg (eOp opIxE (eVar 3) (eOp opSub (eOp opIxE (eVar 0) (eVar 2)) (eC (.int 1)))) (gN 4))
    (sSeq (sAsg (eCall cStr (aCons (eOp opIxE (eVar 0) (eOp opAdd (eVar 2) (eC (.int 1)))) aNil)) (gN 5))
    (sSeq (sAsg (eOp opAdd (eOp opAdd (eOp opAdd (eOp opAdd (eVar 1) (eVar 4)) (eC (.str " "))) (eVar 5)) (eC (.str "\n"))) (gN 1))
    (sAsg (eOp opAdd (eVar 2) (eC (.int 2))) (gN 2))))) (sSeq (sAsg (eOp opAdd (eOp opAdd (eOp opAdd (eVar 1) (eC (.str "word "))) (eCall cStr (aCons (eOp opIxE (eVar 0) (eVar 2)) aNil))) (eC (.str "\n"))) (gN 1))
    (sAsg (eOp opAdd (eVar 2) (eC (.int 1))) (gN 2)))) 10000)
    (sRet (eVar 1))))
def m_law_disassemble (K : PySem.W.Frag) : M1.Fn := mkFn 1 6 (b_law_disassemble K)
theorem sc_law_disassemble : FnScope ["_law_memory", "_law_text", "_law_index", "_law_mnemonics_here", "_law_mnemonic", "_law_operand"] ["_law_memory"] (defScope st_law_disassemble) := ⟨rfl, rfl, rfl, by decide +kernel, rfl, by decide +kernel, by decide +kernel⟩
theorem ok_law_disassemble (hy : Hy K mg) {f : Addr} {fd : FuncData} (F : FunD K "_law_disassemble" "_law_disassemble" (defArgs st_law_disassemble) (defBody st_law_disassemble) (defScope st_law_disassemble) [] [] f fd) : FnOk P w K mg base (L2.CX P w) 3 f fd ["_law_memory"] (spM K 1 (m_law_disassemble K)) := by
  have h := fn_mk (P := P) (w := w) (mg := mg) (base := base) (k := 2) (b := b_law_disassemble K) F sc_law_disassemble (fun cdv A outer s H E hr => by
    have hu := hr.units
    refine mss_cons ?_ ?_
    refine ms_par3 rfl sc_law_disassemble.nd (i := 1) (j := 2) (l := 3) rfl rfl rfl (by decide) (by decide) (by decide) rfl rfl rfl ?_ (by rfl)
    refine ma_cons ?_ ?_
    exact me_str
    refine ma_cons ?_ ?_
    exact me_int
    refine ma_cons ?_ ?_
    exact me_call0 (cal_law_all_mnemonics hy) hr (by decide) rfl
    exact ma_nil
    refine mss_cons ?_ ?_
    refine ms_while 10000 hp0 ?_ ?_
    refine mt_cmp opp_lt ?_ ?_ (by first | exact nomark _ | with_unfolding_all rfl)
    exact me_var (pv 2)
    refine me_callB cr_len rfl hy.g_len bt_len ?_
    refine ma_cons ?_ ?_
    exact me_var (pv 0)
    exact ma_nil
    refine mss_one ?_
    refine ms_if ?_ ?_ ?_
    refine mw_pt ?_
    refine mw_and ?_ ?_
    refine mt_chain opp_lt opp_lt ?_ ?_ ?_
    exact me_int
    refine me_ixE (hu1 hu) ?_ ?_
    exact me_var (pv 0)
    exact me_var (pv 2)
    exact me_int
    refine mw_and1 ?_
    refine mt_cmp opp_lt ?_ ?_ (by first | exact nomark _ | with_unfolding_all rfl)
    refine me_op opp_add ?_ ?_
    exact me_var (pv 2)
    exact me_int
    refine me_callB cr_len rfl hy.g_len bt_len ?_
    refine ma_cons ?_ ?_
    exact me_var (pv 0)
    exact ma_nil
    refine mss_cons ?_ ?_
    refine ms_asg ?_ ?_
    refine me_ixE (hu1 hu) ?_ ?_
    exact me_var (pv 3)
    refine me_op opp_sub ?_ ?_
    refine me_ixE (hu1 hu) ?_ ?_
    exact me_var (pv 0)
    exact me_var (pv 2)
    exact me_int
    exact mg_name (pg_name sc_law_disassemble.nd (i := 4) rfl (by first | exact .inl rfl | exact .inr rfl))
    refine mss_cons ?_ ?_
    refine ms_asg ?_ ?_
    refine me_callTy cr_str rfl hy.g_str bt_str ?_
    refine ma_cons ?_ ?_
    refine me_ixE (hu1 hu) ?_ ?_
    exact me_var (pv 0)
    refine me_op opp_add ?_ ?_
    exact me_var (pv 2)
    exact me_int
    exact ma_nil
    exact mg_name (pg_name sc_law_disassemble.nd (i := 5) rfl (by first | exact .inl rfl | exact .inr rfl))
    refine mss_cons ?_ ?_
    refine ms_asg ?_ ?_
    refine me_op opp_add ?_ ?_
    refine me_op opp_add ?_ ?_
    refine me_op opp_add ?_ ?_
    refine me_op opp_add ?_ ?_
    exact me_var (pv 1)
    exact me_var (pv 4)
    exact me_str
    exact me_var (pv 5)
    exact me_str
    exact mg_name (pg_name sc_law_disassemble.nd (i := 1) rfl (by first | exact .inl rfl | exact .inr rfl))
    refine mss_one ?_
    refine ms_asg ?_ ?_
    refine me_op opp_add ?_ ?_
    exact me_var (pv 2)
    exact me_int
    exact mg_name (pg_name sc_law_disassemble.nd (i := 2) rfl (by first | exact .inl rfl | exact .inr rfl))
    refine mss_cons ?_ ?_
    refine ms_asg ?_ ?_
    refine me_op opp_add ?_ ?_
    refine me_op opp_add ?_ ?_
    refine me_op opp_add ?_ ?_
    exact me_var (pv 1)
    exact me_str
    refine me_callTy cr_str rfl hy.g_str bt_str ?_
    refine ma_cons ?_ ?_
    refine me_ixE (hu1 hu) ?_ ?_
    exact me_var (pv 0)
    exact me_var (pv 2)
    exact ma_nil
    exact me_str
    exact mg_name (pg_name sc_law_disassemble.nd (i := 1) rfl (by first | exact .inl rfl | exact .inr rfl))
    refine mss_one ?_
    refine ms_asg ?_ ?_
    refine me_op opp_add ?_ ?_
    exact me_var (pv 2)
    exact me_int
    exact mg_name (pg_name sc_law_disassemble.nd (i := 2) rfl (by first | exact .inl rfl | exact .inr rfl))
    refine mss_one ?_
    refine ms_ret ?_
    exact me_var (pv 1))
  exact h
theorem cal_law_disassemble (hy : Hy K mg) : Cal P w K mg base 3 "_law_disassemble" (m_law_disassemble K) [] := by
  obtain ⟨fd, F⟩ := hy.f_law_disassemble
  exact cal_mk F rfl lenOk_mk (ok_law_disassemble hy F) hy.g_law_disassemble (F.bindsN fun _ _ _ _ _ _ us hl => match us, hl with | [_], _ => rfl)
/-! _law_parse_line -/
def b_law_parse_line (K : PySem.W.Frag) : Sm :=
    (sSeq (sIf (tAndM (tBl (eOp opEq (eSl (eVar 0) (pAt (eNeg (eC (.int 1)))) pNo) (eC (.str ":")))) (tTru (eF (m_law_is_name K) [] (aCons (eSl (eVar 0) pNo (pAt (eNeg (eC (.int 1))))) aNil)))) (sRet (eSl (eVar 0) pNo (pAt (eNeg (eC (.int 1)))))) sNil)
    (sSeq (sAsg (eMb isStr gSplit (eVar 0) (aCons (eC (.str " ")) aNil)) (gN 1))
    (sSeq (sIf (tBl (eOp opNe (eCall cLen (aCons (eVar 1) aNil)) (eC (.int 2)))) (sRet (eC .non)) sNil)
    (sSeq (sAsg (eF (m_law_parse_word K) [] (aCons (eOp opIxE (eVar 1) (eC (.int 1))) aNil)) (gN 2))
    (sSeq (sIf (tBl (eOp opEq (eOp opIxE (eVar 1) (eC (.int 0))) (eC (.str "word")))) (sRet (eIf (tBl (eOp opIsN (eVar 2) (eC .non))) (eC .non) (eLst (aCons (eVar 2) aNil)))) sNil)
    (sSeq (sIf (tOrM (tBl (eOp opNinE (eOp opIxE (eVar 1) (eC (.int 0))) (eF0 (m_law_all_mnemonics K) []))) (tAndM (tBl (eOp opIsN (eVar 2) (eC .non))) (tNotM (tTru (eF (m_law_is_name K) [] (aCons (eOp opIxE (eVar 1) (eC (.int 1))) aNil)))))) (sRet (eC .non)) sNil)
    (sRet (eLst (aCons (eOp opAdd (eMb isLst gIdxL (eF0 (m_law_all_mnemonics K) []) (aCons (eOp opIxE (eVar 1) (eC (.int 0))) aNil)) (eC (.int 1))) (aCons (eIf (tBl (eOp opIsN (eVar 2) (eC .non))) (eOp opIxE (eVar 1) (eC (.int 1))) (eVar 2)) aNil))))))))))
def m_law_parse_line (K : PySem.W.Frag) : M1.Fn := mkFn 1 3 (b_law_parse_line K)
theorem sc_law_parse_line : FnScope ["_law_line", "_law_parts", "_law_word"] ["_law_line"] (defScope st_law_parse_line) := ⟨rfl, rfl, rfl, by decide +kernel, rfl, by decide +kernel, by decide +kernel⟩
theorem ok_law_parse_line (hy : Hy K mg) {f : Addr} {fd : FuncData} (F : FunD K "_law_parse_line" "_law_parse_line" (defArgs st_law_parse_line) (defBody st_law_parse_line) (defScope st_law_parse_line) [] [] f fd) : FnOk P w K mg base (L2.CX P w) 3 f fd ["_law_line"] (spM K 1 (m_law_parse_line K)) := by
  have h := fn_mk (P := P) (w := w) (mg := mg) (base := base) (k := 2) (b := b_law_parse_line K) F sc_law_parse_line (fun cdv A outer s H E hr => by
    have hu := hr.units
    refine mss_cons ?_ ?_
    refine ms_if ?_ ?_ ?_
    refine mw_pt ?_
    refine mw_and ?_ ?_
    refine mt_cmp (opp_eq hu) ?_ ?_ (by first | exact nomark _ | with_unfolding_all rfl)
    refine me_sl ?_ ?_ ?_
    exact me_var (pv 0)
    refine mp_at ?_
    refine me_neg ?_
    exact me_int
    exact mp_no
    exact me_str
    refine mw_and1 ?_
    refine mt_tru ?_
    refine me_call (cal_law_is_name hy) hr (by decide) tk0 rfl ?_
    refine ma_cons ?_ ?_
    refine me_sl ?_ ?_ ?_
    exact me_var (pv 0)
    exact mp_no
    refine mp_at ?_
    refine me_neg ?_
    exact me_int
    exact ma_nil
    refine mss_one ?_
    refine ms_ret ?_
    refine me_sl ?_ ?_ ?_
    exact me_var (pv 0)
    exact mp_no
    refine mp_at ?_
    refine me_neg ?_
    exact me_int
    exact mss_nil
    refine mss_cons ?_ ?_
    refine ms_asg ?_ ?_
    refine me_split ?_ ?_
    exact me_var (pv 0)
    exact me_str
    exact mg_name (pg_name sc_law_parse_line.nd (i := 1) rfl (by first | exact .inl rfl | exact .inr rfl))
    refine mss_cons ?_ ?_
    refine ms_if ?_ ?_ ?_
    refine mt_cmp (opp_ne hu) ?_ ?_ (by first | exact nomark _ | with_unfolding_all rfl)
    refine me_callB cr_len rfl hy.g_len bt_len ?_
    refine ma_cons ?_ ?_
    exact me_var (pv 1)
    exact ma_nil
    exact me_int
    refine mss_one ?_
    refine ms_ret ?_
    exact me_non
    exact mss_nil
    refine mss_cons ?_ ?_
    refine ms_asg ?_ ?_
    refine me_call (cal_law_parse_word hy) hr (by decide) tk0 rfl ?_
    refine ma_cons ?_ ?_
    refine me_ixE (hu1 hu) ?_ ?_
    exact me_var (pv 1)
    exact me_int
    exact ma_nil
    exact mg_name (pg_name sc_law_parse_line.nd (i := 2) rfl (by first | exact .inl rfl | exact .inr rfl))
    refine mss_cons ?_ ?_
    refine ms_if ?_ ?_ ?_
    refine mt_cmp (opp_eq hu) ?_ ?_ (by first | exact nomark _ | with_unfolding_all rfl)
    refine me_ixE (hu1 hu) ?_ ?_
    exact me_var (pv 1)
    exact me_int
    exact me_str
    refine mss_one ?_
    refine ms_ret ?_
    refine me_if ?_ ?_ ?_
    refine mt_cmp opp_isN ?_ ?_ (by first | exact nomark _ | with_unfolding_all rfl)
    exact me_var (pv 2)
    exact me_non
    exact me_non
    refine me_lst ?_
    refine ma_cons ?_ ?_
    exact me_var (pv 2)
    exact ma_nil
    exact mss_nil
    refine mss_cons ?_ ?_
    refine ms_if ?_ ?_ ?_
    refine mw_pt ?_
    refine mw_or ?_ ?_
    refine mt_cmp (opp_ninE (hu1 hu)) ?_ ?_ (by first | exact nomark _ | with_unfolding_all rfl)
    refine me_ixE (hu1 hu) ?_ ?_
    exact me_var (pv 1)
    exact me_int
    exact me_call0 (cal_law_all_mnemonics hy) hr (by decide) rfl
    refine mw_or1 ?_
    refine mw_pt ?_
    refine mw_and ?_ ?_
    refine mt_cmp opp_isN ?_ ?_ (by first | exact nomark _ | with_unfolding_all rfl)
    exact me_var (pv 2)
    exact me_non
    refine mw_and1 ?_
    refine mt_not ?_
    refine mt_tru ?_
    refine me_call (cal_law_is_name hy) hr (by decide) tk0 rfl ?_
    refine ma_cons ?_ ?_
    refine me_ixE (hu1 hu) ?_ ?_
    exact me_var (pv 1)
    exact me_int
    exact ma_nil
    refine mss_one ?_
    refine ms_ret ?_
    exact me_non
    exact mss_nil
    refine mss_one ?_
    refine ms_ret ?_
    refine me_lst ?_
    refine ma_cons ?_ ?_
    refine me_op opp_add ?_ ?_
    refine me_bmL PySem.F.slot_list_index PySem.F.type_list_index mt_idxL ?_ ?_
    exact me_call0 (cal_law_all_mnemonics hy) hr (by decide) rfl
    refine ma_cons ?_ ?_
    refine me_ixE (hu1 hu) ?_ ?_
    exact me_var (pv 1)
    exact me_int
    exact ma_nil
    exact me_int
    refine ma_cons ?_ ?_
    refine me_if ?_ ?_ ?_
    refine mt_cmp opp_isN ?_ ?_ (by first | exact nomark _ | with_unfolding_all rfl)
    exact me_var (pv 2)
    exact me_non
    refine me_ixE (hu1 hu) ?_ ?_
    exact me_var (pv 1)
    exact me_int
    exact me_var (pv 2)
    exact ma_nil)
  exact h
theorem cal_law_parse_line (hy : Hy K mg) : Cal P w K mg base 3 "_law_parse_line" (m_law_parse_line K) [] := by
  obtain ⟨fd, F⟩ := hy.f_law_parse_line
  exact cal_mk F rfl lenOk_mk (ok_law_parse_line hy F) hy.g_law_parse_line (F.bindsN fun _ _ _ _ _ _ us hl => match us, hl with | [_], _ => rfl)
/-! check_memory -/
def b_check_memory (K : PySem.W.Frag) : Sm :=
    (sIf (tNotM (tTru (eF (m_is_words K) [] (aCons (eVar 0) aNil)))) (sRaise0 (He.ga K "InvalidMemory")) sNil)
def m_check_memory (K : PySem.W.Frag) : M1.Fn := mkFn 1 1 (b_check_memory K)
theorem sc_check_memory : FnScope ["memory"] ["memory"] (defScope st_check_memory) := ⟨rfl, rfl, rfl, by decide +kernel, rfl, by decide +kernel, by decide +kernel⟩
theorem ok_check_memory (hy : Hy K mg) {f : Addr} {fd : FuncData} (F : FunD K "check_memory" "check_memory" (defArgs st_check_memory) (defBody st_check_memory) (defScope st_check_memory) [] [] f fd) : FnOk P w K mg base (L2.CX P w) 4 f fd ["memory"] (spM K 1 (m_check_memory K)) := by
  have h := fn_mk (P := P) (w := w) (mg := mg) (base := base) (k := 3) (b := b_check_memory K) F sc_check_memory (fun cdv A outer s H E hr => by
    have hu := hr.units
    refine mss_one ?_
    refine ms_if ?_ ?_ ?_
    refine mt_not ?_
    refine mt_tru ?_
    refine me_call (cal_is_words hy) hr (by decide) tk0 rfl ?_
    refine ma_cons ?_ ?_
    exact me_var (pv 0)
    exact ma_nil
    refine mss_one ?_
    exact ms_raise0 hy.x_InvalidMemory rfl tk0 rfl
    exact mss_nil)
  exact h
theorem cal_check_memory (hy : Hy K mg) : Cal P w K mg base 4 "check_memory" (m_check_memory K) [] := by
  obtain ⟨fd, F⟩ := hy.f_check_memory
  exact cal_mk F rfl lenOk_mk (ok_check_memory hy F) hy.g_check_memory (F.bindsN fun _ _ _ _ _ _ us hl => match us, hl with | [_], _ => rfl)
/-! _law_assemble -/
def b_law_assemble (K : PySem.W.Frag) : Sm :=
    (sSeq (sAsg (eTup (aCons (eMb isStr gSplit (eVar 0) (aCons (eC (.str "\n")) aNil)) (aCons (eLst aNil) (aCons eDic0 (aCons (eLst aNil) aNil))))) (gT 4 (gsCons (gN 1) (gsCons (gN 2) (gsCons (gN 3) (gsCons (gN 4) gsNil))))))
    (sSeq (sFor (iEnumM (aCons (eSl (eVar 1) pNo (pAt (eNeg (eC (.int 1))))) aNil)) (gT 2 (gsCons (gN 5) (gsCons (gN 6) gsNil))) (sSeq (sAsg (eF (m_law_parse_line K) [] (aCons (eVar 6) aNil)) (gN 7))
    (sSeq (sIf (tOrM (tBl (eOp opIsN (eVar 7) (eC .non))) (tAndM (tTru (eCall cIsi (aCons (eVar 7) (aCons (eC (.ty "str")) aNil)))) (tBl (eOp opInE (eVar 7) (eVar 3))))) (sRet (eVar 5)) sNil)
    (sSeq (sIf (tAndM (tTru (eCall cIsi (aCons (eVar 7) (aCons (eC (.ty "list")) aNil)))) (tBl (eOp opGt (eOp opAdd (eCall cLen (aCons (eVar 2) aNil)) (eCall cLen (aCons (eVar 7) aNil))) (eC (.int 4000))))) (sRet (eVar 5)) sNil)
    (sIf (tTru (eCall cIsi (aCons (eVar 7) (aCons (eC (.ty "str")) aNil)))) (sAsgX (eCall cLen (aCons (eVar 2) aNil)) (xSub (eVar 3) (eVar 7) stE)) (sPar2 2 4 (aCons (eOp opAdd (eVar 2) (eVar 7)) (aCons (eOp opAdd (eVar 4) (eOp opMulE (eLst (aCons (eVar 5) aNil)) (eCall cLen (aCons (eVar 7) aNil)))) aNil))))))))
    (sSeq (sIf (tBl (eOp opNe (eOp opIxE (eVar 1) (eNeg (eC (.int 1)))) (eC (.str "")))) (sRet (eOp opSub (eCall cLen (aCons (eVar 1) aNil)) (eC (.int 1)))) sNil)
    (sSeq (sAsg (eLc 10 [5, 9] (iZipM (aCons (eVar 4) (aCons (eVar 2) aNil))) (gT 2 (gsCons (gN 5) (gsCons (gN 9) gsNil))) (tAndM (tTru (eCall cIsi (aCons (eVar 9) (aCons (eC (.ty "str")) aNil)))) (tBl (eOp opNinE (eVar 9) (eVar 3)))) (eVar 5)) (gN 8))
    (sSeq (sIf (tBl (eOp opNe (eVar 8) (eLst aNil))) (sRet (eOp opIxE (eVar 8) (eC (.int 0)))) sNil)
    (sRet (eCall cTup (aCons (eLc 10 [9] (iAny (eVar 2)) (gN 9) tYesM (eIf (tTru (eCall cIsi (aCons (eVar 9) (aCons (eC (.ty "str")) aNil)))) (eOp opIxE (eVar 3) (eVar 9)) (eVar 9))) aNil))))))))
def m_law_assemble (K : PySem.W.Frag) : M1.Fn := mkFn 1 10 (b_law_assemble K)
theorem sc_law_assemble : FnScope ["_law_text", "_law_lines", "_law_cells", "_law_labels", "_law_numbers", "_law_number", "_law_line", "_law_parsed", "_law_undefined", "_law_cell"] ["_law_text"] (defScope st_law_assemble) := ⟨rfl, rfl, rfl, by decide +kernel, rfl, by decide +kernel, by decide +kernel⟩
theorem ok_law_assemble (hy : Hy K mg) {f : Addr} {fd : FuncData} (F : FunD K "_law_assemble" "_law_assemble" (defArgs st_law_assemble) (defBody st_law_assemble) (defScope st_law_assemble) [] [] f fd) : FnOk P w K mg base (L2.CX P w) 4 f fd ["_law_text"] (spM K 1 (m_law_assemble K)) := by
  have h := fn_mk (P := P) (w := w) (mg := mg) (base := base) (k := 3) (b := b_law_assemble K) F sc_law_assemble (fun cdv A outer s H E hr => by
    have hu := hr.units
    refine mss_cons ?_ ?_
    refine ms_asg ?_ ?_
    refine me_tup ?_
    refine ma_cons ?_ ?_
    refine me_split ?_ ?_
    exact me_var (pv 0)
    exact me_str
    refine ma_cons ?_ ?_
    refine me_lst ?_
    exact ma_nil
    refine ma_cons ?_ ?_
    exact me_dic0
    refine ma_cons ?_ ?_
    refine me_lst ?_
    exact ma_nil
    exact ma_nil
    refine mg_tup rfl ?_
    refine mgs_cons ?_ ?_
    exact mg_name (pg_name sc_law_assemble.nd (i := 1) rfl (by first | exact .inl rfl | exact .inr rfl))
    refine mgs_cons ?_ ?_
    exact mg_name (pg_name sc_law_assemble.nd (i := 2) rfl (by first | exact .inl rfl | exact .inr rfl))
    refine mgs_cons ?_ ?_
    exact mg_name (pg_name sc_law_assemble.nd (i := 3) rfl (by first | exact .inl rfl | exact .inr rfl))
    refine mgs_cons ?_ ?_
    exact mg_name (pg_name sc_law_assemble.nd (i := 4) rfl (by first | exact .inl rfl | exact .inr rfl))
    exact mgs_nil
    refine mss_cons ?_ ?_
    refine ms_for hp0 rfl ?_ ?_ ?_
    refine mi_enum rfl hy.g_enumerate ?_
    refine ma_cons ?_ ?_
    refine me_sl ?_ ?_ ?_
    exact me_var (pv 1)
    exact mp_no
    refine mp_at ?_
    refine me_neg ?_
    exact me_int
    exact ma_nil
    refine mg_tup rfl ?_
    refine mgs_cons ?_ ?_
    exact mg_name (pg_name sc_law_assemble.nd (i := 5) rfl (by first | exact .inl rfl | exact .inr rfl))
    refine mgs_cons ?_ ?_
    exact mg_name (pg_name sc_law_assemble.nd (i := 6) rfl (by first | exact .inl rfl | exact .inr rfl))
    exact mgs_nil
    refine mss_cons ?_ ?_
    refine ms_asg ?_ ?_
    refine me_call (cal_law_parse_line hy) hr (by decide) tk0 rfl ?_
    refine ma_cons ?_ ?_
    exact me_var (pv 6)
    exact ma_nil
    exact mg_name (pg_name sc_law_assemble.nd (i := 7) rfl (by first | exact .inl rfl | exact .inr rfl))
    refine mss_cons ?_ ?_
    refine ms_if ?_ ?_ ?_
    refine mw_pt ?_
    refine mw_or ?_ ?_
    refine mt_cmp opp_isN ?_ ?_ (by first | exact nomark _ | with_unfolding_all rfl)
    exact me_var (pv 7)
    exact me_non
    refine mw_or1 ?_
    refine mw_pt ?_
    refine mw_and ?_ ?_
    refine mt_tru ?_
    refine me_callB cr_isi rfl hy.g_isinstance bt_isinstance ?_
    refine ma_cons ?_ ?_
    exact me_var (pv 7)
    refine ma_cons ?_ ?_
    exact me_ty rfl hy.g_str bt_str
    exact ma_nil
    refine mw_and1 ?_
    refine mt_cmp (opp_inE (hu1 hu)) ?_ ?_ (by first | exact nomark _ | with_unfolding_all rfl)
    exact me_var (pv 7)
    exact me_var (pv 3)
    refine mss_one ?_
    refine ms_ret ?_
    exact me_var (pv 5)
    exact mss_nil
    refine mss_cons ?_ ?_
    refine ms_if ?_ ?_ ?_
    refine mw_pt ?_
    refine mw_and ?_ ?_
    refine mt_tru ?_
    refine me_callB cr_isi rfl hy.g_isinstance bt_isinstance ?_
    refine ma_cons ?_ ?_
    exact me_var (pv 7)
    refine ma_cons ?_ ?_
    exact me_ty rfl hy.g_list bt_list
    exact ma_nil
    refine mw_and1 ?_
    refine mt_cmp opp_gt ?_ ?_ (by first | exact nomark _ | with_unfolding_all rfl)
    refine me_op opp_add ?_ ?_
    refine me_callB cr_len rfl hy.g_len bt_len ?_
    refine ma_cons ?_ ?_
    exact me_var (pv 2)
    exact ma_nil
    refine me_callB cr_len rfl hy.g_len bt_len ?_
    refine ma_cons ?_ ?_
    exact me_var (pv 7)
    exact ma_nil
    exact me_int
    refine mss_one ?_
    refine ms_ret ?_
    exact me_var (pv 5)
    exact mss_nil
    refine mss_one ?_
    refine ms_if ?_ ?_ ?_
    refine mt_tru ?_
    refine me_callB cr_isi rfl hy.g_isinstance bt_isinstance ?_
    refine ma_cons ?_ ?_
    exact me_var (pv 7)
    refine ma_cons ?_ ?_
    exact me_ty rfl hy.g_str bt_str
    exact ma_nil
    refine mss_one ?_
    refine ms_asgX ?_ ?_
    refine me_callB cr_len rfl hy.g_len bt_len ?_
    refine ma_cons ?_ ?_
    exact me_var (pv 2)
    exact ma_nil
    refine mx_sub ?_ ?_ (set_lstE (hu1 hu))
    exact me_var (pv 3)
    exact me_var (pv 7)
    refine mss_one ?_
    refine ms_par2 rfl sc_law_assemble.nd (i := 2) (j := 4) rfl rfl (by decide) rfl rfl ?_ (by rfl)
    refine ma_cons ?_ ?_
    refine me_op opp_add ?_ ?_
    exact me_var (pv 2)
    exact me_var (pv 7)
    refine ma_cons ?_ ?_
    refine me_op opp_add ?_ ?_
    exact me_var (pv 4)
    refine me_op opp_mulE ?_ ?_
    refine me_lst ?_
    refine ma_cons ?_ ?_
    exact me_var (pv 5)
    exact ma_nil
    refine me_callB cr_len rfl hy.g_len bt_len ?_
    refine ma_cons ?_ ?_
    exact me_var (pv 7)
    exact ma_nil
    exact ma_nil
    refine mss_cons ?_ ?_
    refine ms_if ?_ ?_ ?_
    refine mt_cmp (opp_ne hu) ?_ ?_ (by first | exact nomark _ | with_unfolding_all rfl)
    refine me_ixE (hu1 hu) ?_ ?_
    exact me_var (pv 1)
    refine me_neg ?_
    exact me_int
    exact me_str
    refine mss_one ?_
    refine ms_ret ?_
    refine me_op opp_sub ?_ ?_
    refine me_callB cr_len rfl hy.g_len bt_len ?_
    refine ma_cons ?_ ?_
    exact me_var (pv 1)
    exact ma_nil
    exact me_int
    exact mss_nil
    refine mss_cons ?_ ?_
    refine ms_lc rfl rfl tk0 rfl sc_law_assemble.nd rfl (i := 8) rfl rfl (sw_true rfl rfl rfl (by kernel_rfl)) ?_ (own := [("_law_number", 5), ("_law_cell", 9)]) (blkOk_by (by kernel_rfl)) ?_ ?_ ?_
    refine mi_zip rfl hy.g_zip ?_
    refine ma_cons ?_ ?_
    exact me_var (pv 4)
    refine ma_cons ?_ ?_
    exact me_var (pv 2)
    exact ma_nil
    intro s H C cl fp xe
    refine mc_tup rfl ?_
    refine mcs_cons ?_ ?_
    exact mc_name (pg_name sc_law_assemble.nd (i := 5) rfl (by first | exact .inl rfl | exact .inr rfl)) (by decide)
    refine mcs_cons ?_ ?_
    exact mc_name (pg_name sc_law_assemble.nd (i := 9) rfl (by first | exact .inl rfl | exact .inr rfl)) (by decide)
    exact mcs_nil
    intro s H C cl fp xe Wb tb
    refine mts_one ?_
    refine mw_pt ?_
    refine mw_and ?_ ?_
    refine mt_tru ?_
    refine me_callB cr_isi rfl hy.g_isinstance bt_isinstance ?_
    refine ma_cons ?_ ?_
    exact me_var (pv 9)
    refine ma_cons ?_ ?_
    exact me_ty rfl hy.g_str bt_str
    exact ma_nil
    refine mw_and1 ?_
    refine mt_cmp (opp_ninE (hu1 hu)) ?_ ?_ (by first | exact nomark _ | with_unfolding_all rfl)
    exact me_var (pv 9)
    exact me_var (pv 3)
    intro s H C cl fp xe Wb tb
    exact me_var (pv 5)
    refine mss_cons ?_ ?_
    refine ms_if ?_ ?_ ?_
    refine mt_cmp (opp_ne hu) ?_ ?_ (by first | exact nomark _ | with_unfolding_all rfl)
    exact me_var (pv 8)
    refine me_lst ?_
    exact ma_nil
    refine mss_one ?_
    refine ms_ret ?_
    refine me_ixE (hu1 hu) ?_ ?_
    exact me_var (pv 8)
    exact me_int
    exact mss_nil
    refine mss_one ?_
    refine ms_ret ?_
    refine me_callTy cr_tup rfl hy.g_tuple bt_tuple ?_
    refine ma_cons ?_ ?_
    refine me_lc rfl rfl tk0 rfl sc_law_assemble.nd rfl ?_ (own := [("_law_cell", 9)]) (blkOk_by (by kernel_rfl)) ?_ ?_ ?_
    refine mi_any ?_
    exact me_var (pv 2)
    intro s H C cl fp xe
    exact mc_name (pg_name sc_law_assemble.nd (i := 9) rfl (by first | exact .inl rfl | exact .inr rfl)) (by decide)
    intro s H C cl fp xe Wb tb
    exact mts_nil
    intro s H C cl fp xe Wb tb
    refine me_if ?_ ?_ ?_
    refine mt_tru ?_
    refine me_callB cr_isi rfl hy.g_isinstance bt_isinstance ?_
    refine ma_cons ?_ ?_
    exact me_var (pv 9)
    refine ma_cons ?_ ?_
    exact me_ty rfl hy.g_str bt_str
    exact ma_nil
    refine me_ixE (hu1 hu) ?_ ?_
    exact me_var (pv 3)
    exact me_var (pv 9)
    exact me_var (pv 9)
    exact ma_nil)
  exact h
theorem cal_law_assemble (hy : Hy K mg) : Cal P w K mg base 4 "_law_assemble" (m_law_assemble K) [] := by
  obtain ⟨fd, F⟩ := hy.f_law_assemble
  exact cal_mk F rfl lenOk_mk (ok_law_assemble hy F) hy.g_law_assemble (F.bindsN fun _ _ _ _ _ _ us hl => match us, hl with | [_], _ => rfl)
/-! _law_result -/
def b_law_result (K : PySem.W.Frag) : Sm :=
    (sTryF 1 (sRet (eF (m_assemble K) [] (aCons (eVar 0) aNil))) (ans_ParseError K) (He.ga K "ParseError") "line")
def m_law_result (K : PySem.W.Frag) : M1.Fn := mkFn 1 2 (b_law_result K)
theorem sc_law_result : FnScope ["_law_text", "error"] ["_law_text"] (defScope st_law_result) := ⟨rfl, rfl, rfl, by decide +kernel, rfl, by decide +kernel, by decide +kernel⟩
theorem ok_law_result (hy : Hy K mg) {f : Addr} {fd : FuncData} (F : FunD K "_law_result" "_law_result" (defArgs st_law_result) (defBody st_law_result) (defScope st_law_result) [] [] f fd) : FnOk P w K mg base (L2.CX P w) 4 f fd ["_law_text"] (spM K 1 (m_law_result K)) := by
  have h := fn_mk (P := P) (w := w) (mg := mg) (base := base) (k := 3) (b := b_law_result K) F sc_law_result (fun cdv A outer s H E hr => by
    have hu := hr.units
    refine mss_one ?_
    refine ms_try_f rfl rfl sc_law_result.nd (i := 1) rfl rfl ⟨rfl, by decide, .inl hy.g_ParseError⟩ tk0 (ans_ParseError_ok hy) hy.xf_ParseError hy.xn_ParseError_line ?_ (fun a oe pn => pv 1)
    intro W pn xe tw hw
    refine mss_one ?_
    refine ms_ret ?_
    refine me_call (cal_assemble hy) hr (by decide) tw rfl ?_
    refine ma_cons ?_ ?_
    exact me_var (pv 0)
    exact ma_nil)
  exact h
theorem cal_law_result (hy : Hy K mg) : Cal P w K mg base 4 "_law_result" (m_law_result K) [] := by
  obtain ⟨fd, F⟩ := hy.f_law_result
  exact cal_mk F rfl lenOk_mk (ok_law_result hy F) hy.g_law_result (F.bindsN fun _ _ _ _ _ _ us hl => match us, hl with | [_], _ => rfl)
/-! disassemble -/
def b_disassemble (K : PySem.W.Frag) : Sm :=
    (sSeq (sExpr (eF (m_check_memory K) [] (aCons (eVar 0) aNil)))
    (sSeq (sPar2 1 2 (aCons (eLst aNil) (aCons (eC (.int 0)) aNil)))
    (sSeq (whileN (tBl (eOp opLt (eVar 2) (eCall cLen (aCons (eVar 0) aNil)))) (sIf (tAndM (tBl (eCh opLe opLe (eC (.int 1)) (eOp opIxE (eVar 0) (eVar 2)) (eCall cLen (aCons (eC (.tup (ts_MNEMONICS.map .str))) aNil)))) (tBl (eOp opLt (eOp opAdd (eVar 2) (eC (.int 1))) (eCall cLen (aCons (eVar 0) aNil))))) (sSeq (sExpr (eMb isLst gApp (eVar 1) (aCons (eJs [(eFmt (eOp opIxE (eC (.tup (ts_MNEMONICS.map .str))) (eOp opSub (eOp opIxE (eVar 0) (eVar 2)) (eC (.int 1))))), (eC (.str " ")), (eFmt (eOp opIxE (eVar 0) (eOp opAdd (eVar 2) (eC (.int 1))))), (eC (.str "\n"))]) aNil)))
    (sAug 2 (eC (.int 2)) opIAdd)) (sSeq (sExpr (eMb isLst gApp (eVar 1) (aCons (eJs [(eC (.str "word ")), (eFmt (eOp opIxE (eVar 0) (eVar 2))), (eC (.str "\n"))]) aNil)))
    (sAug 2 (eC (.int 1)) opIAdd))) 10000)
    (sRet (eMb isStr gJoin (eC (.str "")) (aCons (eVar 1) aNil))))))
def m_disassemble (K : PySem.W.Frag) : M1.Fn := mkFn 1 3 (b_disassemble K)
theorem sc_disassemble : FnScope ["memory", "lines", "index"] ["memory"] (defScope st_disassemble) := ⟨rfl, rfl, rfl, by decide +kernel, rfl, by decide +kernel, by decide +kernel⟩
theorem ok_disassemble (hy : Hy K mg) {f : Addr} {fd : FuncData} (F : FunD K "disassemble" "disassemble" (defArgs st_disassemble) (defBody st_disassemble) (defScope st_disassemble) [] [] f fd) : FnOk P w K mg base (L2.CX P w) 5 f fd ["memory"] (spM K 1 (m_disassemble K)) := by
  have h := fn_mk (P := P) (w := w) (mg := mg) (base := base) (k := 4) (b := b_disassemble K) F sc_disassemble (fun cdv A outer s H E hr => by
    have hu := hr.units
    refine mss_cons ?_ ?_
    refine ms_expr ?_
    refine me_call (cal_check_memory hy) hr (by decide) tk0 rfl ?_
    refine ma_cons ?_ ?_
    exact me_var (pv 0)
    exact ma_nil
    refine mss_cons ?_ ?_
    refine ms_par2 rfl sc_disassemble.nd (i := 1) (j := 2) rfl rfl (by decide) rfl rfl ?_ (by rfl)
    refine ma_cons ?_ ?_
    refine me_lst ?_
    exact ma_nil
    refine ma_cons ?_ ?_
    exact me_int
    exact ma_nil
    refine mss_cons ?_ ?_
    refine ms_while 10000 hp0 ?_ ?_
    refine mt_cmp opp_lt ?_ ?_ (by first | exact nomark _ | with_unfolding_all rfl)
    exact me_var (pv 2)
    refine me_callB cr_len rfl hy.g_len bt_len ?_
    refine ma_cons ?_ ?_
    exact me_var (pv 0)
    exact ma_nil
    refine mss_one ?_
    refine ms_if ?_ ?_ ?_
    refine mw_pt ?_
    refine mw_and ?_ ?_
    refine mt_chain opp_le opp_le ?_ ?_ ?_
    exact me_int
    refine me_ixE (hu1 hu) ?_ ?_
    exact me_var (pv 0)
    exact me_var (pv 2)
    refine me_callB cr_len rfl hy.g_len bt_len ?_
    refine ma_cons ?_ ?_
    exact me_gts rfl hy.g_MNEMONICS hy.t_MNEMONICS
    exact ma_nil
    refine mw_and1 ?_
    refine mt_cmp opp_lt ?_ ?_ (by first | exact nomark _ | with_unfolding_all rfl)
    refine me_op opp_add ?_ ?_
    exact me_var (pv 2)
    exact me_int
    refine me_callB cr_len rfl hy.g_len bt_len ?_
    refine ma_cons ?_ ?_
    exact me_var (pv 0)
    exact ma_nil
    refine mss_cons ?_ ?_
    refine ms_expr ?_
    refine me_bmL PySem.F.slot_list_append PySem.F.type_list_append mt_app ?_ ?_
    exact me_var (pv 1)
    refine ma_cons ?_ ?_
    refine me_js ?_
    refine MJ.cons ?_ ?_
    refine me_fmt ?_
    refine me_ixE (hu1 hu) ?_ ?_
    exact me_gts rfl hy.g_MNEMONICS hy.t_MNEMONICS
    refine me_op opp_sub ?_ ?_
    refine me_ixE (hu1 hu) ?_ ?_
    exact me_var (pv 0)
    exact me_var (pv 2)
    exact me_int
    refine MJ.cons ?_ ?_
    exact me_str
    refine MJ.cons ?_ ?_
    refine me_fmt ?_
    refine me_ixE (hu1 hu) ?_ ?_
    exact me_var (pv 0)
    refine me_op opp_add ?_ ?_
    exact me_var (pv 2)
    exact me_int
    refine MJ.cons ?_ ?_
    exact me_str
    exact MJ.nil
    exact ma_nil
    refine mss_one ?_
    refine ms_aug sc_disassemble.nd (n := 2) rfl (by first | exact .inl rfl | exact .inr rfl) ?_ ipp_add
    exact me_int
    refine mss_cons ?_ ?_
    refine ms_expr ?_
    refine me_bmL PySem.F.slot_list_append PySem.F.type_list_append mt_app ?_ ?_
    exact me_var (pv 1)
    refine ma_cons ?_ ?_
    refine me_js ?_
    refine MJ.cons ?_ ?_
    exact me_str
    refine MJ.cons ?_ ?_
    refine me_fmt ?_
    refine me_ixE (hu1 hu) ?_ ?_
    exact me_var (pv 0)
    exact me_var (pv 2)
    refine MJ.cons ?_ ?_
    exact me_str
    exact MJ.nil
    exact ma_nil
    refine mss_one ?_
    refine ms_aug sc_disassemble.nd (n := 2) rfl (by first | exact .inl rfl | exact .inr rfl) ?_ ipp_add
    exact me_int
    refine mss_one ?_
    refine ms_ret ?_
    refine me_join ?_ ?_
    exact me_str
    exact me_var (pv 1))
  exact h
theorem cal_disassemble (hy : Hy K mg) : Cal P w K mg base 5 "disassemble" (m_disassemble K) [] := by
  obtain ⟨fd, F⟩ := hy.f_disassemble
  exact cal_mk F rfl lenOk_mk (ok_disassemble hy F) hy.g_disassemble (F.bindsN fun _ _ _ _ _ _ us hl => match us, hl with | [_], _ => rfl)
/-! _law_limits_right -/
def b_law_limits_right (K : PySem.W.Frag) : Sm :=
    (sSeq (sAsg (eOp opMulE (eC (.str "word 9999\n")) (eC (.int 4000))) (gN 0))
    (sSeq (sIf (tOrM (tBl (eOp opNe (eCall cLen (aCons (eF (m_assemble K) [] (aCons (eVar 0) aNil)) aNil)) (eC (.int 4000)))) (tBl (eOp opNe (eF (m_law_result K) [] (aCons (eOp opAdd (eVar 0) (eC (.str "end:\n"))) aNil)) (eF (m_assemble K) [] (aCons (eVar 0) aNil))))) (sRet (eC (.bl false))) sNil)
    (sSeq (sIf (tOrM (tBl (eOp opNe (eF (m_law_result K) [] (aCons (eOp opAdd (eVar 0) (eC (.str "word 1\n"))) aNil)) (eC (.int 4000)))) (tBl (eOp opNe (eF (m_law_result K) [] (aCons (eOp opAdd (eOp opMulE (eC (.str "word 1\n")) (eC (.int 3999))) (eC (.str "set 1\n"))) aNil)) (eC (.int 3999))))) (sRet (eC (.bl false))) sNil)
    (sSeq (sIf (tTru (eCall cAny (aCons (eLc 2 [1] (iAny (eTup (aCons (eC .non) (aCons (eC (.int 5)) (aCons (eLst (aCons (eC (.str "set 1")) aNil)) (aCons eDic0 aNil)))))) (gN 1) tYesM (eOp opNe (eF (m_law_result K) [] (aCons (eVar 1) aNil)) (eC (.int 0)))) aNil))) (sRet (eC (.bl false))) sNil)
    (sSeq (sFor (iAny (eTup (aCons (eC .non) (aCons (eLst (aCons (eC (.int 1)) aNil)) (aCons (eTup (aCons (eC (.int 10000)) aNil)) (aCons (eTup (aCons (eC (.bl true)) aNil)) (aCons (eTup (aCons (eNeg (eC (.int 1))) aNil)) (aCons (eTup (aCons (eC (.str "1")) aNil)) (aCons (eC (.int 5)) aNil))))))))) (gN 1) (sTry (sSeq (sExpr (eF (m_disassemble K) [] (aCons (eVar 1) aNil)))
    (sRet (eC (.bl false)))) (ans_InvalidMemory K) (sAsg (eC (.str "")) (gN 0))))
    (sRet (eAnd (eOp opEq (eF (m_assemble K) [] (aCons (eC (.str "")) aNil)) (eTup aNil)) (eOp opEq (eF (m_disassemble K) [] (aCons (eTup aNil) aNil)) (eC (.str ""))))))))))
def m_law_limits_right (K : PySem.W.Frag) : M1.Fn := mkFn 0 2 (b_law_limits_right K)
theorem sc_law_limits_right : FnScope ["_law_full", "_law_value_here"] [] (defScope st_law_limits_right) := ⟨rfl, rfl, rfl, by decide +kernel, rfl, by decide +kernel, by decide +kernel⟩
theorem ok_law_limits_right (hy : Hy K mg) {f : Addr} {fd : FuncData} (F : FunD K "_law_limits_right" "_law_limits_right" (defArgs st_law_limits_right) (defBody st_law_limits_right) (defScope st_law_limits_right) [] [] f fd) : FnOk P w K mg base (L2.CX P w) 6 f fd [] (spM K 0 (m_law_limits_right K)) := by
  have h := fn_mk (P := P) (w := w) (mg := mg) (base := base) (k := 5) (b := b_law_limits_right K) F sc_law_limits_right (fun cdv A outer s H E hr => by
    have hu := hr.units
    refine mss_cons ?_ ?_
    refine ms_asg ?_ ?_
    refine me_op opp_mulE ?_ ?_
    exact me_str
    exact me_int
    exact mg_name (pg_name sc_law_limits_right.nd (i := 0) rfl (by first | exact .inl rfl | exact .inr rfl))
    refine mss_cons ?_ ?_
    refine ms_if ?_ ?_ ?_
    refine mw_pt ?_
    refine mw_or ?_ ?_
    refine mt_cmp (opp_ne hu) ?_ ?_ (by first | exact nomark _ | with_unfolding_all rfl)
    refine me_callB cr_len rfl hy.g_len bt_len ?_
    refine ma_cons ?_ ?_
    refine me_call (cal_assemble hy) hr (by decide) tk0 rfl ?_
    refine ma_cons ?_ ?_
    exact me_var (pv 0)
    exact ma_nil
    exact ma_nil
    exact me_int
    refine mw_or1 ?_
    refine mt_cmp (opp_ne hu) ?_ ?_ (by first | exact nomark _ | with_unfolding_all rfl)
    refine me_call (cal_law_result hy) hr (by decide) tk0 rfl ?_
    refine ma_cons ?_ ?_
    refine me_op opp_add ?_ ?_
    exact me_var (pv 0)
    exact me_str
    exact ma_nil
    refine me_call (cal_assemble hy) hr (by decide) tk0 rfl ?_
    refine ma_cons ?_ ?_
    exact me_var (pv 0)
    exact ma_nil
    refine mss_one ?_
    refine ms_ret ?_
    exact me_bl
    exact mss_nil
    refine mss_cons ?_ ?_
    refine ms_if ?_ ?_ ?_
    refine mw_pt ?_
    refine mw_or ?_ ?_
    refine mt_cmp (opp_ne hu) ?_ ?_ (by first | exact nomark _ | with_unfolding_all rfl)
    refine me_call (cal_law_result hy) hr (by decide) tk0 rfl ?_
    refine ma_cons ?_ ?_
    refine me_op opp_add ?_ ?_
    exact me_var (pv 0)
    exact me_str
    exact ma_nil
    exact me_int
    refine mw_or1 ?_
    refine mt_cmp (opp_ne hu) ?_ ?_ (by first | exact nomark _ | with_unfolding_all rfl)
    refine me_call (cal_law_result hy) hr (by decide) tk0 rfl ?_
    refine ma_cons ?_ ?_
    refine me_op opp_add ?_ ?_
    refine me_op opp_mulE ?_ ?_
    exact me_str
    exact me_int
    exact me_str
    exact ma_nil
    exact me_int
    refine mss_one ?_
    refine ms_ret ?_
    exact me_bl
    exact mss_nil
    refine mss_cons ?_ ?_
    refine ms_if ?_ ?_ ?_
    refine mt_tru ?_
    refine me_callB (cr_anyM rfl) rfl hy.g_any bt_any ?_
    refine ma_cons ?_ ?_
    refine me_lc rfl rfl tk0 rfl sc_law_limits_right.nd rfl ?_ (own := [("_law_value_here", 1)]) (blkOk_by (by kernel_rfl)) ?_ ?_ ?_
    refine mi_any ?_
    refine me_tup ?_
    refine ma_cons ?_ ?_
    exact me_non
    refine ma_cons ?_ ?_
    exact me_int
    refine ma_cons ?_ ?_
    refine me_lst ?_
    refine ma_cons ?_ ?_
    exact me_str
    exact ma_nil
    refine ma_cons ?_ ?_
    exact me_dic0
    exact ma_nil
    intro s H C cl fp xe
    exact mc_name (pg_name sc_law_limits_right.nd (i := 1) rfl (by first | exact .inl rfl | exact .inr rfl)) (by decide)
    intro s H C cl fp xe Wb tb
    exact mts_nil
    intro s H C cl fp xe Wb tb
    refine me_cmp (opp_ne hu) ?_ ?_ (by first | exact nomark _ | with_unfolding_all rfl)
    refine me_call (cal_law_result hy) hr (by decide) tb rfl ?_
    refine ma_cons ?_ ?_
    exact me_var (pv 1)
    exact ma_nil
    exact me_int
    exact ma_nil
    refine mss_one ?_
    refine ms_ret ?_
    exact me_bl
    exact mss_nil
    refine mss_cons ?_ ?_
    refine ms_for hp0 rfl ?_ ?_ ?_
    refine mi_any ?_
    refine me_tup ?_
    refine ma_cons ?_ ?_
    exact me_non
    refine ma_cons ?_ ?_
    refine me_lst ?_
    refine ma_cons ?_ ?_
    exact me_int
    exact ma_nil
    refine ma_cons ?_ ?_
    refine me_tup ?_
    refine ma_cons ?_ ?_
    exact me_int
    exact ma_nil
    refine ma_cons ?_ ?_
    refine me_tup ?_
    refine ma_cons ?_ ?_
    exact me_bl
    exact ma_nil
    refine ma_cons ?_ ?_
    refine me_tup ?_
    refine ma_cons ?_ ?_
    refine me_neg ?_
    exact me_int
    exact ma_nil
    refine ma_cons ?_ ?_
    refine me_tup ?_
    refine ma_cons ?_ ?_
    exact me_str
    exact ma_nil
    refine ma_cons ?_ ?_
    exact me_int
    exact ma_nil
    exact mg_name (pg_name sc_law_limits_right.nd (i := 1) rfl (by first | exact .inl rfl | exact .inr rfl))
    refine mss_one ?_
    refine ms_try rfl rfl ⟨rfl, by decide, .inl hy.g_InvalidMemory⟩ tk0 (ans_InvalidMemory_ok hy) ?_ ?_
    intro W pn xe tw hw
    refine mss_cons ?_ ?_
    refine ms_expr ?_
    refine me_call (cal_disassemble hy) hr (by decide) tw rfl ?_
    refine ma_cons ?_ ?_
    exact me_var (pv 1)
    exact ma_nil
    refine mss_one ?_
    refine ms_ret ?_
    exact me_bl
    intro a oe pn
    refine mss_one ?_
    refine ms_asg ?_ ?_
    exact me_str
    exact mg_name (pg_name sc_law_limits_right.nd (i := 0) rfl (by first | exact .inl rfl | exact .inr rfl))
    refine mss_one ?_
    refine ms_ret ?_
    refine me_and ?_ ?_
    refine me_cmp (opp_eq hu) ?_ ?_ (by first | exact nomark _ | with_unfolding_all rfl)
    refine me_call (cal_assemble hy) hr (by decide) tk0 rfl ?_
    refine ma_cons ?_ ?_
    exact me_str
    exact ma_nil
    refine me_tup ?_
    exact ma_nil
    refine me_one ?_
    refine me_cmp (opp_eq hu) ?_ ?_ (by first | exact nomark _ | with_unfolding_all rfl)
    refine me_call (cal_disassemble hy) hr (by decide) tk0 rfl ?_
    refine ma_cons ?_ ?_
    refine me_tup ?_
    exact ma_nil
    exact ma_nil
    exact me_str)
  exact h
theorem cal_law_limits_right (hy : Hy K mg) : Cal P w K mg base 6 "_law_limits_right" (m_law_limits_right K) [] := by
  obtain ⟨fd, F⟩ := hy.f_law_limits_right
  exact cal_mk F rfl lenOk_mk (ok_law_limits_right hy F) hy.g_law_limits_right (F.bindsN fun _ _ _ _ _ _ us hl => match us, hl with | [], _ => rfl)
/-! law -/
def b_law (K : PySem.W.Frag) : Sm :=
    (sSeq (sFor (iRng1 (aCons (eC (.int 6)) aNil)) (gN 1) (sSeq (sAsg (eF (m_law_value K) [] (aCons (eVar 0) (aCons (eOp opAdd (eC (.int 20)) (eVar 1)) aNil))) (gN 2))
    (sSeq (sAsg (eLc 11 [9] (iRng1 (aCons (eOp opMod (eVar 2) (eC (.int 40))) aNil)) (gN 9) tYesM (eOp opFdiv (eF (m_law_value K) [] (aCons (eVar 0) (aCons (eOp opAdd (eOp opAdd (eC (.int 100)) (eOp opMulE (eC (.int 60)) (eVar 1))) (eVar 9)) aNil))) (eC (.int 7)))) (gN 3))
    (sSeq (sAsg (eCall cTup (aCons (eLc 11 [9, 10] (iEnumM (aCons (eVar 3) aNil)) (gT 2 (gsCons (gN 9) (gsCons (gN 10) gsNil))) tYesM (eOp opMod (eVar 10) (eOp opIxE (eTup (aCons (eC (.int 26)) (aCons (eC (.int 10000)) (aCons (eC (.int 18)) aNil)))) (eOp opMod (eOp opAdd (eVar 1) (eVar 9)) (eC (.int 3)))))) aNil)) (gN 4))
    (sSeq (sAsg (eF (m_law_disassemble K) [] (aCons (eVar 4) aNil)) (gN 5))
    (sSeq (sIf (tOrM (tBl (eOp opNe (eF (m_disassemble K) [] (aCons (eVar 4) aNil)) (eVar 5))) (tBl (eOp opNe (eF (m_assemble K) [] (aCons (eVar 5) aNil)) (eVar 4)))) (sRet (eC (.bl false))) sNil)
    (sFor (iRng1 (aCons (eC (.int 6)) aNil)) (gN 6) (sSeq (sAsg (eF (m_law_changed K) [] (aCons (eVar 5) (aCons (eF (m_law_value K) [] (aCons (eVar 0) (aCons (eOp opAdd (eOp opAdd (eC (.int 600)) (eOp opMulE (eC (.int 8)) (eVar 1))) (eVar 6)) aNil))) aNil))) (gN 7))
    (sSeq (sIf (tBl (eOp opNe (eF (m_law_result K) [] (aCons (eVar 7) aNil)) (eF (m_law_assemble K) [] (aCons (eVar 7) aNil)))) (sRet (eC (.bl false))) sNil)
    (sSeq (sAsg (eF (m_law_changed K) [] (aCons (eVar 7) (aCons (eF (m_law_value K) [] (aCons (eVar 0) (aCons (eOp opAdd (eOp opAdd (eC (.int 700)) (eOp opMulE (eC (.int 8)) (eVar 1))) (eVar 6)) aNil))) aNil))) (gN 8))
    (sIf (tBl (eOp opNe (eF (m_law_result K) [] (aCons (eVar 8) aNil)) (eF (m_law_assemble K) [] (aCons (eVar 8) aNil)))) (sRet (eC (.bl false))) sNil)))))))))))
    (sRet (eOr (eOp opGt (eOp opMod (eF (m_law_value K) [] (aCons (eVar 0) (aCons (eC (.int 5)) aNil))) (eC (.int 4))) (eC (.int 0))) (eF0 (m_law_limits_right K) []))))
def m_law (K : PySem.W.Frag) : M1.Fn := mkFn 1 11 (b_law K)
theorem sc_law : FnScope ["_law_script", "_law_number", "_law_seed", "_law_values", "_law_memory", "_law_text", "_law_variant", "_law_once", "_law_twice", "_law_index", "_law_value_here"] ["_law_script"] (defScope st_law) := ⟨rfl, rfl, rfl, by decide +kernel, rfl, by decide +kernel, by decide +kernel⟩
theorem ok_law (hy : Hy K mg) {f : Addr} {fd : FuncData} (F : FunD K "law" "law" (defArgs st_law) (defBody st_law) (defScope st_law) [] [] f fd) : FnOk P w K mg base (L2.CX P w) 7 f fd ["_law_script"] (spM K 1 (m_law K)) := by
  have h := fn_mk (P := P) (w := w) (mg := mg) (base := base) (k := 6) (b := b_law K) F sc_law (fun cdv A outer s H E hr => by
    have hu := hr.units
    refine mss_cons ?_ ?_
    refine ms_for hp0 rfl ?_ ?_ ?_
    refine mi_rng1 rfl hy.g_range ?_
    refine ma_cons ?_ ?_
    exact me_int
    exact ma_nil
    exact mg_name (pg_name sc_law.nd (i := 1) rfl (by first | exact .inl rfl | exact .inr rfl))
    refine mss_cons ?_ ?_
    refine ms_asg ?_ ?_
    refine me_call (cal_law_value hy) hr (by decide) tk0 rfl ?_
    refine ma_cons ?_ ?_
    exact me_var (pv 0)
    refine ma_cons ?_ ?_
    refine me_op opp_add ?_ ?_
    exact me_int
    exact me_var (pv 1)
    exact ma_nil
    exact mg_name (pg_name sc_law.nd (i := 2) rfl (by first | exact .inl rfl | exact .inr rfl))
    refine mss_cons ?_ ?_
    refine ms_lc rfl rfl tk0 rfl sc_law.nd rfl (i := 3) rfl rfl (sw_true rfl rfl rfl (by kernel_rfl)) ?_ (own := [("_law_index", 9)]) (blkOk_by (by kernel_rfl)) ?_ ?_ ?_
    refine mi_rng1 rfl hy.g_range ?_
    refine ma_cons ?_ ?_
    refine me_op opp_mod ?_ ?_
    exact me_var (pv 2)
    exact me_int
    exact ma_nil
    intro s H C cl fp xe
    exact mc_name (pg_name sc_law.nd (i := 9) rfl (by first | exact .inl rfl | exact .inr rfl)) (by decide)
    intro s H C cl fp xe Wb tb
    exact mts_nil
    intro s H C cl fp xe Wb tb
    refine me_op opp_fdiv ?_ ?_
    refine me_call (cal_law_value hy) hr (by decide) tb rfl ?_
    refine ma_cons ?_ ?_
    exact me_var (pv 0)
    refine ma_cons ?_ ?_
    refine me_op opp_add ?_ ?_
    refine me_op opp_add ?_ ?_
    exact me_int
    refine me_op opp_mulE ?_ ?_
    exact me_int
    exact me_var (pv 1)
    exact me_var (pv 9)
    exact ma_nil
    exact me_int
    refine mss_cons ?_ ?_
    refine ms_asg ?_ ?_
    refine me_callTy cr_tup rfl hy.g_tuple bt_tuple ?_
    refine ma_cons ?_ ?_
    refine me_lc rfl rfl tk0 rfl sc_law.nd rfl ?_ (own := [("_law_index", 9), ("_law_value_here", 10)]) (blkOk_by (by kernel_rfl)) ?_ ?_ ?_
    refine mi_enum rfl hy.g_enumerate ?_
    refine ma_cons ?_ ?_
    exact me_var (pv 3)
    exact ma_nil
    intro s H C cl fp xe
    refine mc_tup rfl ?_
    refine mcs_cons ?_ ?_
    exact mc_name (pg_name sc_law.nd (i := 9) rfl (by first | exact .inl rfl | exact .inr rfl)) (by decide)
    refine mcs_cons ?_ ?_
    exact mc_name (pg_name sc_law.nd (i := 10) rfl (by first | exact .inl rfl | exact .inr rfl)) (by decide)
    exact mcs_nil
    intro s H C cl fp xe Wb tb
    exact mts_nil
    intro s H C cl fp xe Wb tb
    refine me_op opp_mod ?_ ?_
    exact me_var (pv 10)
    refine me_ixE (hu1 hu) ?_ ?_
    refine me_tup ?_
    refine ma_cons ?_ ?_
    exact me_int
    refine ma_cons ?_ ?_
    exact me_int
    refine ma_cons ?_ ?_
    exact me_int
    exact ma_nil
    refine me_op opp_mod ?_ ?_
    refine me_op opp_add ?_ ?_
    exact me_var (pv 1)
    exact me_var (pv 9)
    exact me_int
    exact ma_nil
    exact mg_name (pg_name sc_law.nd (i := 4) rfl (by first | exact .inl rfl | exact .inr rfl))
    refine mss_cons ?_ ?_
    refine ms_asg ?_ ?_
    refine me_call (cal_law_disassemble hy) hr (by decide) tk0 rfl ?_
    refine ma_cons ?_ ?_
    exact me_var (pv 4)
    exact ma_nil
    exact mg_name (pg_name sc_law.nd (i := 5) rfl (by first | exact .inl rfl | exact .inr rfl))
    refine mss_cons ?_ ?_
    refine ms_if ?_ ?_ ?_
    refine mw_pt ?_
    refine mw_or ?_ ?_
    refine mt_cmp (opp_ne hu) ?_ ?_ (by first | exact nomark _ | with_unfolding_all rfl)
    refine me_call (cal_disassemble hy) hr (by decide) tk0 rfl ?_
    refine ma_cons ?_ ?_
    exact me_var (pv 4)
    exact ma_nil
    exact me_var (pv 5)
    refine mw_or1 ?_
    refine mt_cmp (opp_ne hu) ?_ ?_ (by first | exact nomark _ | with_unfolding_all rfl)
    refine me_call (cal_assemble hy) hr (by decide) tk0 rfl ?_
    refine ma_cons ?_ ?_
    exact me_var (pv 5)
    exact ma_nil
    exact me_var (pv 4)
    refine mss_one ?_
    refine ms_ret ?_
    exact me_bl
    exact mss_nil
    refine mss_one ?_
    refine ms_for hp0 rfl ?_ ?_ ?_
    refine mi_rng1 rfl hy.g_range ?_
    refine ma_cons ?_ ?_
    exact me_int
    exact ma_nil
    exact mg_name (pg_name sc_law.nd (i := 6) rfl (by first | exact .inl rfl | exact .inr rfl))
    refine mss_cons ?_ ?_
    refine ms_asg ?_ ?_
    refine me_call (cal_law_changed hy) hr (by decide) tk0 rfl ?_
    refine ma_cons ?_ ?_
    exact me_var (pv 5)
    refine ma_cons ?_ ?_
    refine me_call (cal_law_value hy) hr (by decide) tk0 rfl ?_
    refine ma_cons ?_ ?_
    exact me_var (pv 0)
    refine ma_cons ?_ ?_
    refine me_op opp_add ?_ ?_
    refine me_op opp_add ?_ ?_
    exact me_int
    refine me_op opp_mulE ?_ ?_
    exact me_int
    exact me_var (pv 1)
    exact me_var (pv 6)
    exact ma_nil
    exact ma_nil
    exact mg_name (pg_name sc_law.nd (i := 7) rfl (by first | exact .inl rfl | exact .inr rfl))
    refine mss_cons ?_ ?_
    refine ms_if ?_ ?_ ?_
    refine mt_cmp (opp_ne hu) ?_ ?_ (by first | exact nomark _ | with_unfolding_all rfl)
    refine me_call (cal_law_result hy) hr (by decide) tk0 rfl ?_
    refine ma_cons ?_ ?_
    exact me_var (pv 7)
    exact ma_nil
    refine me_call (cal_law_assemble hy) hr (by decide) tk0 rfl ?_
    refine ma_cons ?_ ?_
    exact me_var (pv 7)
    exact ma_nil
    refine mss_one ?_
    refine ms_ret ?_
    exact me_bl
    exact mss_nil
    refine mss_cons ?_ ?_
    refine ms_asg ?_ ?_
    refine me_call (cal_law_changed hy) hr (by decide) tk0 rfl ?_
    refine ma_cons ?_ ?_
    exact me_var (pv 7)
    refine ma_cons ?_ ?_
    refine me_call (cal_law_value hy) hr (by decide) tk0 rfl ?_
    refine ma_cons ?_ ?_
    exact me_var (pv 0)
    refine ma_cons ?_ ?_
    refine me_op opp_add ?_ ?_
    refine me_op opp_add ?_ ?_
    exact me_int
    refine me_op opp_mulE ?_ ?_
    exact me_int
    exact me_var (pv 1)
    exact me_var (pv 6)
    exact ma_nil
    exact ma_nil
    exact mg_name (pg_name sc_law.nd (i := 8) rfl (by first | exact .inl rfl | exact .inr rfl))
    refine mss_one ?_
    refine ms_if ?_ ?_ ?_
    refine mt_cmp (opp_ne hu) ?_ ?_ (by first | exact nomark _ | with_unfolding_all rfl)
    refine me_call (cal_law_result hy) hr (by decide) tk0 rfl ?_
    refine ma_cons ?_ ?_
    exact me_var (pv 8)
    exact ma_nil
    refine me_call (cal_law_assemble hy) hr (by decide) tk0 rfl ?_
    refine ma_cons ?_ ?_
    exact me_var (pv 8)
    exact ma_nil
    refine mss_one ?_
    refine ms_ret ?_
    exact me_bl
    exact mss_nil
    refine mss_one ?_
    refine ms_ret ?_
    refine me_or ?_ ?_
    refine me_cmp opp_gt ?_ ?_ (by first | exact nomark _ | with_unfolding_all rfl)
    refine me_op opp_mod ?_ ?_
    refine me_call (cal_law_value hy) hr (by decide) tk0 rfl ?_
    refine ma_cons ?_ ?_
    exact me_var (pv 0)
    refine ma_cons ?_ ?_
    exact me_int
    exact ma_nil
    exact me_int
    exact me_int
    refine me_one ?_
    exact me_call0 (cal_law_limits_right hy) hr (by decide) rfl)
  exact h
theorem cal_law (hy : Hy K mg) : Cal P w K mg base 7 "law" (m_law K) [] := by
  obtain ⟨fd, F⟩ := hy.f_law
  exact cal_mk F rfl lenOk_mk (ok_law hy F) hy.g_law (F.bindsN fun _ _ _ _ _ _ us hl => match us, hl with | [_], _ => rfl)
end
end K03


end

section
set_option maxRecDepth 100000
set_option maxHeartbeats 2000000
namespace K03
open PySem L2 M1
/-- the plain law_mix -/
def mixP (ns : List Int) (k : Int) : Int :=
  let v := ns.getD (k % ns.length).toNat 0 % 1000000000000000000 + 13 * (k / ns.length)
  let m := ((v + 977 * k) * 48271 + 7919 * ns.length) % 2147483647
  m * (m + 31 * k + 7) * (m + 5) / 1009
theorem mix_ev {K} {ns : List Int} {n : Nat} {S : Store} {k : Int} (hS : lstOf S n = some (ns.map .int)) (h0 : ns ≠ []) (hl : ns.length ≤ 64) (hk : 0 ≤ k) (hk2 : k < 100000) :
    m_law_mix K [.loc n, .int k] S = .ok (.int (mixP ns k)) S := by
  have hlen : 0 < ns.length := List.length_pos_iff.mpr h0
  have hL : cLen [.loc n] S = some (.int ns.length, S) := by simp [cLen, hS]
  unfold m_law_mix mkFn b_law_mix startE
  have m1 : ∀ S' : Store, opMod (.int k) (.int ns.length) S' = some (.int (k % ns.length), S') := fun S' => opMod_int _ _ (by omega)
  have f1 : ∀ S' : Store, opFdiv (.int k) (.int ns.length) S' = some (.int (k / ns.length), S') := fun S' => opFdiv_int _ _ (by omega) (by omega)
  have hr : 0 ≤ k % (ns.length : Int) := Int.emod_nonneg _ (by omega)
  have hr2 : k % (ns.length : Int) < ns.length := Int.emod_lt_of_pos _ (by omega)
  have hi : (k % (ns.length : Int)).toNat < ns.length := by omega
  have hx : opIxE (.loc n) (.int (k % ns.length)) S = some (.int (ns.getD (k % ns.length).toNat 0), S) := opIxE_lst hS hr (by simp [List.getD, hi])
  have kk : 0 ≤ k / (ns.length : Int) := Int.ediv_nonneg hk (by omega)
  generalize hv : ns.getD (k % (ns.length : Int)).toNat 0 = v at hx
  have mr : ∀ (a b : Int) S', -18446744073709551616 < b → b < 18446744073709551616 → opMulE (.int a) (.int b) S' = some (.int (a * b), S') := fun a b S' h1 h2 => opMulE_r h1 h2
  have ml : ∀ (a b : Int) S', -18446744073709551616 < a → a < 18446744073709551616 → opMulE (.int a) (.int b) S' = some (.int (a * b), S') := fun a b S' h1 h2 => opMulE_l h1 h2
  have m13 : ∀ b S', opMulE (.int 13) (.int b) S' = some (.int (13 * b), S') := fun b S' => opMulE_l (by decide) (by decide)
  have m977 : ∀ b S', opMulE (.int 977) (.int b) S' = some (.int (977 * b), S') := fun b S' => opMulE_l (by decide) (by decide)
  have m48 : ∀ b S', opMulE (.int b) (.int 48271) S' = some (.int (b * 48271), S') := fun b S' => opMulE_r (by decide) (by decide)
  have m79 : ∀ b S', opMulE (.int 7919) (.int b) S' = some (.int (7919 * b), S') := fun b S' => opMulE_l (by decide) (by decide)
  have m31 : ∀ b S', opMulE (.int 31) (.int b) S' = some (.int (31 * b), S') := fun b S' => opMulE_l (by decide) (by decide)
  have mx : ∀ (x b : Int) S', opMulE (.int (x % 2147483647)) (.int b) S' = some (.int (x % 2147483647 * b), S') := fun x b S' => opMulE_l (by omega) (by omega)
  have mx2 : ∀ (x b : Int) S', opMulE (.int b) (.int (x % 2147483647 + 5)) S' = some (.int (b * (x % 2147483647 + 5)), S') := fun x b S' => opMulE_r (by omega) (by omega)
  have p18 : ∀ S', opPow (.int 10) (.int 18) S' = some (.int 1000000000000000000, S') := fun S' => opPow_1018
  simp_arith [hL, m1, hx, f1, m13, m977, m48, m79, m31, mx, mx2, p18, mixP]
  rw [hv]
def valP (ns : List Int) (k : Int) : Int := mixP (if ns = [] then [9] else ns) k
theorem lstOf_new {S T : Store} {xs : List D} : lstOf (S ++ .lst xs :: T) S.length = some xs := by
  unfold lstOf
  rw [List.getElem?_append_right (Nat.le_refl _)]; simp
theorem val_ev {K} {ns : List Int} {n : Nat} {S : Store} {k : Int} (hS : lstOf S n = some (ns.map .int)) (hl : ns.length ≤ 63) (hk : 0 ≤ k) (hk2 : k < 100000) :
    ∃ T, m_law_value K [.loc n, .int k] S = .ok (.int (valP ns k)) (S ++ T) := by
  have e : opNe (.loc n) (.loc S.length) (S ++ [.lst []]) = some (.bl (!ns.isEmpty), S ++ [.lst []]) := by
    unfold opNe
    rw [pyEq_lst (lstOf_app hS) lstOf_new (gDs_ints ns) rfl (by rw [dpDs_ints]; omega) (by simp [dpDs])]
    cases ns <;> simp [pds, PyData.eqvAll]
  unfold m_law_value mkFn b_law_value startE valP
  cases ns with
  | nil =>
    have := mix_ev (K := K) (ns := [9]) (n := S.length + 1) (S := S ++ [.lst [], .lst [.int 9]]) (k := k) (by
      unfold lstOf; simp) (by simp) (by simp) hk hk2
    refine ⟨[.lst [], .lst [.int 9]], ?_⟩
    simp [e, sizeLine_eq, this]
  | cons a ns =>
    have := mix_ev (K := K) (ns := a :: ns) (n := n) (S := S ++ [.lst []]) (k := k) (lstOf_app hS) (by simp) (by omega) hk hk2
    refine ⟨[.lst []], ?_⟩
    simp [e, sizeLine_eq, this]
/-! ### words -/
theorem is_int_ev {K} (i lo hi : Int) (S : Store) : m_is_integer K [.int i, .int lo, .int hi] S = .ok (.bl (decide (lo ≤ i ∧ i ≤ hi))) S := by
  unfold m_is_integer mkFn b_is_integer startE
  simp [cIsi, isTys, tyD, isaB]
  by_cases h1 : lo ≤ i <;> by_cases h2 : i ≤ hi <;> simp [h1, h2]
/-- ints and truth values -/
def ib : D → Bool
  | .int _ => true
  | .bl _ => true
  | _ => false
def wordD : D → Bool
  | .int i => decide (0 ≤ i ∧ i ≤ 9999)
  | _ => false
theorem is_word_ev {K} {d : D} (h : ib d = true) (S : Store) : m_is_word K [d] S = .ok (.bl (wordD d)) S := by
  unfold m_is_word mkFn b_is_word startE
  cases d with
  | int i => simp [is_int_ev, wordD]
  | bl b => simp [m_is_integer, mkFn, b_is_integer, startE, cIsi, isTys, tyD, isaB, wordD]
  | _ => cases h
theorem is_words_ev {K} {ds : List D} (h : ∀ d ∈ ds, ib d = true) (hz : ds.length ≤ 100000) (S : Store) : ∃ T, m_is_words K [.tup ds] S = .ok (.bl (ds.all wordD)) (S ++ T) := by
  have hs : ds.length ≤ sizeLine := by rw [sizeLine_eq]; omega
  obtain ⟨T, e⟩ := eLc_ext (n := 2) (vs := [1]) (fi := iAny (eVar 0)) (g := gN 1) (e := eF (m_is_word K) [] (aCons (eVar 1) aNil)) (ρ := [some (.tup ds), none]) (S0 := S) (S := S) (src := seqSrc ds) (ds := ds) (f := fun d => .bl (wordD d))
    (by simp) (by simp) (by simp) hs (by simp) (fun d hd X => ⟨[some (.tup ds), some d], [], by simp, by simp [is_word_ev (h d hd)]⟩)
  refine ⟨.lst (ds.map fun d => .bl (wordD d)) :: T, ?_⟩
  unfold m_is_words mkFn b_is_words startE
  have hc : cAll [.loc S.length] (S ++ .lst (ds.map fun d => .bl (wordD d)) :: T) = some (.bl (ds.all wordD), S ++ .lst (ds.map fun d => .bl (wordD d)) :: T) := by
    simp only [cAll, lstOf_new]
    have : (ds.map fun d => D.bl (wordD d)) = (ds.map wordD).map .bl := by simp [List.map_map, Function.comp_def]
    simp only [Option.bind_some]
    rw [this, bls_map]
    simp [List.all_map, Function.comp_def]
  simp [cIsi, isTys, tyD, isaB, e, hc]


/-! ### seeds -/
theorem mixP_nn (ns : List Int) (k : Int) (hk : 0 ≤ k) : 0 ≤ mixP ns k := by
  unfold mixP
  simp only
  generalize ((ns.getD (k % ↑ns.length).toNat 0 % 1000000000000000000 + 13 * (k / ↑ns.length) + 977 * k) * 48271 + 7919 * ↑ns.length) = x
  have h : 0 ≤ x % 2147483647 := Int.emod_nonneg _ (by decide)
  generalize x % 2147483647 = m at h
  exact Int.ediv_nonneg (Int.mul_nonneg (Int.mul_nonneg h (by omega)) (by omega)) (by decide)
theorem valP_nn (ns : List Int) (k : Int) (hk : 0 ≤ k) : 0 ≤ valP ns k := mixP_nn _ _ hk
/-- the script lies at n -/
structure Scr (S : Store) (n : Nat) (ns : List Int) : Prop where
  at_ : lstOf S n = some (ns.map .int)
  len : ns.length ≤ 63
theorem Scr.app {S T : Store} {n ns} (h : Scr S n ns) : Scr (S ++ T) n ns := ⟨lstOf_app h.at_, h.len⟩
theorem val {K} {ns : List Int} {n : Nat} {S : Store} {k : Int} (h : Scr S n ns) (hk : 0 ≤ k) (hk2 : k < 100000) : ∃ T, m_law_value K [.loc n, .int k] S = .ok (.int (valP ns k)) (S ++ T) := val_ev h.at_ h.len hk hk2

end K03

end

section
set_option maxRecDepth 100000
set_option maxHeartbeats 400000
namespace K03
open PySem L2 M1
abbrev dgs : Str := "0123456789"
abbrev lts : Str := "abcdefghijklmnopqrstuvwxyz"
def isDig (z : Str) : Bool := z.cps.toList.all fun c => decide (c ∈ dgs.cps.toList)
def isLet (z : Str) : Bool := z.cps.toList.all fun c => decide (c ∈ lts.cps.toList)
def nameP (z : Str) : Bool := decide (1 ≤ z.length) && decide (z.length ≤ 8) && isLet z
theorem dg_iff : ∀ c : Nat, c ∈ dgs.cps.toList ↔ (48 ≤ c ∧ c ≤ 57) := by
  intro c
  have e : dgs.cps.toList = [48, 49, 50, 51, 52, 53, 54, 55, 56, 57] := by decide +kernel
  rw [e]
  simp only [List.mem_cons, List.mem_nil_iff, or_false]
  omega
theorem lt_iff : ∀ c : Nat, c ∈ lts.cps.toList ↔ (97 ≤ c ∧ c ≤ 122) := by
  intro c
  have e : lts.cps.toList = [97, 98, 99, 100, 101, 102, 103, 104, 105, 106, 107, 108, 109, 110, 111, 112, 113, 114, 115, 116, 117, 118, 119, 120, 121, 122] := by decide +kernel
  rw [e]
  simp only [List.mem_cons, List.mem_nil_iff, or_false]
  omega
/-- digits' lists that are numbers' texts -/
theorem numL_head : ∀ n : Nat, 1 ≤ n → (TL.numL n).head? ≠ some 48 := by
  intro n
  induction n using Nat.strongRecOn with
  | _ n ih =>
    intro h1
    by_cases h : n < 10
    · rw [TL.numL_lt h]; simp; omega
    · rw [TL.numL_step (by omega)]
      have := ih (n / 10) (by omega) (by omega)
      have hne := TL.numL_ne (n / 10)
      cases e : TL.numL (n / 10) with
      | nil => exact absurd e hne
      | cons a l => rw [e] at this; simpa using this
theorem val_snoc (b : List Nat) (c : Nat) : NumText.digitsVal (b ++ [c]) = NumText.digitsVal b * 10 + (c - 48) := by
  unfold NumText.digitsVal; rw [List.foldl_append]; rfl
theorem val_pos {b : List Nat} (h : NumText.AllDigits b) (hne : b ≠ []) (hh : b.head? ≠ some 48) : 1 ≤ NumText.digitsVal b := by
  have key : ∀ (l : List Nat) (a : Nat), 1 ≤ a → 1 ≤ l.foldl (fun acc c => acc * 10 + (c - 48)) a := by
    intro l
    induction l with
    | nil => intro a h; exact h
    | cons x l ih => intro a h; rw [List.foldl_cons]; exact ih _ (by omega)
  cases b with
  | nil => exact absurd rfl hne
  | cons x l =>
    have hx := h x (List.mem_cons_self ..)
    have h48 : x ≠ 48 := by simpa using hh
    unfold NumText.digitsVal
    rw [List.foldl_cons]
    exact key l _ (by omega)
theorem num_back : ∀ (n : Nat) {a : List Nat}, a.length = n → NumText.AllDigits a → a ≠ [] → (a.head? ≠ some 48 ∨ a = [48]) → TL.numL (NumText.digitsVal a) = a
  | 0, a, hl, _, hne, _ => absurd (List.length_eq_zero_iff.mp hl) hne
  | n + 1, a, hl, hd, hne, hh => by
    obtain ⟨b, c, rfl⟩ : ∃ b c, a = b ++ [c] := ⟨a.dropLast, a.getLast hne, (List.dropLast_concat_getLast hne).symm⟩
    have hc := hd c (by simp)
    rw [val_snoc]
    by_cases hb : b = []
    · subst hb
      rw [show NumText.digitsVal [] = 0 from rfl, TL.numL_lt (by omega)]
      simp; omega
    · have hdb : NumText.AllDigits b := fun x hx => hd x (by simp [hx])
      have hhb : b.head? ≠ some 48 := by
        cases b with
        | nil => exact absurd rfl hb
        | cons x l =>
          rcases hh with h | h
          · simpa using h
          · simp at h
      have hp := val_pos hdb hb hhb
      rw [TL.numL_step (by omega)]
      have e1 : (NumText.digitsVal b * 10 + (c - 48)) / 10 = NumText.digitsVal b := by omega
      have e2 : 48 + (NumText.digitsVal b * 10 + (c - 48)) % 10 = c := by omega
      rw [e1, e2, num_back n (by simpa using hl) hdb hb (.inl hhb)]
theorem num_not {a : List Nat} (hd : NumText.AllDigits a) (hne : a ≠ []) (hh : ¬ (a.head? ≠ some 48 ∨ a = [48])) : TL.numL (NumText.digitsVal a) ≠ a := by
  intro e
  apply hh
  by_cases h0 : NumText.digitsVal a = 0
  · right
    rw [h0] at e
    rw [← e]; exact TL.numL_lt (by decide)
  · left
    rw [← e]
    exact numL_head _ (by omega)
theorem val_lt : ∀ (n : Nat) {a : List Nat}, a.length = n → NumText.AllDigits a → NumText.digitsVal a < 10 ^ n
  | 0, a, hl, _ => by rw [List.length_eq_zero_iff.mp hl]; decide
  | n + 1, a, hl, hd => by
    have hne : a ≠ [] := by intro h; subst h; simp at hl
    obtain ⟨b, c, rfl⟩ : ∃ b c, a = b ++ [c] := ⟨a.dropLast, a.getLast hne, (List.dropLast_concat_getLast hne).symm⟩
    have hc := hd c (by simp)
    have ih := val_lt n (a := b) (by simpa using hl) fun x hx => hd x (by simp [hx])
    rw [val_snoc, Nat.pow_succ]
    omega
def optD : Option Int → D
  | none => .non
  | some i => .int i
def wordP (z : Str) : Option Int := if decide (1 ≤ z.length) && decide (z.length ≤ 4) && isDig z && (decide (z.cps.toList.head? ≠ some 48) || decide (z = ("0" : String))) then some (NumText.digitsVal z.cps.toList : Nat) else none
section
variable {K : PySem.W.Frag} {S : Store}
/-- all signs in w, or one not in w -/
theorem comp_in {w z : Str} (hz : z.length ≤ 1000000) {ρ : M1.Env} (hr : ρ.length = 2) (h0 : ρ[0]? = some (some (.str z))) : ∃ T, eLc 2 [1] (iAny (eVar 0)) (gN 1) tYesM (eOp opInE (eVar 1) (eC (.str w))) ρ S = .ok (.loc S.length) (S ++ T) ∧ cAll [.loc S.length] (S ++ T) = some (.bl (z.cps.toList.all fun c => decide (c ∈ w.cps.toList)), S ++ T) := by
  have hz' : z.cps.size ≤ 1000000 := hz
  obtain ⟨T, e⟩ := eLc_ext (n := 2) (vs := [1]) (fi := iAny (eVar 0)) (g := gN 1) (e := eOp opInE (eVar 1) (eC (.str w))) (ρ := ρ) (S0 := S) (S := S) (src := sgnSrc z) (ds := z.cps.toList.map fun c => .str ⟨#[c]⟩) (f := fun d => match d with | .str y => .bl (decide (y.cps.getD 0 0 ∈ w.cps.toList)) | d => d)
    (by omega) (by simp [h0]) (by simp [sgnSrc]) (by rw [sizeLine_eq]; simp; omega) (fun i X => by simp [sgnSrc])
    (fun d hd X => by
      obtain ⟨c, hc, rfl⟩ := List.mem_map.mp hd
      refine ⟨_, [], rfl, ?_⟩
      have hv : eVar 1 ((wipeE ρ [1]).set 1 (some (.str ⟨#[c]⟩))) (S ++ X) = .ok (.str ⟨#[c]⟩) (S ++ X) := by
        rw [eVar_ev, List.getElem?_set_self (by simp; omega)]
      simp only [eOp_ev, hv, bind_ok, eC_ev, opInE_sign, of_some, List.append_nil]
      rfl)
  refine ⟨.lst ((z.cps.toList.map fun c => decide (c ∈ w.cps.toList)).map .bl) :: T, ?_, ?_⟩
  · rw [e, List.map_map, List.map_map]; rfl
  · simp only [cAll, lstOf_pk0, lstOf_c0, Option.bind_some, bls_map, Option.map_some]
    simp [List.all_map, Function.comp_def]
theorem comp_nin {w z : Str} (hz : z.length ≤ 1000000) {ρ : M1.Env} (hr : ρ.length = 2) (h0 : ρ[0]? = some (some (.str z))) : ∃ T, eLc 2 [1] (iAny (eVar 0)) (gN 1) tYesM (eOp opNinE (eVar 1) (eC (.str w))) ρ S = .ok (.loc S.length) (S ++ T) ∧ cAny [.loc S.length] (S ++ T) = some (.bl (!(z.cps.toList.all fun c => decide (c ∈ w.cps.toList))), S ++ T) := by
  have hz' : z.cps.size ≤ 1000000 := hz
  obtain ⟨T, e⟩ := eLc_ext (n := 2) (vs := [1]) (fi := iAny (eVar 0)) (g := gN 1) (e := eOp opNinE (eVar 1) (eC (.str w))) (ρ := ρ) (S0 := S) (S := S) (src := sgnSrc z) (ds := z.cps.toList.map fun c => .str ⟨#[c]⟩) (f := fun d => match d with | .str y => .bl (!decide (y.cps.getD 0 0 ∈ w.cps.toList)) | d => d)
    (by omega) (by simp [h0]) (by simp [sgnSrc]) (by rw [sizeLine_eq]; simp; omega) (fun i X => by simp [sgnSrc])
    (fun d hd X => by
      obtain ⟨c, hc, rfl⟩ := List.mem_map.mp hd
      refine ⟨_, [], rfl, ?_⟩
      have hv : eVar 1 ((wipeE ρ [1]).set 1 (some (.str ⟨#[c]⟩))) (S ++ X) = .ok (.str ⟨#[c]⟩) (S ++ X) := by
        rw [eVar_ev, List.getElem?_set_self (by simp; omega)]
      simp only [eOp_ev, hv, bind_ok, eC_ev, opNinE_sign, of_some, List.append_nil]
      rfl)
  refine ⟨.lst ((z.cps.toList.map fun c => !decide (c ∈ w.cps.toList)).map .bl) :: T, ?_, ?_⟩
  · rw [e, List.map_map, List.map_map]; rfl
  · simp only [cAny, lstOf_pk0, lstOf_c0, Option.bind_some, bls_map, Option.map_some]
    simp only [List.any_map, Function.comp_def, id]
    rw [List.not_all_eq_any_not]
theorem is_name_ev {z : Str} (hz : z.length ≤ 1000000) (S : Store) : ∃ T, m_is_name K [.str z] S = .ok (.bl (nameP z)) (S ++ T) := by
  have it : ∀ S', cIsi [.str z, .ty "str"] S' = some (.bl true, S') := fun S' => rfl
  have ln : ∀ S', cLen [.str z] S' = some (.int z.length, S') := fun S' => cLen_str (by omega)
  have q1 : decide ((1 : Int) ≤ z.length) = decide (1 ≤ z.length) := by apply decide_eq_decide.mpr; omega
  have q2 : decide ((z.length : Int) ≤ 8) = decide (z.length ≤ 8) := by apply decide_eq_decide.mpr; omega
  obtain ⟨T, e, ec⟩ := comp_in (S := S) (w := lts) hz (ρ := [some (.str z), none]) rfl rfl
  have hl : isLet z = (z.cps.toList.all fun c => decide (c ∈ lts.cps.toList)) := rfl
  rw [← hl] at ec
  unfold m_is_name mkFn b_is_name startE nameP
  generalize decide (1 ≤ z.length) = b1 at *
  generalize decide (z.length ≤ 8) = b2 at *
  cases b1
  · exact ⟨[], by simp_arith [it, ln, q1, List.append_nil]⟩
  · cases b2
    · exact ⟨[], by simp_arith [it, ln, q1, q2, List.append_nil]⟩
    · exact ⟨T, by simp_arith [it, ln, q1, q2, e, ec]⟩
theorem law_is_name_ev {z : Str} (hz : z.length ≤ 1000000) (S : Store) : ∃ T, m_law_is_name K [.str z] S = .ok (.bl (nameP z)) (S ++ T) := by
  have ln : ∀ S', cLen [.str z] S' = some (.int z.length, S') := fun S' => cLen_str (by omega)
  have q1 : decide ((1 : Int) ≤ z.length) = decide (1 ≤ z.length) := by apply decide_eq_decide.mpr; omega
  have q2 : decide ((z.length : Int) ≤ 8) = decide (z.length ≤ 8) := by apply decide_eq_decide.mpr; omega
  obtain ⟨T, e, ec⟩ := comp_in (S := S) (w := lts) hz (ρ := [some (.str z), none]) rfl rfl
  have hl : isLet z = (z.cps.toList.all fun c => decide (c ∈ lts.cps.toList)) := rfl
  rw [← hl] at ec
  unfold m_law_is_name mkFn b_law_is_name startE nameP
  generalize decide (1 ≤ z.length) = b1 at *
  generalize decide (z.length ≤ 8) = b2 at *
  cases b1
  · exact ⟨[], by simp_arith [ln, q1, List.append_nil]⟩
  · cases b2
    · exact ⟨[], by simp_arith [ln, q1, q2, List.append_nil]⟩
    · exact ⟨T, by simp_arith [ln, q1, q2, e, ec]⟩
end
end K03

end

section
set_option maxRecDepth 100000
set_option maxHeartbeats 400000
namespace K03
open PySem L2 M1
theorem S_self (z : Str) : SX.S z.cps.toList = z := by cases z; rfl
theorem str0 : (("0" : String) : Str) = ⟨#[48]⟩ := by decide +kernel
theorem z_eq0 (z : Str) : z = (("0" : String) : Str) ↔ z.cps.toList = [48] := by
  rw [str0]
  cases z with
  | mk a => 
    cases a with
    | mk l => simp
section
variable {K : PySem.W.Frag} {S : Store}
theorem dig_all {z : Str} (h : isDig z = true) : NumText.AllDigits z.cps.toList := fun c hc => by
  unfold isDig at h
  have := List.all_eq_true.mp h c hc
  exact (dg_iff c).mp (of_decide_eq_true this)
theorem dig_ok {z : Str} (h : isDig z = true) : PyData.strOk z = true := by
  unfold PyData.strOk
  rw [← Array.all_toList, List.all_eq_true]
  intro c hc
  have := dig_all h c hc
  simp; omega
theorem strOk_S {l : List Nat} (h : NumText.AllDigits l) : PyData.strOk (SX.S l) = true := by
  unfold PyData.strOk
  rw [← Array.all_toList, List.all_eq_true]
  intro c hc
  have := h c (by simpa using hc)
  simp; omega
theorem log_ok {n : Nat} (h : n < 10000) : ((n : Int)).natAbs.log2 < 1920 := by
  rw [Int.natAbs_natCast]
  by_cases h0 : n = 0
  · subst h0; decide
  · exact (Nat.log2_lt h0).mpr (Nat.lt_of_lt_of_le h (Nat.le_trans (by decide : 10000 ≤ 2 ^ 14) (Nat.pow_le_pow_right (by decide) (by decide))))
theorem num_str {n : Nat} (h : n < 10000) : cStr [.int n] S = some (.str (SX.S (TL.numL n)), S) := by
  rw [cStr_int (log_ok h)]
  have := SX.num_S n
  rw [← this]
/-- what both say of a text of at most four digits -/
theorem word_of {z : Str} (h1 : 1 ≤ z.length) (h2 : z.length ≤ 4) (hd : isDig z = true) : wordP z = if z.cps.toList.head? ≠ some 48 ∨ z.cps.toList = [48] then some (NumText.digitsVal z.cps.toList : Nat) else none := by
  unfold wordP
  rw [decide_eq_true h1, decide_eq_true h2, hd]
  have : decide (z = (("0" : String) : Str)) = decide (z.cps.toList = [48]) := by apply decide_eq_decide.mpr; exact z_eq0 z
  rw [this]
  by_cases a : z.cps.toList.head? ≠ some 48
  · simp [a]
  · by_cases b : z.cps.toList = [48]
    · simp [b]
    · simp [a, b]
theorem int_dig {z : Str} (h1 : 1 ≤ z.length) (h2 : z.length ≤ 4) (hd : isDig z = true) (S : Store) : cIntE [.str z] S = some (.int (NumText.digitsVal z.cps.toList : Nat), S) := by
  have hlen : z.cps.toList.length = z.length := by simp [Str.length]
  refine cIntE_str ?_ (by omega)
  have := SX.int_S (a := z.cps.toList) (by
    rw [List.all_eq_true]; intro c hc
    have := dig_all hd c hc
    simp; omega) (by intro h; rw [h] at hlen; simp at hlen; omega) (by omega)
  rw [S_self] at this
  exact this
theorem parse_word_ev {z : Str} (hz : z.length ≤ 1000000) (S : Store) : ∃ T, m_parse_word K [.str z] S = .ok (optD (wordP z)) (S ++ T) := by
  have ln : ∀ S', cLen [.str z] S' = some (.int z.length, S') := fun S' => cLen_str (by omega)
  have q1 : decide ((1 : Int) ≤ z.length) = decide (1 ≤ z.length) := by apply decide_eq_decide.mpr; omega
  have q2 : decide ((z.length : Int) ≤ 4) = decide (z.length ≤ 4) := by apply decide_eq_decide.mpr; omega
  obtain ⟨T, e, ec⟩ := comp_in (S := S) (w := dgs) hz (ρ := [some (.str z), none]) rfl rfl
  have hl : isDig z = (z.cps.toList.all fun c => decide (c ∈ dgs.cps.toList)) := rfl
  rw [← hl] at ec
  by_cases h1 : 1 ≤ z.length
  · by_cases h2 : z.length ≤ 4
    · cases hd : isDig z with
      | true =>
        have hlen : z.cps.toList.length = z.length := by simp [Str.length]
        have hne : z.cps.toList ≠ [] := by intro h; rw [h] at hlen; simp at hlen; omega
        have ad := dig_all hd
        have it := int_dig h1 h2 hd
        have hv := val_lt _ rfl ad
        have hv2 : NumText.digitsVal z.cps.toList < 10000 := Nat.lt_of_lt_of_le hv (Nat.le_trans (Nat.pow_le_pow_right (by decide) (by omega : z.cps.toList.length ≤ 4)) (by decide))
        have sn := fun S' => num_str (S := S') hv2
        have ne : ∀ S', opNe (.str (SX.S (TL.numL (NumText.digitsVal z.cps.toList)))) (.str z) S' = some (.bl (!decide (SX.S (TL.numL (NumText.digitsVal z.cps.toList)) = z)), S') := fun S' => opNe_str (strOk_S (TL.numL_digits _)) (dig_ok hd)
        rw [hd] at ec
        rw [word_of h1 h2 hd]
        have q1' : decide ((1 : Int) ≤ z.length) = true := by rw [q1]; exact decide_eq_true h1
        have q2' : decide ((z.length : Int) ≤ 4) = true := by rw [q2]; exact decide_eq_true h2
        by_cases hh : z.cps.toList.head? ≠ some 48 ∨ z.cps.toList = [48]
        · rw [if_pos hh]
          have : decide (SX.S (TL.numL (NumText.digitsVal z.cps.toList)) = z) = true := by
            rw [num_back _ rfl ad hne hh, S_self]; simp
          rw [this] at ne
          refine ⟨T, ?_⟩
          unfold m_parse_word mkFn b_parse_word startE
          simp_arith [ln, q1', q2', e, ec, it, sn, ne]
          rfl
        · rw [if_neg hh]
          have : decide (SX.S (TL.numL (NumText.digitsVal z.cps.toList)) = z) = false := by
            apply decide_eq_false
            intro h
            have h2 := congrArg (fun s : Str => s.cps.toList) h
            exact num_not ad hne hh (by simpa [SX.S] using h2)
          rw [this] at ne
          refine ⟨T, ?_⟩
          unfold m_parse_word mkFn b_parse_word startE
          simp_arith [ln, q1', q2', e, ec, it, sn, ne]
          rfl
      | false =>
        have hw : wordP z = none := by unfold wordP; rw [hd]; simp
        rw [hw]
        rw [hd] at ec
        have q1' : decide ((1 : Int) ≤ z.length) = true := by rw [q1]; exact decide_eq_true h1
        have q2' : decide ((z.length : Int) ≤ 4) = true := by rw [q2]; exact decide_eq_true h2
        refine ⟨T, ?_⟩
        unfold m_parse_word mkFn b_parse_word startE
        simp_arith [ln, q1', q2', e, ec]
        rfl
    · have hw : wordP z = none := by unfold wordP; rw [decide_eq_false h2]; simp
      rw [hw]
      have q1' : decide ((1 : Int) ≤ z.length) = true := by rw [q1]; exact decide_eq_true h1
      have q2' : decide ((z.length : Int) ≤ 4) = false := by rw [q2]; exact decide_eq_false h2
      refine ⟨[], ?_⟩
      unfold m_parse_word mkFn b_parse_word startE
      simp_arith [ln, q1', q2']
      rfl
  · have hw : wordP z = none := by unfold wordP; rw [decide_eq_false h1]; simp
    rw [hw]
    have q1' : decide ((1 : Int) ≤ z.length) = false := by rw [q1]; exact decide_eq_false h1
    refine ⟨[], ?_⟩
    unfold m_parse_word mkFn b_parse_word startE
    simp_arith [ln, q1']
    rfl
theorem law_parse_word_ev {z : Str} (hz : z.length ≤ 1000000) (S : Store) : ∃ T, m_law_parse_word K [.str z] S = .ok (optD (wordP z)) (S ++ T) := by
  have ln : ∀ S', cLen [.str z] S' = some (.int z.length, S') := fun S' => cLen_str (by omega)
  have q1 : decide ((0 : Int) < z.length) = decide (1 ≤ z.length) := by apply decide_eq_decide.mpr; omega
  have q2 : decide ((z.length : Int) < 5) = decide (z.length ≤ 4) := by apply decide_eq_decide.mpr; omega
  obtain ⟨T, e, ec⟩ := comp_nin (S := S) (w := dgs) hz (ρ := [some (.str z), none]) rfl rfl
  have hl : isDig z = (z.cps.toList.all fun c => decide (c ∈ dgs.cps.toList)) := rfl
  rw [← hl] at ec
  by_cases h1 : 1 ≤ z.length
  · have q1' : decide ((0 : Int) < z.length) = true := by rw [q1]; exact decide_eq_true h1
    by_cases h2 : z.length ≤ 4
    · have q2' : decide ((z.length : Int) < 5) = true := by rw [q2]; exact decide_eq_true h2
      cases hd : isDig z with
      | true =>
        have hlen : z.cps.toList.length = z.length := by simp [Str.length]
        have ad := dig_all hd
        have it := int_dig h1 h2 hd
        obtain ⟨c, l, hcl⟩ : ∃ c l, z.cps.toList = c :: l := by
          cases h : z.cps.toList with
          | nil => rw [h] at hlen; simp at hlen; omega
          | cons c l => exact ⟨c, l, rfl⟩
        have hc := ad c (by rw [hcl]; exact List.mem_cons_self ..)
        have ix : ∀ S', opIxE (.str z) (.int 0) S' = some (.str ⟨#[c]⟩, S') := fun S' => opIxE_str (by omega) (by decide) (by rw [hcl]; rfl)
        have ok1 : PyData.strOk ⟨#[c]⟩ = true := by simp [PyData.strOk]; omega
        have ok0 : PyData.strOk (("0" : String) : Str) = true := by decide +kernel
        have ne : ∀ S', opNe (.str ⟨#[c]⟩) (.str ("0" : String)) S' = some (.bl (!decide (c = 48)), S') := fun S' => by
          rw [opNe_str ok1 ok0, str0]; simp
        have eq : ∀ S', opEq (.str z) (.str ("0" : String)) S' = some (.bl (decide (z.cps.toList = [48])), S') := fun S' => by
          rw [opEq_str (dig_ok hd) ok0]
          congr 3
          apply decide_eq_decide.mpr; exact z_eq0 z
        rw [hd] at ec
        rw [word_of h1 h2 hd]
        have hhd : (z.cps.toList.head? ≠ some 48) ↔ c ≠ 48 := by rw [hcl]; simp
        by_cases a : c = 48
        · rw [a] at ix ne
          by_cases b : z.cps.toList = [48]
          · rw [if_pos (.inr b)]
            refine ⟨T, ?_⟩
            unfold m_law_parse_word mkFn b_law_parse_word startE
            simp_arith [ln, q1', q2', e, ec, it, ix, ne, eq, b]
            rfl
          · rw [if_neg (by rintro (h | h); exact hhd.mp h a; exact b h)]
            refine ⟨T, ?_⟩
            unfold m_law_parse_word mkFn b_law_parse_word startE
            simp_arith [ln, q1', q2', e, ec, it, ix, ne, eq, b]
            rfl
        · rw [if_pos (.inl (hhd.mpr a))]
          refine ⟨T, ?_⟩
          unfold m_law_parse_word mkFn b_law_parse_word startE
          simp_arith [ln, q1', q2', e, ec, it, ix, ne, a]
          rfl
      | false =>
        have hw : wordP z = none := by unfold wordP; rw [hd]; simp
        rw [hw]
        rw [hd] at ec
        refine ⟨T, ?_⟩
        unfold m_law_parse_word mkFn b_law_parse_word startE
        simp_arith [ln, q1', q2', e, ec]
        rfl
    · have hw : wordP z = none := by unfold wordP; rw [decide_eq_false h2]; simp
      rw [hw]
      have q2' : decide ((z.length : Int) < 5) = false := by rw [q2]; exact decide_eq_false h2
      refine ⟨[], ?_⟩
      unfold m_law_parse_word mkFn b_law_parse_word startE
      simp_arith [ln, q1', q2']
      rfl
  · have hw : wordP z = none := by unfold wordP; rw [decide_eq_false h1]; simp
    rw [hw]
    have q1' : decide ((0 : Int) < z.length) = false := by rw [q1]; exact decide_eq_false h1
    refine ⟨[], ?_⟩
    unfold m_law_parse_word mkFn b_law_parse_word startE
    simp_arith [ln, q1']
    rfl
end
end K03

end

section
set_option maxRecDepth 100000
set_option maxHeartbeats 400000
namespace K03
open PySem L2 M1
/-- signs that stand in Python's texts -/
def okL (a : List Nat) : Prop := ∀ c ∈ a, c < 1114112
theorem okL_str {a : List Nat} (h : okL a) : PyData.strOk (SX.S a) = true := by
  unfold PyData.strOk
  rw [← Array.all_toList, List.all_eq_true]
  intro c hc
  exact decide_eq_true (h c (by simpa using hc))
theorem spl_mem {s : List Nat} : ∀ (l : List Nat) (k : Nat) (acc p : List Nat), p ∈ TL.spl s k acc l → (∀ c ∈ p, c ∈ acc ∨ c ∈ l) ∧ p.length ≤ acc.length + l.length
  | [], k, acc, p, h => by
    cases k <;> (simp [TL.spl] at h; subst h; exact ⟨fun c hc => .inl hc, by simp⟩)
  | c :: r, 0, acc, p, h => by
    simp only [TL.spl] at h
    split at h
    · rcases List.mem_cons.mp h with h | h
      · subst h; exact ⟨fun c hc => .inl hc, by simp⟩
      · obtain ⟨a, b⟩ := spl_mem r _ [] p h
        refine ⟨fun x hx => ?_, by simp at b ⊢; omega⟩
        rcases a x hx with h | h
        · simp at h
        · exact .inr (List.mem_cons_of_mem _ h)
    · obtain ⟨a, b⟩ := spl_mem r _ (acc ++ [c]) p h
      refine ⟨fun x hx => ?_, by simp at b ⊢; omega⟩
      rcases a x hx with h | h
      · rcases List.mem_append.mp h with h | h
        · exact .inl h
        · simp at h; subst h; exact .inr (List.mem_cons_self ..)
      · exact .inr (List.mem_cons_of_mem _ h)
  | c :: r, k + 1, acc, p, h => by
    simp only [TL.spl] at h
    obtain ⟨a, b⟩ := spl_mem r _ acc p h
    refine ⟨fun x hx => ?_, by simp at b ⊢; omega⟩
    rcases a x hx with h | h
    · exact .inl h
    · exact .inr (List.mem_cons_of_mem _ h)
theorem spl_ok {s l p : List Nat} (h : p ∈ TL.spl s 0 [] l) (hl : okL l) : okL p := fun c hc => by
  rcases (spl_mem l 0 [] p h).1 c hc with h | h
  · simp at h
  · exact hl c h
theorem spl_len {s l p : List Nat} (h : p ∈ TL.spl s 0 [] l) : p.length ≤ l.length := by simpa using (spl_mem l 0 [] p h).2
inductive PL where
  | bad | lab (s : List Nat) | cells (ds : List D)
def restP (a : List Nat) : PL :=
  match TL.spl [32] 0 [] a with
  | [p, q] => if SX.S p = (("word" : String) : Str) then (match wordP (SX.S q) with
      | none => .bad
      | some i => .cells [.int i]) else match idxS (SX.S p) ts_MNEMONICS with
    | none => .bad
    | some j => match wordP (SX.S q) with
      | some i => .cells [.int ((j : Int) + 1), .int i]
      | none => if nameP (SX.S q) = true then .cells [.int ((j : Int) + 1), .str (SX.S q)] else .bad
  | _ => .bad
def lineP (a : List Nat) : PL :=
  if a.drop (a.length - 1) = [58] ∧ nameP (SX.S (a.take (a.length - 1))) = true then .lab (a.take (a.length - 1)) else restP a
/-- the same of a statement -/
def PLO (pl : PL) (o : Out) (S : Store) : Prop := match pl with
  | .bad => ∃ T, o = .rt .non (S ++ T)
  | .lab b => ∃ T, o = .rt (.str (SX.S b)) (S ++ T)
  | .cells ds => ∃ T j, o = .rt (.loc (S.length + j)) (S ++ T) ∧ lstW T j = some ds
/-- what a call that reads a line gives -/
def PLR (pl : PL) (r : M1.R D) (S : Store) : Prop := match pl with
  | .bad => ∃ T, r = .ok .non (S ++ T)
  | .lab b => ∃ T, r = .ok (.str (SX.S b)) (S ++ T)
  | .cells ds => ∃ T j, r = .ok (.loc (S.length + j)) (S ++ T) ∧ lstW T j = some ds
theorem idxS_none {z : Str} : ∀ {ys : List Str}, idxS z ys = none ↔ ¬ z ∈ ys
  | [] => by simp [idxS]
  | y :: ys => by
    unfold idxS
    by_cases e : y = z
    · subst e; simp
    · have e2 : ¬ z = y := fun h => e h.symm
      rw [if_neg e, Option.map_eq_none_iff, idxS_none (ys := ys)]
      simp [e2]
theorem sl_last (a : List Nat) : Txt.slice (SX.S a) (some (-1)) none = SX.S (a.drop (a.length - 1)) := by
  by_cases h : a = []
  · subst h; decide +kernel
  · exact SX.slice_last h
theorem sl_but (a : List Nat) : Txt.slice (SX.S a) none (some (-1)) = SX.S (a.take (a.length - 1)) := by
  by_cases h : a = []
  · subst h; decide +kernel
  · exact SX.slice_butlast h
theorem S_inj {a b : List Nat} : SX.S a = SX.S b ↔ a = b := by
  constructor
  · intro h
    have := congrArg (fun s : Str => s.cps.toList) h
    simpa [SX.S] using this
  · rintro rfl; rfl
theorem S_len (a : List Nat) : (SX.S a).length = a.length := by simp [SX.S, Str.length]
theorem colon : (((":" : String)) : Str) = SX.S [58] := by decide +kernel
theorem space : (((" " : String)) : Str) = SX.S [32] := by decide +kernel
theorem newl : ((("\n" : String)) : Str) = SX.S [10] := by decide +kernel
section
variable {K : PySem.W.Frag} {S : Store}
theorem split_at (c : Nat) (hc : c < 256) {a : List Nat} (hl : a.length ≤ 1000000) (S : Store) : gSplit (.str (SX.S a)) [.str (SX.S [c])] S = some (.loc S.length, S ++ [.lst ((TL.spl [c] 0 [] a).map fun p => .str (SX.S p))]) := by
  rw [gSplit_ev (by rw [S_len]; simp) (by rw [S_len]; omega), SX.split_S (by simp) (by simp [hc])]
  rw [List.map_map]; rfl
abbrev plRest (K : PySem.W.Frag) : Sm := (sSeq (sAsg (eMb isStr gSplit (eVar 0) (aCons (eC (.str " ")) aNil)) (gN 1))
    (sSeq (sIf (tBl (eOp opNe (eCall cLen (aCons (eVar 1) aNil)) (eC (.int 2)))) (sRet (eC .non)) sNil)
    (sSeq (sAsg (eF (m_parse_word K) [] (aCons (eOp opIxE (eVar 1) (eC (.int 1))) aNil)) (gN 2))
    (sSeq (sIf (tBl (eOp opEq (eOp opIxE (eVar 1) (eC (.int 0))) (eC (.str "word")))) (sRet (eIf (tBl (eOp opIsN (eVar 2) (eC .non))) (eC .non) (eLst (aCons (eVar 2) aNil)))) sNil)
    (sSeq (sIf (tOrM (tBl (eOp opNinE (eOp opIxE (eVar 1) (eC (.int 0))) (eC (.tup (ts_MNEMONICS.map .str))))) (tAndM (tBl (eOp opIsN (eVar 2) (eC .non))) (tNotM (tTru (eF (m_is_name K) [] (aCons (eOp opIxE (eVar 1) (eC (.int 1))) aNil)))))) (sRet (eC .non)) sNil)
    (sRet (eLst (aCons (eOp opAdd (eMb isTup gIdxT (eC (.tup (ts_MNEMONICS.map .str))) (aCons (eOp opIxE (eVar 1) (eC (.int 0))) aNil)) (eC (.int 1))) (aCons (eIf (tBl (eOp opIsN (eVar 2) (eC .non))) (eOp opIxE (eVar 1) (eC (.int 1))) (eVar 2)) aNil)))))))))
theorem idx_tup {z : Str} {ys : List Str} {j : Nat} (h : idxS z ys = some j) (S : Store) : gIdxT (.tup (ys.map .str)) [.str z] S = some (.int j, S) := by
  show (((strsOf (ys.map .str)).bind (idxS z)).map fun j => (D.int j, S)) = _
  rw [strs_map]; simp [h]
theorem pl_rest {a : List Nat} (hok : okL a) (hl : a.length ≤ 1000000) (S : Store) : PLO (restP a) (plRest K [some (.str (SX.S a)), none, none] S) S := by
  have sp := fun S' => split_at 32 (by decide) hl S'
  rw [← space] at sp
  have kp : ∀ p ∈ TL.spl [32] 0 [] a, okL p ∧ p.length ≤ a.length := fun p hp => ⟨spl_ok hp hok, spl_len hp⟩
  unfold restP
  obtain ⟨ps, hps⟩ : ∃ ps, ps = TL.spl [32] 0 [] a := ⟨_, rfl⟩
  rw [← hps] at sp kp ⊢
  obtain ⟨L, hL⟩ : ∃ L : List D, L = ps.map fun p => .str (SX.S p) := ⟨_, rfl⟩
  rw [← hL] at sp
  have ln : cLen [.loc S.length] (S ++ [.lst L]) = some (.int ps.length, S ++ [.lst L]) := by rw [cLen_loc (ds := L) (by simp), hL]; simp
  have two : ps.length ≠ 2 → plRest K [some (.str (SX.S a)), none, none] S = .rt .non (S ++ [.lst L]) := fun h => by
    have d : decide ((ps.length : Int) = 2) = false := by apply decide_eq_false; omega
    simp_arith [sp, ln, d]
  match ps, hps with
  | [], _ => exact ⟨_, two (by simp)⟩
  | [p], _ => exact ⟨_, two (by simp)⟩
  | p :: q :: r :: t, _ => exact ⟨_, two (by simp)⟩
  | [p, q], _ =>
    obtain ⟨okp, lp⟩ := kp p (by simp)
    obtain ⟨okq, lq⟩ := kp q (by simp)
    have ln2 : cLen [.loc S.length] (S ++ [.lst L]) = some (.int 2, S ++ [.lst L]) := by rw [ln]; rfl
    have L2e : L = [.str (SX.S p), .str (SX.S q)] := by rw [hL]; rfl
    have x0 : ∀ X, opIxE (.loc S.length) (.int 0) (S ++ .lst L :: X) = some (.str (SX.S p), S ++ .lst L :: X) := fun X => opIxE_lst (ds := L) (by simp) (by decide) (by rw [L2e]; rfl)
    have x1 : ∀ X, opIxE (.loc S.length) (.int 1) (S ++ .lst L :: X) = some (.str (SX.S q), S ++ .lst L :: X) := fun X => opIxE_lst (ds := L) (by simp) (by decide) (by rw [L2e]; rfl)
    obtain ⟨T1, e1⟩ := parse_word_ev (K := K) (z := SX.S q) (by rw [S_len]; omega) (S ++ [.lst L])
    have eqw : ∀ S', opEq (.str (SX.S p)) (.str ("word" : String)) S' = some (.bl (decide (SX.S p = (("word" : String) : Str))), S') := fun S' => opEq_str (okL_str okp) (by decide +kernel)
    have nin : ∀ S', opNinE (.str (SX.S p)) (.tup (ts_MNEMONICS.map .str)) S' = some (.bl (!decide (SX.S p ∈ ts_MNEMONICS)), S') := fun S' => opNinE_tup _ _
    obtain ⟨MN, hMN⟩ : ∃ M : List D, M = ts_MNEMONICS.map .str := ⟨_, rfl⟩
    have idx := fun j (h : idxS (SX.S p) ts_MNEMONICS = some j) S' => idx_tup h S'
    rw [← hMN] at nin
    simp only [← hMN] at idx
    obtain ⟨T2, e2⟩ := is_name_ev (K := K) (z := SX.S q) (by rw [S_len]; omega) (S ++ [.lst L] ++ T1)
    simp only [List.append_assoc, List.cons_append, List.nil_append] at e1 e2
    simp only
    by_cases hw : SX.S p = (("word" : String) : Str)
    · rw [if_pos hw]
      have dw : decide (SX.S p = (("word" : String) : Str)) = true := decide_eq_true hw
      rw [dw] at eqw
      cases hq : wordP (SX.S q) with
      | none =>
        rw [hq] at e1
        simp only [optD] at e1
        refine ⟨.lst L :: T1, ?_⟩
        simp_arith [sp, ln2, x1, e1, x0, eqw]
      | some i =>
        rw [hq] at e1
        simp only [optD] at e1
        refine ⟨.lst L :: (T1 ++ [.lst [.int i]]), T1.length + 1, ?_, by rw [lstW_cs, lstW_pk0]; rfl⟩
        simp_arith [sp, ln2, x1, e1, x0, eqw]
    · rw [if_neg hw]
      have dw : decide (SX.S p = (("word" : String) : Str)) = false := decide_eq_false hw
      rw [dw] at eqw
      cases hi : idxS (SX.S p) ts_MNEMONICS with
      | none =>
        have dm : decide (SX.S p ∈ ts_MNEMONICS) = false := decide_eq_false (idxS_none.mp hi)
        rw [dm] at nin
        refine ⟨.lst L :: T1, ?_⟩
        cases hq : wordP (SX.S q) with
        | none => rw [hq] at e1; simp only [optD] at e1; simp_arith [← hMN, sp, ln2, x1, e1, x0, eqw, nin]
        | some i => rw [hq] at e1; simp only [optD] at e1; simp_arith [← hMN, sp, ln2, x1, e1, x0, eqw, nin]
      | some j =>
        have dm : decide (SX.S p ∈ ts_MNEMONICS) = true := by
          apply decide_eq_true
          by_cases h : SX.S p ∈ ts_MNEMONICS
          · exact h
          · rw [idxS_none.mpr h] at hi; cases hi
        rw [dm] at nin
        have idx := idx j hi
        have itp : ∀ S', isTup S' (.tup MN) = true := fun _ => rfl
        cases hq : wordP (SX.S q) with
        | some i =>
          rw [hq] at e1
          simp only [optD] at e1
          refine ⟨.lst L :: (T1 ++ [.lst [.int ((j : Int) + 1), .int i]]), T1.length + 1, ?_, by rw [lstW_cs, lstW_pk0]; rfl⟩
          simp_arith [← hMN, sp, ln2, x1, e1, x0, eqw, nin, itp, idx]
        | none =>
          rw [hq] at e1
          simp only [optD] at e1
          simp only
          cases hn : nameP (SX.S q) with
          | true =>
            rw [if_pos rfl]
            rw [hn] at e2
            refine ⟨.lst L :: (T1 ++ (T2 ++ [.lst [.int ((j : Int) + 1), .str (SX.S q)]])), T1.length + (T2.length + 1), ?_, by rw [show T1.length + (T2.length + 1) = (T1.length + T2.length) + 1 by omega, lstW_cs, lstW_pk, lstW_pk0]; rfl⟩
            simp_arith [← hMN, sp, ln2, x1, e1, x0, eqw, nin, e2, itp, idx]
          | false =>
            rw [if_neg (by decide)]
            rw [hn] at e2
            refine ⟨.lst L :: (T1 ++ T2), ?_⟩
            simp_arith [← hMN, sp, ln2, x1, e1, x0, eqw, nin, e2]
theorem parse_line_ev {a : List Nat} (hok : okL a) (hl : a.length ≤ 1000000) (S : Store) : PLR (lineP a) (m_parse_line K [.str (SX.S a)] S) S := by
  have okd : okL (a.drop (a.length - 1)) := fun c hc => hok c (List.mem_of_mem_drop hc)
  have okt : okL (a.take (a.length - 1)) := fun c hc => hok c (List.mem_of_mem_take hc)
  have s1 : ∀ S', opSl (.str (SX.S a)) (some (-1)) none S' = some (.str (SX.S (a.drop (a.length - 1))), S') := fun S' => by rw [opSl_str (by rw [S_len]; omega), sl_last]
  have s2 : ∀ S', opSl (.str (SX.S a)) none (some (-1)) S' = some (.str (SX.S (a.take (a.length - 1))), S') := fun S' => by rw [opSl_str (by rw [S_len]; omega), sl_but]
  have eqc : ∀ S', opEq (.str (SX.S (a.drop (a.length - 1)))) (.str (":" : String)) S' = some (.bl (decide (a.drop (a.length - 1) = [58])), S') := fun S' => by
    rw [opEq_str (okL_str okd) (by decide +kernel), colon]
    congr 3
    apply decide_eq_decide.mpr; exact S_inj
  obtain ⟨T1, e1⟩ := is_name_ev (K := K) (z := SX.S (a.take (a.length - 1))) (by rw [S_len, List.length_take]; omega) S
  by_cases h1 : a.drop (a.length - 1) = [58] ∧ nameP (SX.S (a.take (a.length - 1))) = true
  · unfold lineP
    rw [if_pos h1]
    have d1 : decide (a.drop (a.length - 1) = [58]) = true := decide_eq_true h1.1
    rw [h1.2] at e1
    rw [d1] at eqc
    refine ⟨T1, ?_⟩
    unfold m_parse_line mkFn b_parse_line startE
    simp_arith [s1, eqc, s2, e1]
  · -- the first question's store
    obtain ⟨U, hU⟩ : ∃ U : Store, ∀ k : M1.Sm, ((sIf (tAndM (tBl (eOp opEq (eSl (eVar 0) (pAt (eNeg (eC (.int 1)))) pNo) (eC (.str ":")))) (tTru (eF (m_is_name K) [] (aCons (eSl (eVar 0) pNo (pAt (eNeg (eC (.int 1))))) aNil)))) (sRet (eSl (eVar 0) pNo (pAt (eNeg (eC (.int 1)))))) sNil) [some (.str (SX.S a)), none, none] S).seq k = k [some (.str (SX.S a)), none, none] (S ++ U) := by
      by_cases h2 : a.drop (a.length - 1) = [58]
      · have h3 : nameP (SX.S (a.take (a.length - 1))) = false := by
          cases h : nameP (SX.S (a.take (a.length - 1))) with
          | true => exact absurd ⟨h2, h⟩ h1
          | false => rfl
        have d1 : decide (a.drop (a.length - 1) = [58]) = true := decide_eq_true h2
        rw [h3] at e1
        rw [d1] at eqc
        exact ⟨T1, fun k => by simp_arith [s1, eqc, s2, e1]⟩
      · have d1 : decide (a.drop (a.length - 1) = [58]) = false := decide_eq_false h2
        rw [d1] at eqc
        exact ⟨[], fun k => by simp_arith [s1, eqc, List.append_nil]⟩
    unfold lineP
    rw [if_neg h1]
    have h := pl_rest (K := K) hok hl (S ++ U)
    have e : m_parse_line K [.str (SX.S a)] S = match plRest K [some (.str (SX.S a)), none, none] (S ++ U) with
      | .nx _ S' => .ok .non S'
      | .rt d S' => .ok d S'
      | .ex C d _ S' => .ex C d S'
      | _ => .er := by
      rw [← hU (plRest K)]; rfl
    rw [e]
    cases hp : restP a with
    | bad =>
      rw [hp] at h
      obtain ⟨T, h⟩ := h
      rw [h]
      exact ⟨U ++ T, by rw [List.append_assoc]⟩
    | lab b =>
      rw [hp] at h
      obtain ⟨T, h⟩ := h
      rw [h]
      exact ⟨U ++ T, by rw [List.append_assoc]⟩
    | cells ds =>
      rw [hp] at h
      obtain ⟨T, j, h, hj⟩ := h
      rw [h]
      exact ⟨U ++ T, U.length + j, by rw [List.append_assoc, List.length_append, Nat.add_assoc], by rw [lstW_pk]; exact hj⟩
end
end K03

end

section
set_option maxRecDepth 100000
set_option maxHeartbeats 400000
namespace K03
open PySem L2 M1
section
variable {K : PySem.W.Frag} {S : Store}
def AM : List D := ts_MNEMONICS.map .str
theorem mnem_ev (S : Store) : ∃ T j, m_law_mnemonics K [] S = .ok (.loc (S.length + j)) (S ++ T) ∧ lstW T j = some (AM.take 15) := by
  obtain ⟨A, hA⟩ : ∃ A : List D, A = [.str ("set" : String), .str ("load" : String), .str ("store" : String), .str ("loadi" : String), .str ("storei" : String), .str ("add" : String), .str ("sub" : String)] := ⟨_, rfl⟩
  obtain ⟨B, hB⟩ : ∃ A : List D, A = [.str ("less" : String), .str ("jump" : String), .str ("jumpz" : String), .str ("trap" : String), .str ("out" : String), .str ("in" : String)] := ⟨_, rfl⟩
  obtain ⟨C, hC⟩ : ∃ A : List D, A = [.str ("halt" : String), .str ("resume" : String)] := ⟨_, rfl⟩
  have lA : A.length = 7 := by rw [hA]; rfl
  have lB : B.length = 6 := by rw [hB]; rfl
  have lC : C.length = 2 := by rw [hC]; rfl
  obtain ⟨AB, hAB⟩ : ∃ X : List D, X = A ++ B := ⟨_, rfl⟩
  obtain ⟨M, hM⟩ : ∃ X : List D, X = AB ++ C := ⟨_, rfl⟩
  have a1 : opAdd (.loc S.length) (.loc (S.length + 1)) (S ++ [.lst A, .lst B]) = some (.loc (S.length + 2), S ++ [.lst A, .lst B, .lst AB]) := by
    rw [opAdd_lst (a := A) (b := B) (by rw [lstW_pk0]; rfl) (by rw [lstW_pk]; rfl) (by omega), hAB]; simp
  have a2 : opAdd (.loc (S.length + 2)) (.loc (S.length + 3)) (S ++ [.lst A, .lst B, .lst AB, .lst C]) = some (.loc (S.length + 4), S ++ [.lst A, .lst B, .lst AB, .lst C, .lst M]) := by
    rw [opAdd_lst (a := AB) (b := C) (by rw [lstW_pk]; rfl) (by rw [lstW_pk]; rfl) (by rw [hAB, List.length_append]; omega), hM]; simp
  refine ⟨[.lst A, .lst B, .lst AB, .lst C, .lst M], 4, ?_, ?_⟩
  · have hA' := hA.symm
    have hB' := hB.symm
    have hC' := hC.symm
    unfold m_law_mnemonics mkFn b_law_mnemonics startE
    simp_arith [hA', hB', hC', lA, lB, lC, a1, a2]
  · show some M = some _
    rw [hM, hAB, hA, hB, hC]; rfl
theorem all_ev (S : Store) : ∃ T j, m_law_all_mnemonics K [] S = .ok (.loc (S.length + j)) (S ++ T) ∧ lstW T j = some AM := by
  obtain ⟨C, hC⟩ : ∃ A : List D, A = [.str ("custom0" : String), .str ("custom1" : String), .str ("custom2" : String), .str ("custom3" : String), .str ("custom4" : String), .str ("custom5" : String), .str ("custom6" : String), .str ("custom7" : String)] := ⟨_, rfl⟩
  have lC : C.length = 8 := by rw [hC]; rfl
  obtain ⟨T, j, e, hj⟩ := mnem_ev (K := K) (S ++ [.lst C])
  have lM : (AM.take 15).length = 15 := by rfl
  have a1 : opAdd (.loc ((S ++ [SO.lst C]).length + j)) (.loc S.length) (S ++ [.lst C] ++ T) = some (.loc (S ++ [SO.lst C] ++ T).length, S ++ [.lst C] ++ T ++ [.lst AM]) := by
    rw [opAdd_lst (a := AM.take 15) (b := C) (by rw [lstW_pk]; exact hj) (by rw [List.append_assoc, lstW_pk0]; rfl) (by rw [lM]; omega)]
    congr 4
    rw [hC]; rfl
  simp only [List.append_assoc, List.cons_append, List.nil_append, List.length_append, List.length_cons, List.length_nil, Nat.reduceAdd, Nat.add_assoc] at e a1
  refine ⟨.lst C :: (T ++ [.lst AM]), T.length + 1, ?_, by rw [lstW_cs, lstW_pk0]; rfl⟩
  have hC' := hC.symm
  unfold m_law_all_mnemonics mkFn b_law_all_mnemonics startE
  simp_arith [hC', lC, e, a1]
theorem idx_lst {n : Nat} {z : Str} {ys : List Str} {j : Nat} (hS : lstOf S n = some (ys.map .str)) (h : idxS z ys = some j) : gIdxL (.loc n) [.str z] S = some (.int j, S) := by
  show ((((lstOf S n).bind strsOf).bind (idxS z)).map fun j => (D.int j, S)) = _
  rw [hS, Option.bind_some, strs_map]; simp [h]
abbrev lplRest (K : PySem.W.Frag) : Sm := (sSeq (sAsg (eMb isStr gSplit (eVar 0) (aCons (eC (.str " ")) aNil)) (gN 1))
    (sSeq (sIf (tBl (eOp opNe (eCall cLen (aCons (eVar 1) aNil)) (eC (.int 2)))) (sRet (eC .non)) sNil)
    (sSeq (sAsg (eF (m_law_parse_word K) [] (aCons (eOp opIxE (eVar 1) (eC (.int 1))) aNil)) (gN 2))
    (sSeq (sIf (tBl (eOp opEq (eOp opIxE (eVar 1) (eC (.int 0))) (eC (.str "word")))) (sRet (eIf (tBl (eOp opIsN (eVar 2) (eC .non))) (eC .non) (eLst (aCons (eVar 2) aNil)))) sNil)
    (sSeq (sIf (tOrM (tBl (eOp opNinE (eOp opIxE (eVar 1) (eC (.int 0))) (eF0 (m_law_all_mnemonics K) []))) (tAndM (tBl (eOp opIsN (eVar 2) (eC .non))) (tNotM (tTru (eF (m_law_is_name K) [] (aCons (eOp opIxE (eVar 1) (eC (.int 1))) aNil)))))) (sRet (eC .non)) sNil)
    (sRet (eLst (aCons (eOp opAdd (eMb isLst gIdxL (eF0 (m_law_all_mnemonics K) []) (aCons (eOp opIxE (eVar 1) (eC (.int 0))) aNil)) (eC (.int 1))) (aCons (eIf (tBl (eOp opIsN (eVar 2) (eC .non))) (eOp opIxE (eVar 1) (eC (.int 1))) (eVar 2)) aNil)))))))))
theorem lpl_rest {a : List Nat} (hok : okL a) (hl : a.length ≤ 1000000) (S : Store) : PLO (restP a) (lplRest K [some (.str (SX.S a)), none, none] S) S := by
  have sp := fun S' => split_at 32 (by decide) hl S'
  rw [← space] at sp
  have kp : ∀ p ∈ TL.spl [32] 0 [] a, okL p ∧ p.length ≤ a.length := fun p hp => ⟨spl_ok hp hok, spl_len hp⟩
  unfold restP
  obtain ⟨ps, hps⟩ : ∃ ps, ps = TL.spl [32] 0 [] a := ⟨_, rfl⟩
  rw [← hps] at sp kp ⊢
  obtain ⟨L, hL⟩ : ∃ L : List D, L = ps.map fun p => .str (SX.S p) := ⟨_, rfl⟩
  rw [← hL] at sp
  have ln : cLen [.loc S.length] (S ++ [.lst L]) = some (.int ps.length, S ++ [.lst L]) := by rw [cLen_loc (ds := L) (by simp), hL]; simp
  have two : ps.length ≠ 2 → lplRest K [some (.str (SX.S a)), none, none] S = .rt .non (S ++ [.lst L]) := fun h => by
    have d : decide ((ps.length : Int) = 2) = false := by apply decide_eq_false; omega
    simp_arith [sp, ln, d]
  match ps, hps with
  | [], _ => exact ⟨_, two (by simp)⟩
  | [p], _ => exact ⟨_, two (by simp)⟩
  | p :: q :: r :: t, _ => exact ⟨_, two (by simp)⟩
  | [p, q], _ =>
    obtain ⟨okp, lp⟩ := kp p (by simp)
    obtain ⟨okq, lq⟩ := kp q (by simp)
    have ln2 : cLen [.loc S.length] (S ++ [.lst L]) = some (.int 2, S ++ [.lst L]) := by rw [ln]; rfl
    have L2e : L = [.str (SX.S p), .str (SX.S q)] := by rw [hL]; rfl
    have x0 : ∀ X, opIxE (.loc S.length) (.int 0) (S ++ .lst L :: X) = some (.str (SX.S p), S ++ .lst L :: X) := fun X => opIxE_lst (ds := L) (by simp) (by decide) (by rw [L2e]; rfl)
    have x1 : ∀ X, opIxE (.loc S.length) (.int 1) (S ++ .lst L :: X) = some (.str (SX.S q), S ++ .lst L :: X) := fun X => opIxE_lst (ds := L) (by simp) (by decide) (by rw [L2e]; rfl)
    obtain ⟨T1, e1⟩ := law_parse_word_ev (K := K) (z := SX.S q) (by rw [S_len]; omega) (S ++ [.lst L])
    have eqw : ∀ S', opEq (.str (SX.S p)) (.str ("word" : String)) S' = some (.bl (decide (SX.S p = (("word" : String) : Str))), S') := fun S' => opEq_str (okL_str okp) (by decide +kernel)
    obtain ⟨T3, j3, e3, h3⟩ := all_ev (K := K) (S ++ [.lst L] ++ T1)
    obtain ⟨T2, e2⟩ := law_is_name_ev (K := K) (z := SX.S q) (by rw [S_len]; omega) (S ++ [.lst L] ++ T1 ++ T3)
    obtain ⟨n3, hn3⟩ : ∃ n : Nat, n = (S ++ [SO.lst L] ++ T1).length + j3 := ⟨_, rfl⟩
    rw [← hn3] at e3
    have nin : opNinE (.str (SX.S p)) (.loc n3) (S ++ [.lst L] ++ T1 ++ T3) = some (.bl (!decide (SX.S p ∈ ts_MNEMONICS)), S ++ [.lst L] ++ T1 ++ T3) := opNinE_lst (lstOf_W (by rw [hn3, lstW_pk]; exact h3))
    simp only [List.append_assoc, List.cons_append, List.nil_append] at e1 e2 e3 nin
    simp only
    by_cases hw : SX.S p = (("word" : String) : Str)
    · rw [if_pos hw]
      have dw : decide (SX.S p = (("word" : String) : Str)) = true := decide_eq_true hw
      rw [dw] at eqw
      cases hq : wordP (SX.S q) with
      | none =>
        rw [hq] at e1
        simp only [optD] at e1
        refine ⟨.lst L :: T1, ?_⟩
        simp_arith [sp, ln2, x1, e1, x0, eqw]
      | some i =>
        rw [hq] at e1
        simp only [optD] at e1
        refine ⟨.lst L :: (T1 ++ [.lst [.int i]]), T1.length + 1, ?_, by rw [lstW_cs, lstW_pk0]; rfl⟩
        simp_arith [sp, ln2, x1, e1, x0, eqw]
    · rw [if_neg hw]
      have dw : decide (SX.S p = (("word" : String) : Str)) = false := decide_eq_false hw
      rw [dw] at eqw
      cases hi : idxS (SX.S p) ts_MNEMONICS with
      | none =>
        have dm : decide (SX.S p ∈ ts_MNEMONICS) = false := decide_eq_false (idxS_none.mp hi)
        rw [dm] at nin
        refine ⟨.lst L :: (T1 ++ T3), ?_⟩
        cases hq : wordP (SX.S q) with
        | none => rw [hq] at e1; simp only [optD] at e1; simp_arith [sp, ln2, x1, e1, x0, eqw, e3, nin]
        | some i => rw [hq] at e1; simp only [optD] at e1; simp_arith [sp, ln2, x1, e1, x0, eqw, e3, nin]
      | some j =>
        have dm : decide (SX.S p ∈ ts_MNEMONICS) = true := by
          apply decide_eq_true
          by_cases h : SX.S p ∈ ts_MNEMONICS
          · exact h
          · rw [idxS_none.mpr h] at hi; cases hi
        rw [dm] at nin
        cases hq : wordP (SX.S q) with
        | some i =>
          rw [hq] at e1
          simp only [optD] at e1
          obtain ⟨T4, j4, e4, h4⟩ := all_ev (K := K) (S ++ [.lst L] ++ T1 ++ T3)
          obtain ⟨n4, hn4⟩ : ∃ n : Nat, n = (S ++ [SO.lst L] ++ T1 ++ T3).length + j4 := ⟨_, rfl⟩
          rw [← hn4] at e4
          have l4 : lstOf (S ++ [.lst L] ++ T1 ++ T3 ++ T4) n4 = some (ts_MNEMONICS.map .str) := lstOf_W (by rw [hn4, lstW_pk]; exact h4)
          have idx := idx_lst l4 hi
          have itl := isLst_of l4
          simp only [List.append_assoc, List.cons_append, List.nil_append] at e4 idx itl
          refine ⟨.lst L :: (T1 ++ (T3 ++ (T4 ++ [.lst [.int ((j : Int) + 1), .int i]]))), T1.length + (T3.length + (T4.length + 1)), ?_, by rw [show T1.length + (T3.length + (T4.length + 1)) = (T1.length + (T3.length + T4.length)) + 1 by omega, lstW_cs, lstW_pk, lstW_pk, lstW_pk0]; rfl⟩
          simp_arith [sp, ln2, x1, e1, x0, eqw, e3, nin, e4, itl, idx]
        | none =>
          rw [hq] at e1
          simp only [optD] at e1
          simp only
          cases hn : nameP (SX.S q) with
          | true =>
            rw [if_pos rfl]
            rw [hn] at e2
            obtain ⟨T4, j4, e4, h4⟩ := all_ev (K := K) (S ++ [.lst L] ++ T1 ++ T3 ++ T2)
            obtain ⟨n4, hn4⟩ : ∃ n : Nat, n = (S ++ [SO.lst L] ++ T1 ++ T3 ++ T2).length + j4 := ⟨_, rfl⟩
            rw [← hn4] at e4
            have l4 : lstOf (S ++ [.lst L] ++ T1 ++ T3 ++ T2 ++ T4) n4 = some (ts_MNEMONICS.map .str) := lstOf_W (by rw [hn4, lstW_pk]; exact h4)
            have idx := idx_lst l4 hi
            have itl := isLst_of l4
            simp only [List.append_assoc, List.cons_append, List.nil_append] at e4 idx itl
            refine ⟨.lst L :: (T1 ++ (T3 ++ (T2 ++ (T4 ++ [.lst [.int ((j : Int) + 1), .str (SX.S q)]])))), T1.length + (T3.length + (T2.length + (T4.length + 1))), ?_, by rw [show T1.length + (T3.length + (T2.length + (T4.length + 1))) = (T1.length + (T3.length + (T2.length + T4.length))) + 1 by omega, lstW_cs, lstW_pk, lstW_pk, lstW_pk, lstW_pk0]; rfl⟩
            simp_arith [sp, ln2, x1, e1, x0, eqw, e3, nin, e2, e4, itl, idx]
          | false =>
            rw [if_neg (by decide)]
            rw [hn] at e2
            refine ⟨.lst L :: (T1 ++ (T3 ++ T2)), ?_⟩
            simp_arith [sp, ln2, x1, e1, x0, eqw, e3, nin, e2]
theorem law_parse_line_ev {a : List Nat} (hok : okL a) (hl : a.length ≤ 1000000) (S : Store) : PLR (lineP a) (m_law_parse_line K [.str (SX.S a)] S) S := by
  have okd : okL (a.drop (a.length - 1)) := fun c hc => hok c (List.mem_of_mem_drop hc)
  have okt : okL (a.take (a.length - 1)) := fun c hc => hok c (List.mem_of_mem_take hc)
  have s1 : ∀ S', opSl (.str (SX.S a)) (some (-1)) none S' = some (.str (SX.S (a.drop (a.length - 1))), S') := fun S' => by rw [opSl_str (by rw [S_len]; omega), sl_last]
  have s2 : ∀ S', opSl (.str (SX.S a)) none (some (-1)) S' = some (.str (SX.S (a.take (a.length - 1))), S') := fun S' => by rw [opSl_str (by rw [S_len]; omega), sl_but]
  have eqc : ∀ S', opEq (.str (SX.S (a.drop (a.length - 1)))) (.str (":" : String)) S' = some (.bl (decide (a.drop (a.length - 1) = [58])), S') := fun S' => by
    rw [opEq_str (okL_str okd) (by decide +kernel), colon]
    congr 3
    apply decide_eq_decide.mpr; exact S_inj
  obtain ⟨T1, e1⟩ := law_is_name_ev (K := K) (z := SX.S (a.take (a.length - 1))) (by rw [S_len, List.length_take]; omega) S
  by_cases h1 : a.drop (a.length - 1) = [58] ∧ nameP (SX.S (a.take (a.length - 1))) = true
  · unfold lineP
    rw [if_pos h1]
    have d1 : decide (a.drop (a.length - 1) = [58]) = true := decide_eq_true h1.1
    rw [h1.2] at e1
    rw [d1] at eqc
    refine ⟨T1, ?_⟩
    unfold m_law_parse_line mkFn b_law_parse_line startE
    simp_arith [s1, eqc, s2, e1]
  · -- the first question's store
    obtain ⟨U, hU⟩ : ∃ U : Store, ∀ k : M1.Sm, ((sIf (tAndM (tBl (eOp opEq (eSl (eVar 0) (pAt (eNeg (eC (.int 1)))) pNo) (eC (.str ":")))) (tTru (eF (m_law_is_name K) [] (aCons (eSl (eVar 0) pNo (pAt (eNeg (eC (.int 1))))) aNil)))) (sRet (eSl (eVar 0) pNo (pAt (eNeg (eC (.int 1)))))) sNil) [some (.str (SX.S a)), none, none] S).seq k = k [some (.str (SX.S a)), none, none] (S ++ U) := by
      by_cases h2 : a.drop (a.length - 1) = [58]
      · have h3 : nameP (SX.S (a.take (a.length - 1))) = false := by
          cases h : nameP (SX.S (a.take (a.length - 1))) with
          | true => exact absurd ⟨h2, h⟩ h1
          | false => rfl
        have d1 : decide (a.drop (a.length - 1) = [58]) = true := decide_eq_true h2
        rw [h3] at e1
        rw [d1] at eqc
        exact ⟨T1, fun k => by simp_arith [s1, eqc, s2, e1]⟩
      · have d1 : decide (a.drop (a.length - 1) = [58]) = false := decide_eq_false h2
        rw [d1] at eqc
        exact ⟨[], fun k => by simp_arith [s1, eqc, List.append_nil]⟩
    unfold lineP
    rw [if_neg h1]
    have h := lpl_rest (K := K) hok hl (S ++ U)
    have e : m_law_parse_line K [.str (SX.S a)] S = match lplRest K [some (.str (SX.S a)), none, none] (S ++ U) with
      | .nx _ S' => .ok .non S'
      | .rt d S' => .ok d S'
      | .ex C d _ S' => .ex C d S'
      | _ => .er := by
      rw [← hU (lplRest K)]; rfl
    rw [e]
    cases hp : restP a with
    | bad =>
      rw [hp] at h
      obtain ⟨T, h⟩ := h
      rw [h]
      exact ⟨U ++ T, by rw [List.append_assoc]⟩
    | lab b =>
      rw [hp] at h
      obtain ⟨T, h⟩ := h
      rw [h]
      exact ⟨U ++ T, by rw [List.append_assoc]⟩
    | cells ds =>
      rw [hp] at h
      obtain ⟨T, j, h, hj⟩ := h
      rw [h]
      exact ⟨U ++ T, U.length + j, by rw [List.append_assoc, List.length_append, Nat.add_assoc], by rw [lstW_pk]; exact hj⟩
end
end K03

end

section
set_option maxRecDepth 100000
set_option maxHeartbeats 400000
namespace K03
open PySem L2 M1
structure AS where
  cs : List D
  lb : List (DK × D)
  os : List Int
def stepA (n : Nat) (pl : PL) (s : AS) : Except Nat AS := match pl with
  | .bad => .error n
  | .lab b => if (valD s.lb (.inr (SX.S b))).isSome = true then .error n else .ok ⟨s.cs, putKD s.lb (.inr (SX.S b)) (.int s.cs.length), s.os⟩
  | .cells ds => if 4000 < s.cs.length + ds.length then .error n else .ok ⟨s.cs ++ ds, s.lb, s.os ++ List.replicate ds.length (n : Int)⟩
def loopA : List (List Nat) → Nat → AS → Except Nat AS
  | [], _, s => .ok s
  | l :: ls, n, s => match stepA n (lineP l) s with
    | .error e => .error e
    | .ok s' => loopA ls (n + 1) s'
/-- what stands in the store while lines are read -/
structure AI (U : Store) (ls : List (List Nat)) (s : AS) : Prop where
  l : lstW U 1 = some (ls.map fun p => .str (SX.S p))
  c : lstW U 2 = some s.cs
  d : U[3]? = some (.dic s.lb)
  o : lstW U 4 = some (s.os.map .int)
theorem lt_get {U : Store} {i : Nat} {o : SO} (h : U[i]? = some o) : i < U.length := by
  by_cases hl : i < U.length
  · exact hl
  · rw [List.getElem?_eq_none (by omega)] at h; cases h
theorem AI.app {U T : Store} {ls s} (h : AI U ls s) : AI (U ++ T) ls s := ⟨lstW_app h.l, lstW_app h.c, by rw [List.getElem?_append_left (lt_get h.d)]; exact h.d, lstW_app h.o⟩
theorem lstW_set_ne {U : Store} {i j : Nat} {o : SO} (h : i ≠ j) : lstW (U.set i o) j = lstW U j := by
  unfold lstW; rw [List.getElem?_set_ne h]
theorem lstW_set_eq {U : Store} {i : Nat} {xs : List D} (h : i < U.length) : lstW (U.set i (.lst xs)) i = some xs := by
  unfold lstW; rw [List.getElem?_set_self h]
theorem AI.setC {U : Store} {ls} {s : AS} {xs : List D} (h : AI U ls s) : AI (U.set 2 (.lst xs)) ls ⟨xs, s.lb, s.os⟩ :=
  ⟨by rw [lstW_set_ne (by decide)]; exact h.l, lstW_set_eq (lt_of_lstW h.c), by rw [List.getElem?_set_ne (by decide)]; exact h.d, by rw [lstW_set_ne (by decide)]; exact h.o⟩
theorem AI.setO {U : Store} {ls} {s : AS} {xs : List Int} (h : AI U ls s) : AI (U.set 4 (.lst (xs.map .int))) ls ⟨s.cs, s.lb, xs⟩ :=
  ⟨by rw [lstW_set_ne (by decide)]; exact h.l, by rw [lstW_set_ne (by decide)]; exact h.c, by rw [List.getElem?_set_ne (by decide)]; exact h.d, lstW_set_eq (lt_of_lstW h.o)⟩
theorem AI.setD {U : Store} {ls} {s : AS} {kvs} (h : AI U ls s) : AI (U.set 3 (.dic kvs)) ls ⟨s.cs, kvs, s.os⟩ :=
  ⟨by rw [lstW_set_ne (by decide)]; exact h.l, by rw [lstW_set_ne (by decide)]; exact h.c, by rw [List.getElem?_set_self (lt_get h.d)], by rw [lstW_set_ne (by decide)]; exact h.o⟩
section
variable {K : PySem.W.Frag} {S : Store}
abbrev PE (K : PySem.W.Frag) : Value := .ref (He.ga K "ParseError")
theorem cIsi_lst {l : Nat} {ds : List D} (h : lstW S l = some ds) : cIsi [.loc l, .ty "str"] S = some (.bl false, S) := by
  unfold lstW at h
  show (if ("str" : String) ∈ isTys then (tyD S (.loc l)).map fun t => (D.bl (isaB t "str"), S) else none) = _
  rw [if_pos (by simp [isTys])]
  split at h
  · rename_i xs hx; simp [tyD, hx, isaB]
  · cases h
theorem cIsi_lstL {l : Nat} {ds : List D} (h : lstW S l = some ds) : cIsi [.loc l, .ty "list"] S = some (.bl true, S) := by
  unfold lstW at h
  show (if ("list" : String) ∈ isTys then (tyD S (.loc l)).map fun t => (D.bl (isaB t "list"), S) else none) = _
  rw [if_pos (by simp [isTys])]
  split at h
  · rename_i xs hx; simp [tyD, hx, isaB]
  · cases h
abbrev asmB (K : PySem.W.Frag) : Sm := (sSeq (sAsg (eF (m_parse_line K) [] (aCons (eVar 7) aNil)) (gN 8))
    (sSeq (sIf (tOrM (tBl (eOp opIsN (eVar 8) (eC .non))) (tAndM (tTru (eCall cIsi (aCons (eVar 8) (aCons (eC (.ty "str")) aNil)))) (tBl (eOp opInE (eVar 8) (eVar 4))))) (sRaise1 (He.ga K "ParseError") "line" (aCons (eVar 6) aNil)) sNil)
    (sSeq (sIf (tTru (eCall cIsi (aCons (eVar 8) (aCons (eC (.ty "str")) aNil)))) (sSeq (sAsgX (eCall cLen (aCons (eVar 3) aNil)) (xSub (eVar 4) (eVar 8) stE))
    sCnt) sNil)
    (sSeq (sIf (tBl (eOp opGt (eOp opAdd (eCall cLen (aCons (eVar 3) aNil)) (eCall cLen (aCons (eVar 8) aNil))) (eC (.int 4000)))) (sRaise1 (He.ga K "ParseError") "line" (aCons (eVar 6) aNil)) sNil)
    (sSeq (sExpr (eMb isLst gExt (eVar 3) (aCons (eVar 8) aNil)))
    (sExpr (eMb isLst gExt (eVar 5) (aCons (eOp opMulE (eLst (aCons (eVar 6) aNil)) (eCall cLen (aCons (eVar 8) aNil))) aNil))))))))
abbrev asmR (S : Store) (t : D) (rest : D) (x6 x7 x8 : Option D) : M1.Env := [some t, some (.loc (S.length + 1)), some rest, some (.loc (S.length + 2)), some (.loc (S.length + 3)), some (.loc (S.length + 4)), x6, x7, x8, none]
theorem asm_step {t rest : D} {l : List Nat} {ls : List (List Nat)} {n : Nat} {s : AS} {U : Store} {x8 : Option D} (hA : AI U ls s) (hok : okL l) (hl : l.length ≤ 1000000) (hcs : s.cs.length ≤ 4000) (hos : s.os.length ≤ 4000) (hlb : s.lb.length < 1000000) :
    match stepA n (lineP l) s with
    | .ok s' => ∃ U' x8', (asmB K (asmR S t rest (some (.int n)) (some (.str (SX.S l))) x8) (S ++ U) = .nx (asmR S t rest (some (.int n)) (some (.str (SX.S l))) x8') (S ++ U') ∨ asmB K (asmR S t rest (some (.int n)) (some (.str (SX.S l))) x8) (S ++ U) = .ct (asmR S t rest (some (.int n)) (some (.str (SX.S l))) x8') (S ++ U')) ∧ AI U' ls s'
    | .error e => ∃ U' d ρ', asmB K (asmR S t rest (some (.int n)) (some (.str (SX.S l))) x8) (S ++ U) = .ex (PE K) (some (S.length + d)) ρ' (S ++ U') ∧ U'[d]? = some (.xd [("line", .int e)]) := by
  have h := parse_line_ev (K := K) hok hl (S ++ U)
  cases hp : lineP l with
  | bad =>
    rw [hp] at h
    obtain ⟨T, e⟩ := h
    simp only [List.append_assoc] at e
    simp only [stepA]
    refine ⟨U ++ T ++ [.xd [("line", .int n)]], (U ++ T).length, asmR S t rest (some (.int n)) (some (.str (SX.S l))) (some .non), ?_, by simp⟩
    · simp_arith [e]
  | lab b =>
    rw [hp] at h
    obtain ⟨T, e⟩ := h
    simp only [List.append_assoc] at e
    have A2 : AI (U ++ T) ls s := hA.app
    have hd : (S ++ (U ++ T))[S.length + 3]? = some (.dic s.lb) := by rw [List.getElem?_append_right (by omega)]; simpa using A2.d
    have it : ∀ S', cIsi [.str (SX.S b), .ty "str"] S' = some (.bl true, S') := fun S' => rfl
    have ein := opInE_dic (k := .str (SX.S b)) (kk := .inr (SX.S b)) hd rfl
    simp only [stepA]
    cases hv : (valD s.lb (.inr (SX.S b))).isSome with
    | true =>
      rw [hv] at ein
      rw [if_pos rfl]
      refine ⟨U ++ T ++ [.xd [("line", .int n)]], (U ++ T).length, asmR S t rest (some (.int n)) (some (.str (SX.S l))) (some (.str (SX.S b))), ?_, by simp⟩
      · simp_arith [e, it, ein]
    | false =>
      rw [hv] at ein
      rw [if_neg (by decide)]
      have ln : cLen [.loc (S.length + 2)] (S ++ (U ++ T)) = some (.int s.cs.length, S ++ (U ++ T)) := cLen_loc (by rw [lstOf_pk]; exact lstOf_W A2.c)
      have st := stE_dic (k := .str (SX.S b)) (kk := .inr (SX.S b)) (v := .int s.cs.length) hd rfl hlb
      rw [set_pk] at st
      refine ⟨(U ++ T).set 3 (.dic (putKD s.lb (.inr (SX.S b)) (.int s.cs.length))), some (.str (SX.S b)), .inr ?_, A2.setD⟩
      simp_arith [e, it, ein, ln, st]
      rfl
  | cells ds =>
    rw [hp] at h
    obtain ⟨T, j, e, hj⟩ := h
    simp only [List.append_assoc, List.length_append, Nat.add_assoc] at e
    have A2 : AI (U ++ T) ls s := hA.app
    have hjw : lstW (U ++ T) (U.length + j) = some ds := by rw [lstW_pk]; exact hj
    have hjW : lstW (S ++ (U ++ T)) (S.length + (U.length + j)) = some ds := by rw [lstW_pk]; exact hjw
    have it := cIsi_lst hjW
    have ln : cLen [.loc (S.length + 2)] (S ++ (U ++ T)) = some (.int s.cs.length, S ++ (U ++ T)) := cLen_loc (by rw [lstOf_pk]; exact lstOf_W A2.c)
    have ln2 : cLen [.loc (S.length + (U.length + j))] (S ++ (U ++ T)) = some (.int ds.length, S ++ (U ++ T)) := cLen_loc (lstOf_W hjW)
    simp only [stepA]
    by_cases hz : 4000 < s.cs.length + ds.length
    · rw [if_pos hz]
      have g : decide ((4000 : Int) < (s.cs.length : Int) + ds.length) = true := by simp; omega
      refine ⟨U ++ T ++ [.xd [("line", .int n)]], (U ++ T).length, asmR S t rest (some (.int n)) (some (.str (SX.S l))) (some (.loc (S.length + (U.length + j)))), ?_, by simp⟩
      · simp_arith [e, it, ln, ln2, g]
    · rw [if_neg hz]
      have g : decide ((4000 : Int) < (s.cs.length : Int) + ds.length) = false := by simp; omega
      have hne : U.length + j ≠ 2 := by
        have := lt_get hA.d
        omega
      have hne4 : U.length + j ≠ 4 := by
        have := lt_of_lstW hA.o
        omega
      have ge : gExt (.loc (S.length + 2)) [.loc (S.length + (U.length + j))] (S ++ (U ++ T)) = some (.non, S ++ (U ++ T).set 2 (.lst (s.cs ++ ds))) := by
        rw [gExt_ev (l := s.cs) (l2 := ds) (by rw [lstW_pk]; exact A2.c) hjW (by omega), set_pk]
      obtain ⟨V, hV⟩ : ∃ V : Store, V = (U ++ T).set 2 (.lst (s.cs ++ ds)) := ⟨_, rfl⟩
      have A3 : AI V ls ⟨s.cs ++ ds, s.lb, s.os⟩ := by rw [hV]; exact A2.setC
      have hjV : lstW V (U.length + j) = some ds := by rw [hV, lstW_set_ne (Ne.symm hne)]; exact hjw
      rw [← hV] at ge
      have ln3 : cLen [.loc (S.length + (U.length + j))] (S ++ (V ++ [.lst [.int n]])) = some (.int ds.length, S ++ (V ++ [.lst [.int n]])) := cLen_loc (lstOf_W (by rw [lstW_pk]; exact lstW_app hjV))
      have hds : ds.length ≤ 4000 := by omega
      have mu : opMulE (.loc (S.length + V.length)) (.int ds.length) (S ++ (V ++ [.lst [.int n]])) = some (.loc (S.length + (V.length + 1)), S ++ (V ++ [.lst [.int n], .lst (List.replicate ds.length (.int n))])) := by
        rw [opMulE_rep (a := [.int n]) (by rw [lstW_pk, lstW_pk0]; rfl) (by omega) (by simp; omega) (by omega)]
        simp
      have itl1 : isLst (S ++ (U ++ T)) (.loc (S.length + 2)) = true := isLst_of (lstOf_W (by rw [lstW_pk]; exact A2.c))
      have itl2 : isLst (S ++ V) (.loc (S.length + 4)) = true := isLst_of (lstOf_W (by rw [lstW_pk]; exact A3.o))
      obtain ⟨V2, hV2⟩ : ∃ V2 : Store, V2 = V ++ [.lst [.int n], .lst (List.replicate ds.length (.int n))] := ⟨_, rfl⟩
      have A4 : AI V2 ls ⟨s.cs ++ ds, s.lb, s.os⟩ := by rw [hV2]; exact A3.app
      rw [← hV2] at mu
      have ge2 : gExt (.loc (S.length + 4)) [.loc (S.length + (V.length + 1))] (S ++ V2) = some (.non, S ++ V2.set 4 (.lst ((s.os ++ List.replicate ds.length (n : Int)).map .int))) := by
        rw [gExt_ev (l := s.os.map .int) (l2 := List.replicate ds.length (.int n)) (by rw [lstW_pk]; exact A4.o) (by rw [lstW_pk, hV2, lstW_pk]; rfl) (by simp; omega), set_pk]
        simp
      refine ⟨V2.set 4 (.lst ((s.os ++ List.replicate ds.length (n : Int)).map .int)), some (.loc (S.length + (U.length + j))), .inl ?_, A4.setO⟩
      simp_arith [e, it, ln, ln2, g, itl1, ge, itl2, ln3, mu, ge2]
end
end K03

end

section
set_option maxRecDepth 100000
set_option maxHeartbeats 400000
namespace K03
open PySem L2 M1
def cellD : D → Prop
  | .int _ => True
  | .str _ => True
  | _ => False
theorem putKD_len (kvs : List (DK × D)) (k : DK) (v : D) : (putKD kvs k v).length ≤ kvs.length + 1 := by
  unfold putKD; split <;> simp
structure AOk (s : AS) (n : Nat) : Prop where
  cs : s.cs.length ≤ 4000
  os : s.os.length = s.cs.length
  lb : s.lb.length ≤ n
  cell : ∀ c ∈ s.cs, cellD c
theorem lineP_cell {l : List Nat} {ds : List D} (h : lineP l = .cells ds) : ∀ c ∈ ds, cellD c := by
  unfold lineP at h
  split at h
  · cases h
  · unfold restP at h
    split at h
    · split at h
      · split at h
        · cases h
        · cases h; intro c hc; simp at hc; subst hc; trivial
      · split at h
        · cases h
        · split at h
          · cases h; intro c hc; simp at hc; rcases hc with e | e <;> subst e <;> trivial
          · split at h
            · cases h; intro c hc; simp at hc; rcases hc with e | e <;> subst e <;> trivial
            · cases h
    · cases h
theorem stepA_ok {n m : Nat} {l : List Nat} {s s' : AS} (h : stepA n (lineP l) s = .ok s') (o : AOk s m) : AOk s' (m + 1) := by
  unfold stepA at h
  split at h
  · cases h
  · split at h
    · cases h
    · cases h
      exact ⟨o.cs, o.os, Nat.le_trans (putKD_len _ _ _) (by have := o.lb; omega), o.cell⟩
  · rename_i ds hp
    split at h
    · cases h
    · rename_i hz
      cases h
      refine ⟨by simp; omega, by simp [o.os], by have := o.lb; simp only; omega, fun c hc => ?_⟩
      rcases List.mem_append.mp hc with h | h
      · exact o.cell c h
      · exact lineP_cell hp c h
section
variable {K : PySem.W.Frag} {S : Store}
theorem asm_loop {t rest : D} {ls : List (List Nat)} (hls : ∀ l ∈ ls, okL l ∧ l.length ≤ 1000000) (hn : ls.length ≤ 999990) : ∀ (k i : Nat) (s : AS) (U : Store) (x6 x7 x8 : Option D), AI U ls s → AOk s i → i ≤ ls.length → ls.length + 1 ≤ k + i →
    match loopA (ls.drop i) i s with
    | .ok s' => ∃ U' x6' x7' x8', forN (enumL (S.length + 1) ls.length) (gT 2 (gsCons (gN 6) (gsCons (gN 7) gsNil))) (asmB K) k i (asmR S t rest x6 x7 x8) (S ++ U) = .nx (asmR S t rest x6' x7' x8') (S ++ U') ∧ AI U' ls s' ∧ AOk s' ls.length
    | .error e => ∃ U' d ρ', forN (enumL (S.length + 1) ls.length) (gT 2 (gsCons (gN 6) (gsCons (gN 7) gsNil))) (asmB K) k i (asmR S t rest x6 x7 x8) (S ++ U) = .ex (PE K) (some (S.length + d)) ρ' (S ++ U') ∧ U'[d]? = some (.xd [("line", .int e)])
  | 0, i, s, U, x6, x7, x8, hA, ho, hi, hk => by omega
  | k + 1, i, s, U, x6, x7, x8, hA, ho, hi, hk => by
    have hl : lstOf (S ++ U) (S.length + 1) = some (ls.map fun p => .str (SX.S p)) := by rw [lstOf_pk]; exact lstOf_W hA.l
    by_cases hlt : i < ls.length
    · have hit : (enumL (S.length + 1) ls.length).item i (S ++ U) = some (some (.tup [.int i, .str (SX.S ls[i])])) := by
        simp only [enumL, hl, Option.map_some, M1.numbered, List.getElem?_map, List.getElem?_eq_getElem hlt]
      rw [List.drop_eq_getElem_cons hlt]
      simp only [loopA]
      obtain ⟨h1, h2⟩ := hls ls[i] (List.getElem_mem hlt)
      have st := asm_step (K := K) (S := S) (t := t) (rest := rest) (x8 := x8) (n := i) hA h1 h2 ho.cs (by rw [ho.os]; exact ho.cs) (by have := ho.lb; omega)
      have hg : gT 2 (gsCons (gN 6) (gsCons (gN 7) gsNil)) (.tup [.int i, .str (SX.S ls[i])]) (S ++ U) (asmR S t rest x6 x7 x8) = some (asmR S t rest (some (.int i)) (some (.str (SX.S ls[i]))) x8) := rfl
      unfold forN
      rw [hit]
      simp only [hg]
      cases hs : stepA i (lineP ls[i]) s with
      | error e =>
        rw [hs] at st
        obtain ⟨U', d, ρ', e1, e2⟩ := st
        rw [e1]
        exact ⟨U', d, ρ', rfl, e2⟩
      | ok s' =>
        rw [hs] at st
        obtain ⟨U', x8', e1, hA'⟩ := st
        have ih := asm_loop (t := t) (rest := rest) hls hn k (i + 1) s' U' (some (.int i)) (some (.str (SX.S ls[i]))) x8' hA' (stepA_ok hs ho) (by omega) (by omega)
        simp only
        rcases e1 with e1 | e1
        · rw [e1]; exact ih
        · rw [e1]; exact ih
    · have hi' : i = ls.length := by omega
      subst hi'
      have hit : (enumL (S.length + 1) ls.length).item ls.length (S ++ U) = some none := by
        simp only [enumL, hl, Option.map_some, M1.numbered, List.getElem?_map, List.getElem?_eq_none (Nat.le_refl ls.length), Option.map_none]
      rw [List.drop_eq_nil_of_le (Nat.le_refl _)]
      simp only [loopA]
      unfold forN
      rw [hit]
      exact ⟨U, x6, x7, x8, rfl, hA, ho⟩
/-! ### labels without a place -/
def undefB (lb : List (DK × D)) : D → Bool
  | .str z => !(valD lb (.inr z)).isSome
  | _ => false
def undefA (lb : List (DK × D)) : List Int → List D → Option Int
  | n :: os, c :: cs => if undefB lb c = true then some n else undefA lb os cs
  | _, _ => none
def resA (lb : List (DK × D)) : D → D
  | .str z => (valD lb (.inr z)).getD .non
  | d => d
abbrev zipB (K : PySem.W.Frag) : Sm := (sIf (tAndM (tTru (eCall cIsi (aCons (eVar 9) (aCons (eC (.ty "str")) aNil)))) (tBl (eOp opNinE (eVar 9) (eVar 4)))) (sRaise1 (He.ga K "ParseError") "line" (aCons (eVar 6) aNil)) sNil)
abbrev zipR (S : Store) (t rest : D) (x6 x7 x8 x9 : Option D) : M1.Env := [some t, some (.loc (S.length + 1)), some rest, some (.loc (S.length + 2)), some (.loc (S.length + 3)), some (.loc (S.length + 4)), x6, x7, x8, x9]
theorem zip_loop {t rest : D} {ls : List (List Nat)} {s : AS} {U : Store} (hA : AI U ls s) (ho : s.os.length = s.cs.length) (hc : ∀ c ∈ s.cs, cellD c) (x7 x8 : Option D) (b : Nat) : ∀ (k i : Nat) (x6 x9 : Option D), i ≤ s.cs.length → s.cs.length + 1 ≤ k + i →
    match undefA s.lb (s.os.drop i) (s.cs.drop i) with
    | none => ∃ x6' x9', forN (zipL (S.length + 4) (S.length + 2) b) (gT 2 (gsCons (gN 6) (gsCons (gN 9) gsNil))) (zipB K) k i (zipR S t rest x6 x7 x8 x9) (S ++ U) = .nx (zipR S t rest x6' x7 x8 x9') (S ++ U)
    | some e => ∃ ρ', forN (zipL (S.length + 4) (S.length + 2) b) (gT 2 (gsCons (gN 6) (gsCons (gN 9) gsNil))) (zipB K) k i (zipR S t rest x6 x7 x8 x9) (S ++ U) = .ex (PE K) (some (S.length + U.length)) ρ' (S ++ (U ++ [.xd [("line", .int e)]]))
  | 0, i, x6, x9, hi, hk => by omega
  | k + 1, i, x6, x9, hi, hk => by
    have h4 : lstOf (S ++ U) (S.length + 4) = some (s.os.map .int) := by rw [lstOf_pk]; exact lstOf_W hA.o
    have h2 : lstOf (S ++ U) (S.length + 2) = some s.cs := by rw [lstOf_pk]; exact lstOf_W hA.c
    have hd : (S ++ U)[S.length + 3]? = some (.dic s.lb) := by rw [List.getElem?_append_right (by omega)]; simpa using hA.d
    by_cases hlt : i < s.cs.length
    · have hlt' : i < s.os.length := by omega
      have hit : (zipL (S.length + 4) (S.length + 2) b).item i (S ++ U) = some (some (.tup [.int s.os[i], s.cs[i]])) := by
        simp only [zipL, h4, h2, Option.bind_some, Option.map_some, zipP, List.getElem?_map, List.getElem?_eq_getElem hlt, List.getElem?_eq_getElem hlt']
      rw [List.drop_eq_getElem_cons hlt, List.drop_eq_getElem_cons hlt']
      simp only [undefA]
      have hg : gT 2 (gsCons (gN 6) (gsCons (gN 9) gsNil)) (.tup [.int s.os[i], s.cs[i]]) (S ++ U) (zipR S t rest x6 x7 x8 x9) = some (zipR S t rest (some (.int s.os[i])) x7 x8 (some s.cs[i])) := rfl
      have ih := zip_loop (t := t) (rest := rest) hA ho hc x7 x8 b k (i + 1) (some (.int s.os[i])) (some s.cs[i]) (by omega) (by omega)
      unfold forN
      rw [hit]
      simp only [hg]
      have hcell := hc s.cs[i] (List.getElem_mem hlt)
      generalize s.cs[i] = c at *
      generalize s.os[i] = n at *
      cases c with
      | int v =>
        have it : cIsi [.int v, .ty "str"] (S ++ U) = some (.bl false, S ++ U) := rfl
        have e : zipB K (zipR S t rest (some (.int n)) x7 x8 (some (.int v))) (S ++ U) = .nx (zipR S t rest (some (.int n)) x7 x8 (some (.int v))) (S ++ U) := by simp_arith [it]
        rw [e, if_neg (by simp [undefB])]
        exact ih
      | str z =>
        have it : cIsi [.str z, .ty "str"] (S ++ U) = some (.bl true, S ++ U) := rfl
        have ein := opNinE_dic (k := .str z) (kk := .inr z) hd rfl
        by_cases hv : (valD s.lb (.inr z)).isSome = true
        · rw [hv] at ein
          have e : zipB K (zipR S t rest (some (.int n)) x7 x8 (some (.str z))) (S ++ U) = .nx (zipR S t rest (some (.int n)) x7 x8 (some (.str z))) (S ++ U) := by simp_arith [it, ein]
          rw [e, if_neg (by simp [undefB, hv])]
          exact ih
        · have hv' : (valD s.lb (.inr z)).isSome = false := by simpa using hv
          rw [hv'] at ein
          rw [if_pos (by simp [undefB, hv'])]
          have e : zipB K (zipR S t rest (some (.int n)) x7 x8 (some (.str z))) (S ++ U) = .ex (PE K) (some (S.length + U.length)) (zipR S t rest (some (.int n)) x7 x8 (some (.str z))) (S ++ (U ++ [.xd [("line", .int n)]])) := by simp_arith [it, ein]
          rw [e]
          exact ⟨_, rfl⟩
      | _ => exact hcell.elim
    · have hi' : i = s.cs.length := by omega
      subst hi'
      have hit : (zipL (S.length + 4) (S.length + 2) b).item s.cs.length (S ++ U) = some none := by
        simp only [zipL, h4, h2, Option.bind_some, Option.map_some, zipP, List.getElem?_map, List.getElem?_eq_none (Nat.le_refl s.cs.length)]
        split <;> first | rfl | simp_all
      rw [List.drop_eq_nil_of_le (Nat.le_refl s.cs.length), List.drop_eq_nil_of_le (by omega)]
      simp only [undefA]
      unfold forN
      rw [hit]
      exact ⟨x6, x9, rfl⟩
theorem undef_none {lb : List (DK × D)} : ∀ {os : List Int} {cs : List D}, os.length = cs.length → undefA lb os cs = none → ∀ c ∈ cs, undefB lb c = false
  | [], [], _, _ => by simp
  | n :: os, c :: cs, hl, h => by
    unfold undefA at h
    split at h
    · cases h
    · rename_i hb
      intro d hd
      rcases List.mem_cons.mp hd with e | e
      · subst e; simpa using hb
      · exact undef_none (by simpa using hl) h d e
  | [], _ :: _, hl, _ => by simp at hl
  | _ :: _, [], hl, _ => by simp at hl
end
end K03

end

section
set_option maxRecDepth 100000
set_option maxHeartbeats 400000
namespace K03
open PySem L2 M1
theorem spl_ne (s : List Nat) : ∀ (l : List Nat) (k : Nat) (acc : List Nat), TL.spl s k acc l ≠ []
  | [], k, acc => by cases k <;> simp [TL.spl]
  | c :: r, 0, acc => by
    simp only [TL.spl]
    split
    · simp
    · exact spl_ne s r _ _
  | c :: r, k + 1, acc => by simp only [TL.spl]; exact spl_ne s r _ _
theorem spl_count (s : List Nat) : ∀ (l : List Nat) (k : Nat) (acc : List Nat), (TL.spl s k acc l).length ≤ l.length + 1
  | [], k, acc => by cases k <;> simp [TL.spl]
  | c :: r, 0, acc => by
    simp only [TL.spl]
    split
    · have := spl_count s r (s.length - 1) []; simp; omega
    · have := spl_count s r 0 (acc ++ [c]); simp; omega
  | c :: r, k + 1, acc => by simp only [TL.spl]; have := spl_count s r k acc; simp; omega
/-- the lines and what is behind the last of them -/
def lnsA (a : List Nat) : List (List Nat) := (TL.spl [10] 0 [] a).dropLast
def rstA (a : List Nat) : List Nat := (TL.spl [10] 0 [] a).getLast (spl_ne _ _ _ _)
theorem lns_rst (a : List Nat) : TL.spl [10] 0 [] a = lnsA a ++ [rstA a] := (List.dropLast_concat_getLast _).symm
def finA (s : AS) (n : Nat) (r : List Nat) : Except Int (List D) :=
  if r ≠ [] then .error n else match undefA s.lb s.os s.cs with
  | some e => .error e
  | none => .ok (s.cs.map (resA s.lb))
def asmP (a : List Nat) : Except Int (List D) := match loopA (lnsA a) 0 ⟨[], [], []⟩ with
  | .error e => .error e
  | .ok s => finA s (lnsA a).length (rstA a)
theorem lns_ok {a : List Nat} (h : okL a) (hl : a.length ≤ 900000) : (∀ l ∈ lnsA a, okL l ∧ l.length ≤ 1000000) ∧ (lnsA a).length ≤ 999990 := by
  have hm : ∀ l ∈ lnsA a, l ∈ TL.spl [10] 0 [] a := fun l hl => by rw [lns_rst]; exact List.mem_append_left _ hl
  refine ⟨fun l hx => ⟨spl_ok (hm l hx) h, by have := spl_len (hm l hx); omega⟩, ?_⟩
  have := spl_count [10] a 0 []
  rw [lns_rst] at this
  simp at this; omega
theorem rst_ok {a : List Nat} (h : okL a) : okL (rstA a) := spl_ok (by rw [lns_rst]; simp) h
theorem emptyS : ((("" : String)) : Str) = SX.S [] := by decide +kernel
section
variable {K : PySem.W.Frag} {S : Store}
theorem res_comp {lb : List (DK × D)} {cs : List D} {ρ : M1.Env} {l d i9 : Nat} (hr : ρ.length = 10) (h9 : i9 = 9) {il id : Nat} (hl : ρ[il]? = some (some (.loc l))) (hd : ρ[id]? = some (some (.loc d))) (hi9 : il ≠ 9) (hid9 : id ≠ 9) (hc : lstOf S l = some cs) (hdd : S[d]? = some (.dic lb)) (hz : cs.length ≤ 4000) (hcell : ∀ c ∈ cs, cellD c) (hu : ∀ c ∈ cs, undefB lb c = false) :
    ∃ T, eLc 10 [9] (iAny (eVar il)) (gN 9) tYesM (eIf (tTru (eCall cIsi (aCons (eVar 9) (aCons (eC (.ty "str")) aNil)))) (eOp opIxE (eVar id) (eVar 9)) (eVar 9)) ρ S = .ok (.loc S.length) (S ++ .lst (cs.map (resA lb)) :: T) := by
  refine eLc_ext (src := lstSrc l cs.length) (ds := cs) (f := resA lb) (by omega) (by rw [iAny_ev, eVar_ev, hl]; simp only [bind_ok, hc]) (by simp [lstSrc]) (by rw [sizeLine_eq]; omega) (fun i X => by simp [lstSrc, lstOf_app hc]) (fun c hcm X => ?_)
  refine ⟨(wipeE ρ [9]).set 9 (some c), [], rfl, ?_⟩
  have v9 : ∀ S', eVar 9 ((wipeE ρ [9]).set 9 (some c)) S' = .ok c S' := fun S' => by rw [eVar_ev, List.getElem?_set_self (by simp [hr])]
  have vd : ∀ S', eVar id ((wipeE ρ [9]).set 9 (some c)) S' = .ok (.loc d) S' := fun S' => by
    rw [eVar_ev, List.getElem?_set_ne (Ne.symm hid9), wipeE_cons, wipeE_nil, List.getElem?_set_ne (Ne.symm hid9), hd]
  have hdX : (S ++ X)[d]? = some (.dic lb) := by rw [List.getElem?_append_left (lt_get hdd)]; exact hdd
  have h1 := hcell c hcm
  have h2 := hu c hcm
  cases c with
  | int v =>
    have it : cIsi [.int v, .ty "str"] (S ++ X) = some (.bl false, S ++ X) := rfl
    simp only [eIf_ev, tTru_ev, eCall_ev, aCons_ev, v9, bind_ok, eC_ev, aNil_ev, it, of_some, truD_bl, Bool.false_eq_true, if_false, resA, List.append_nil]
  | str z =>
    have it : cIsi [.str z, .ty "str"] (S ++ X) = some (.bl true, S ++ X) := rfl
    obtain ⟨v, hv⟩ : ∃ v, valD lb (.inr z) = some v := by
      simp [undefB] at h2
      exact Option.isSome_iff_exists.mp h2
    have ix := opIxE_dic (k := .str z) (kk := .inr z) hdX rfl hv
    simp only [eIf_ev, tTru_ev, eCall_ev, aCons_ev, v9, bind_ok, eC_ev, aNil_ev, it, of_some, truD_bl, if_true, eOp_ev, vd, ix, resA, hv, Option.getD_some, List.append_nil]
  | _ => exact h1.elim
/-- assemble -/
theorem assemble_ev {a : List Nat} (hok : okL a) (hl : a.length ≤ 900000) (S : Store) :
    match asmP a with
    | .ok ds => ∃ T, m_assemble K [.str (SX.S a)] S = .ok (.tup ds) (S ++ T)
    | .error e => ∃ T d, m_assemble K [.str (SX.S a)] S = .ex (PE K) (some (S.length + d)) (S ++ T) ∧ T[d]? = some (.xd [("line", .int e)]) := by
  have it : ∀ S', cIsi [.str (SX.S a), .ty "str"] S' = some (.bl true, S') := fun S' => rfl
  have sp := split_at 10 (by decide) (by omega : a.length ≤ 1000000) S
  rw [← newl, lns_rst] at sp
  obtain ⟨Ls, hLs⟩ : ∃ L : List D, L = (lnsA a).map fun p => .str (SX.S p) := ⟨_, rfl⟩
  have eLs : ((lnsA a ++ [rstA a]).map fun p => D.str (SX.S p)) = Ls ++ [.str (SX.S (rstA a))] := by rw [hLs]; simp
  rw [eLs] at sp
  obtain ⟨LA, hLA⟩ : ∃ L : List D, L = Ls ++ [.str (SX.S (rstA a))] := ⟨_, rfl⟩
  rw [← hLA] at sp
  have xs : ∀ ρ, xStar 1 2 (.loc S.length) ρ (S ++ [.lst LA]) = .nx ((ρ.set 1 (some (.loc (S.length + 1)))).set 2 (some (.str (SX.S (rstA a))))) (S ++ [.lst LA, .lst Ls]) := fun ρ => by
    rw [xStar_ev (ds := Ls) (z := .str (SX.S (rstA a))) (by rw [lstOf_pk0, hLA]; rfl)]
    simp
  obtain ⟨h1, h2⟩ := lns_ok hok hl
  have A0 : AI [.lst LA, .lst Ls, .lst [], .dic [], .lst []] (lnsA a) ⟨[], [], []⟩ := ⟨by rw [← hLs]; rfl, rfl, rfl, rfl⟩
  have lp := asm_loop (K := K) (S := S) (t := .str (SX.S a)) (rest := .str (SX.S (rstA a))) h1 h2 ((lnsA a).length + 1) 0 ⟨[], [], []⟩ [.lst LA, .lst Ls, .lst [], .dic [], .lst []] none none none A0 ⟨by simp, rfl, by simp, by simp⟩ (by omega) (by omega)
  rw [List.drop_zero] at lp
  have hLl : lstOf (S ++ [.lst LA, .lst Ls, .lst [], .dic [], .lst []]) (S.length + 1) = some Ls := by rw [lstOf_pk]; rfl
  have lLs : Ls.length = (lnsA a).length := by rw [hLs]; simp
  have bd : ∀ n b, (enumL n b).bound = b := fun _ _ => rfl
  unfold asmP
  cases hL : loopA (lnsA a) 0 ⟨[], [], []⟩ with
  | error e =>
    rw [hL] at lp
    obtain ⟨U, d, ρ', e1, e2⟩ := lp
    refine ⟨U, d, ?_, e2⟩
    unfold m_assemble mkFn b_assemble startE
    simp_arith [it, sp, xs, hLl, lLs, bd, e1]
  | ok s =>
    rw [hL] at lp
    obtain ⟨U, x6, x7, x8, e1, hA, ho⟩ := lp
    simp only [finA]
    have oke := rst_ok hok
    have ne : ∀ S', opNe (.str (SX.S (rstA a))) (.str ("" : String)) S' = some (.bl (!decide (rstA a = [])), S') := fun S' => by
      rw [opNe_str (okL_str oke) (by decide +kernel), emptyS]
      congr 4
      apply decide_eq_decide.mpr; exact S_inj
    by_cases hr : rstA a = []
    · have d1 : decide (rstA a = []) = true := decide_eq_true hr
      rw [d1] at ne
      rw [if_neg (by simp [hr])]
      have hz := zip_loop (K := K) (S := S) (t := .str (SX.S a)) (rest := .str (SX.S (rstA a))) hA ho.os ho.cell x7 x8 (min s.os.length s.cs.length) (min s.os.length s.cs.length + 1) 0 x6 none (by omega) (by have := ho.os; omega)
      rw [List.drop_zero, List.drop_zero] at hz
      have l4 : lstOf (S ++ U) (S.length + 4) = some (s.os.map .int) := by rw [lstOf_pk]; exact lstOf_W hA.o
      have l2 : lstOf (S ++ U) (S.length + 2) = some s.cs := by rw [lstOf_pk]; exact lstOf_W hA.c
      have hd : (S ++ U)[S.length + 3]? = some (.dic s.lb) := by rw [List.getElem?_append_right (by omega)]; simpa using hA.d
      have bz : ∀ n k b, (zipL n k b).bound = b := fun _ _ _ => rfl
      cases hu : undefA s.lb s.os s.cs with
      | some e =>
        rw [hu] at hz
        obtain ⟨ρ', e2⟩ := hz
        refine ⟨U ++ [.xd [("line", .int e)]], U.length, ?_, by simp⟩
        unfold m_assemble mkFn b_assemble startE
        simp_arith [it, sp, xs, hLl, lLs, bd, e1, ne, l4, l2, bz, e2]
      | none =>
        rw [hu] at hz
        obtain ⟨x6', x9', e2⟩ := hz
        obtain ⟨T, e3⟩ := res_comp (S := S ++ U) (lb := s.lb) (cs := s.cs) (ρ := zipR S (.str (SX.S a)) (.str (SX.S (rstA a))) x6' x7 x8 x9') (l := S.length + 2) (d := S.length + 3) (i9 := 9) (il := 3) (id := 4) rfl rfl rfl rfl (by decide) (by decide) l2 hd ho.cs ho.cell (undef_none ho.os hu)
        simp only [List.append_assoc, List.length_append] at e3
        have ct : cTup [.loc (S.length + U.length)] (S ++ (U ++ .lst (s.cs.map (resA s.lb)) :: T)) = some (.tup (s.cs.map (resA s.lb)), S ++ (U ++ .lst (s.cs.map (resA s.lb)) :: T)) := cTup_loc (by rw [lstOf_pk, lstOf_pk0]; rfl)
        refine ⟨U ++ .lst (s.cs.map (resA s.lb)) :: T, ?_⟩
        unfold m_assemble mkFn b_assemble startE
        simp_arith [it, sp, xs, hLl, lLs, bd, e1, ne, l4, l2, bz, e2, e3, ct]
    · have d1 : decide (rstA a = []) = false := decide_eq_false hr
      rw [d1] at ne
      rw [if_pos hr]
      have ll : cLen [.loc (S.length + 1)] (S ++ U) = some (.int (lnsA a).length, S ++ U) := by rw [cLen_loc (ds := Ls) (by rw [lstOf_pk, hLs]; exact lstOf_W hA.l), lLs]
      refine ⟨U ++ [.xd [("line", .int (lnsA a).length)]], U.length, ?_, by simp⟩
      unfold m_assemble mkFn b_assemble startE
      simp_arith [it, sp, xs, hLl, lLs, bd, e1, ne, ll]
end
end K03

end

section
set_option maxRecDepth 100000
set_option maxHeartbeats 400000
namespace K03
open PySem L2 M1
theorem cut_but {xs : List D} {x : D} : cutD (xs ++ [x]) none (some (-1)) = xs := by
  unfold cutD HT.sIx
  have h : (-1 : Int) < 0 := by decide
  simp only [h, if_true, List.drop_zero, Nat.sub_zero]
  have : ((-1 : Int) + ((xs ++ [x]).length : Nat)).toNat = xs.length := by simp; omega
  rw [this, List.take_left]
structure LI (U : Store) (LA : List D) (ls : List (List Nat)) (c o : Nat) (s : AS) : Prop where
  a : lstW U 0 = some LA
  l : lstW U 4 = some (ls.map fun p => .str (SX.S p))
  c : lstW U c = some s.cs
  d : U[2]? = some (.dic s.lb)
  o : lstW U o = some (s.os.map .int)
theorem LI.app {U T : Store} {LA ls c o s} (h : LI U LA ls c o s) : LI (U ++ T) LA ls c o s := ⟨lstW_app h.a, lstW_app h.l, lstW_app h.c, by rw [List.getElem?_append_left (lt_get h.d)]; exact h.d, lstW_app h.o⟩
theorem lst_ne_dic {U : Store} {i j : Nat} {xs : List D} {kvs} (h : lstW U i = some xs) (hd : U[j]? = some (.dic kvs)) : j ≠ i := by
  rintro rfl
  unfold lstW at h
  rw [hd] at h
  cases h
theorem LI.setD {U : Store} {LA ls c o s} {kvs} (h : LI U LA ls c o s) : LI (U.set 2 (.dic kvs)) LA ls c o ⟨s.cs, kvs, s.os⟩ :=
  ⟨by rw [lstW_set_ne (by decide)]; exact h.a, by rw [lstW_set_ne (by decide)]; exact h.l, by rw [lstW_set_ne (lst_ne_dic h.c h.d)]; exact h.c, by rw [List.getElem?_set_self (lt_get h.d)], by rw [lstW_set_ne (lst_ne_dic h.o h.d)]; exact h.o⟩
section
variable {K : PySem.W.Frag} {S : Store}
abbrev lasB (K : PySem.W.Frag) : Sm := (sSeq (sAsg (eF (m_law_parse_line K) [] (aCons (eVar 6) aNil)) (gN 7))
    (sSeq (sIf (tOrM (tBl (eOp opIsN (eVar 7) (eC .non))) (tAndM (tTru (eCall cIsi (aCons (eVar 7) (aCons (eC (.ty "str")) aNil)))) (tBl (eOp opInE (eVar 7) (eVar 3))))) (sRet (eVar 5)) sNil)
    (sSeq (sIf (tAndM (tTru (eCall cIsi (aCons (eVar 7) (aCons (eC (.ty "list")) aNil)))) (tBl (eOp opGt (eOp opAdd (eCall cLen (aCons (eVar 2) aNil)) (eCall cLen (aCons (eVar 7) aNil))) (eC (.int 4000))))) (sRet (eVar 5)) sNil)
    (sIf (tTru (eCall cIsi (aCons (eVar 7) (aCons (eC (.ty "str")) aNil)))) (sAsgX (eCall cLen (aCons (eVar 2) aNil)) (xSub (eVar 3) (eVar 7) stE)) (sPar2 2 4 (aCons (eOp opAdd (eVar 2) (eVar 7)) (aCons (eOp opAdd (eVar 4) (eOp opMulE (eLst (aCons (eVar 5) aNil)) (eCall cLen (aCons (eVar 7) aNil)))) aNil)))))))
abbrev lasR (S : Store) (t : D) (c o : Nat) (x5 x6 x7 : Option D) : M1.Env := [some t, some (.loc S.length), some (.loc (S.length + c)), some (.loc (S.length + 2)), some (.loc (S.length + o)), x5, x6, x7, none, none]
theorem las_step {t : D} {l : List Nat} {ls : List (List Nat)} {LA : List D} {n c o : Nat} {s : AS} {U : Store} {x7 : Option D} (hA : LI U LA ls c o s) (hok : okL l) (hl : l.length ≤ 1000000) (hcs : s.cs.length ≤ 4000) (hos : s.os.length ≤ 4000) (hlb : s.lb.length < 1000000) :
    match stepA n (lineP l) s with
    | .ok s' => ∃ U' x7' c' o', lasB K (lasR S t c o (some (.int n)) (some (.str (SX.S l))) x7) (S ++ U) = .nx (lasR S t c' o' (some (.int n)) (some (.str (SX.S l))) x7') (S ++ U') ∧ LI U' LA ls c' o' s'
    | .error e => ∃ U', lasB K (lasR S t c o (some (.int n)) (some (.str (SX.S l))) x7) (S ++ U) = .rt (.int e) (S ++ U') := by
  have h := law_parse_line_ev (K := K) hok hl (S ++ U)
  cases hp : lineP l with
  | bad =>
    rw [hp] at h
    obtain ⟨T, e⟩ := h
    simp only [List.append_assoc] at e
    simp only [stepA]
    refine ⟨U ++ T, ?_⟩
    simp_arith [e]
  | lab b =>
    rw [hp] at h
    obtain ⟨T, e⟩ := h
    simp only [List.append_assoc] at e
    have A2 : LI (U ++ T) LA ls c o s := hA.app
    have hd : (S ++ (U ++ T))[S.length + 2]? = some (.dic s.lb) := by rw [List.getElem?_append_right (by omega)]; simpa using A2.d
    have it : ∀ S', cIsi [.str (SX.S b), .ty "str"] S' = some (.bl true, S') := fun S' => rfl
    have itl : ∀ S', cIsi [.str (SX.S b), .ty "list"] S' = some (.bl false, S') := fun S' => rfl
    have ein := opInE_dic (k := .str (SX.S b)) (kk := .inr (SX.S b)) hd rfl
    simp only [stepA]
    cases hv : (valD s.lb (.inr (SX.S b))).isSome with
    | true =>
      rw [hv] at ein
      rw [if_pos rfl]
      refine ⟨U ++ T, ?_⟩
      simp_arith [e, it, ein]
    | false =>
      rw [hv] at ein
      rw [if_neg (by decide)]
      have ln : cLen [.loc (S.length + c)] (S ++ (U ++ T)) = some (.int s.cs.length, S ++ (U ++ T)) := cLen_loc (by rw [lstOf_pk]; exact lstOf_W A2.c)
      have st := stE_dic (k := .str (SX.S b)) (kk := .inr (SX.S b)) (v := .int s.cs.length) hd rfl hlb
      rw [set_pk] at st
      refine ⟨(U ++ T).set 2 (.dic (putKD s.lb (.inr (SX.S b)) (.int s.cs.length))), some (.str (SX.S b)), c, o, ?_, A2.setD⟩
      simp_arith [e, it, itl, ein, ln, st]
  | cells ds =>
    rw [hp] at h
    obtain ⟨T, j, e, hj⟩ := h
    simp only [List.append_assoc, List.length_append, Nat.add_assoc] at e
    have A2 : LI (U ++ T) LA ls c o s := hA.app
    have hjw : lstW (U ++ T) (U.length + j) = some ds := by rw [lstW_pk]; exact hj
    have hjW : lstW (S ++ (U ++ T)) (S.length + (U.length + j)) = some ds := by rw [lstW_pk]; exact hjw
    have it := cIsi_lst hjW
    have itl := cIsi_lstL hjW
    have ln : cLen [.loc (S.length + c)] (S ++ (U ++ T)) = some (.int s.cs.length, S ++ (U ++ T)) := cLen_loc (by rw [lstOf_pk]; exact lstOf_W A2.c)
    have ln2 : cLen [.loc (S.length + (U.length + j))] (S ++ (U ++ T)) = some (.int ds.length, S ++ (U ++ T)) := cLen_loc (lstOf_W hjW)
    simp only [stepA]
    by_cases hz : 4000 < s.cs.length + ds.length
    · rw [if_pos hz]
      have g : decide ((4000 : Int) < (s.cs.length : Int) + ds.length) = true := by simp; omega
      refine ⟨U ++ T, ?_⟩
      simp_arith [e, it, itl, ln, ln2, g]
    · rw [if_neg hz]
      have g : decide ((4000 : Int) < (s.cs.length : Int) + ds.length) = false := by simp; omega
      obtain ⟨V, hV⟩ : ∃ V : Store, V = U ++ T := ⟨_, rfl⟩
      rw [← hV] at e it itl ln ln2 A2 hjW hjw
      have a1 : opAdd (.loc (S.length + c)) (.loc (S.length + (U.length + j))) (S ++ V) = some (.loc (S.length + V.length), S ++ (V ++ [.lst (s.cs ++ ds)])) := by
        rw [opAdd_lst (a := s.cs) (b := ds) (by rw [lstW_pk]; exact A2.c) hjW (by omega)]; simp
      have ln3 : cLen [.loc (S.length + (U.length + j))] (S ++ (V ++ [.lst (s.cs ++ ds), .lst [.int n]])) = some (.int ds.length, S ++ (V ++ [.lst (s.cs ++ ds), .lst [.int n]])) := cLen_loc (lstOf_W (by rw [lstW_pk]; exact lstW_app hjw))
      have mu : opMulE (.loc (S.length + (V.length + 1))) (.int ds.length) (S ++ (V ++ [.lst (s.cs ++ ds), .lst [.int n]])) = some (.loc (S.length + (V.length + 2)), S ++ (V ++ [.lst (s.cs ++ ds), .lst [.int n], .lst (List.replicate ds.length (.int n))])) := by
        rw [opMulE_rep (a := [.int n]) (by rw [lstW_pk, lstW_pk]; rfl) (by omega) (by simp; omega) (by omega)]
        simp
      have a2 : opAdd (.loc (S.length + o)) (.loc (S.length + (V.length + 2))) (S ++ (V ++ [.lst (s.cs ++ ds), .lst [.int n], .lst (List.replicate ds.length (.int n))])) = some (.loc (S.length + (V.length + 3)), S ++ (V ++ [.lst (s.cs ++ ds), .lst [.int n], .lst (List.replicate ds.length (.int n)), .lst ((s.os ++ List.replicate ds.length (n : Int)).map .int)])) := by
        rw [opAdd_lst (a := s.os.map .int) (b := List.replicate ds.length (.int n)) (by rw [lstW_pk]; exact lstW_app A2.o) (by rw [lstW_pk, lstW_pk]; rfl) (by simp; omega)]
        simp
      refine ⟨V ++ [.lst (s.cs ++ ds), .lst [.int n], .lst (List.replicate ds.length (.int n)), .lst ((s.os ++ List.replicate ds.length (n : Int)).map .int)], some (.loc (S.length + (U.length + j))), V.length, V.length + 3, ?_, ?_⟩
      · have : S ++ (U ++ T) = S ++ V := by rw [hV]
        simp_arith [e, it, itl, ln, ln2, g, a1, ln3, mu, a2]
      · have A3 := A2.app (T := [.lst (s.cs ++ ds), .lst [.int n], .lst (List.replicate ds.length (.int n)), .lst ((s.os ++ List.replicate ds.length (n : Int)).map .int)])
        exact ⟨A3.a, A3.l, by rw [lstW_pk0]; rfl, A3.d, by rw [lstW_pk]; rfl⟩
theorem las_loop {t : D} {LA : List D} {ls : List (List Nat)} (hls : ∀ l ∈ ls, okL l ∧ l.length ≤ 1000000) (hn : ls.length ≤ 999990) : ∀ (k i : Nat) (s : AS) (U : Store) (c o : Nat) (x5 x6 x7 : Option D), LI U LA ls c o s → AOk s i → i ≤ ls.length → ls.length + 1 ≤ k + i →
    match loopA (ls.drop i) i s with
    | .ok s' => ∃ U' c' o' x5' x6' x7', forN (enumL (S.length + 4) ls.length) (gT 2 (gsCons (gN 5) (gsCons (gN 6) gsNil))) (lasB K) k i (lasR S t c o x5 x6 x7) (S ++ U) = .nx (lasR S t c' o' x5' x6' x7') (S ++ U') ∧ LI U' LA ls c' o' s' ∧ AOk s' ls.length
    | .error e => ∃ U', forN (enumL (S.length + 4) ls.length) (gT 2 (gsCons (gN 5) (gsCons (gN 6) gsNil))) (lasB K) k i (lasR S t c o x5 x6 x7) (S ++ U) = .rt (.int e) (S ++ U')
  | 0, i, s, U, c, o, x5, x6, x7, hA, ho, hi, hk => by omega
  | k + 1, i, s, U, c, o, x5, x6, x7, hA, ho, hi, hk => by
    have hl : lstOf (S ++ U) (S.length + 4) = some (ls.map fun p => .str (SX.S p)) := by rw [lstOf_pk]; exact lstOf_W hA.l
    by_cases hlt : i < ls.length
    · have hit : (enumL (S.length + 4) ls.length).item i (S ++ U) = some (some (.tup [.int i, .str (SX.S ls[i])])) := by
        simp only [enumL, hl, Option.map_some, M1.numbered, List.getElem?_map, List.getElem?_eq_getElem hlt]
      rw [List.drop_eq_getElem_cons hlt]
      simp only [loopA]
      obtain ⟨h1, h2⟩ := hls ls[i] (List.getElem_mem hlt)
      have st := las_step (K := K) (S := S) (t := t) (x7 := x7) (n := i) hA h1 h2 ho.cs (by rw [ho.os]; exact ho.cs) (by have := ho.lb; omega)
      have hg : gT 2 (gsCons (gN 5) (gsCons (gN 6) gsNil)) (.tup [.int i, .str (SX.S ls[i])]) (S ++ U) (lasR S t c o x5 x6 x7) = some (lasR S t c o (some (.int i)) (some (.str (SX.S ls[i]))) x7) := rfl
      unfold forN
      rw [hit]
      simp only [hg]
      cases hs : stepA i (lineP ls[i]) s with
      | error e =>
        rw [hs] at st
        obtain ⟨U', e1⟩ := st
        rw [e1]
        exact ⟨U', rfl⟩
      | ok s' =>
        rw [hs] at st
        obtain ⟨U', x7', c', o', e1, hA'⟩ := st
        have ih := las_loop (t := t) hls hn k (i + 1) s' U' c' o' (some (.int i)) (some (.str (SX.S ls[i]))) x7' hA' (stepA_ok hs ho) (by omega) (by omega)
        simp only
        rw [e1]; exact ih
    · have hi' : i = ls.length := by omega
      subst hi'
      have hit : (enumL (S.length + 4) ls.length).item ls.length (S ++ U) = some none := by
        simp only [enumL, hl, Option.map_some, M1.numbered, List.getElem?_map, List.getElem?_eq_none (Nat.le_refl ls.length), Option.map_none]
      rw [List.drop_eq_nil_of_le (Nat.le_refl _)]
      simp only [loopA]
      unfold forN
      rw [hit]
      exact ⟨U, c, o, x5, x6, x7, rfl, hA, ho⟩
end
end K03

end

section
set_option maxRecDepth 100000
set_option maxHeartbeats 400000
namespace K03
open PySem L2 M1
/-- a comprehension with a test, both pure -/
theorem compN_flt {src : Src} {g : Gm} {t : Tx} {e : Ex} {ρ0 : M1.Env} {S : Store} {ds : List D} {p : D → Bool} {f : D → D} (hz : ds.length ≤ 16777216) (hit : ∀ i acc, src.item i (S ++ [.lst acc]) = some ds[i]?)
    (hf : ∀ d ∈ ds, ∀ acc, ∃ ρ, g d (S ++ [.lst acc]) ρ0 = some ρ ∧ t ρ (S ++ [.lst acc]) = .ok (p d) (S ++ [.lst acc]) ∧ (p d = true → e ρ (S ++ [.lst acc]) = .ok (f d) (S ++ [.lst acc]))) :
    ∀ (k i : Nat), i ≤ ds.length → ds.length + 1 ≤ k + i → compN src g t e ρ0 S.length k i (S ++ [.lst (((ds.take i).filter p).map f)]) = .ok () (S ++ [.lst ((ds.filter p).map f)])
  | 0, i, h1, h2 => by omega
  | k + 1, i, h1, h2 => by
    unfold compN
    rw [hit i]
    by_cases hi : i < ds.length
    · have e1 : ds[i]? = some ds[i] := List.getElem?_eq_getElem hi
      obtain ⟨ρ, h3, h4, h5⟩ := hf ds[i] (List.getElem_mem hi) (((ds.take i).filter p).map f)
      have ih := compN_flt (src := src) (g := g) (t := t) (e := e) (ρ0 := ρ0) (f := f) (p := p) hz hit hf k (i + 1) (by omega) (by omega)
      have et : ds.take (i + 1) = ds.take i ++ [ds[i]] := by rw [List.take_add_one, e1]; rfl
      rw [e1]
      simp only [h3, h4, bind_ok]
      cases hp : p ds[i] with
      | true =>
        simp only [if_true, h5 hp, bind_ok]
        rw [lstW_pk0, lstW_c0]
        simp only
        rw [sizeLine_eq, if_pos (by
          have := List.length_filter_le p (ds.take i)
          simp only [List.length_map, List.length_take] at this ⊢
          omega), set_pk0]
        rw [et, List.filter_append, List.map_append] at ih
        simp only [List.filter_cons, hp, if_true, List.filter_nil, List.map_cons, List.map_nil] at ih
        exact ih
      | false =>
        simp only [Bool.false_eq_true, if_false]
        rw [et, List.filter_append] at ih
        simp only [List.filter_cons, hp, Bool.false_eq_true, if_false, List.filter_nil, List.append_nil] at ih
        exact ih
    · have e1 : ds[i]? = none := List.getElem?_eq_none (by omega)
      rw [e1, List.take_of_length_le (by omega)]
/-- the numbers of the labels without a place -/
def undefL (lb : List (DK × D)) : List Int → List D → List Int
  | n :: os, c :: cs => if undefB lb c = true then n :: undefL lb os cs else undefL lb os cs
  | _, _ => []
theorem undefL_head {lb : List (DK × D)} : ∀ {os : List Int} {cs : List D}, (undefL lb os cs).head? = undefA lb os cs
  | [], [] => rfl
  | n :: os, c :: cs => by
    unfold undefL undefA
    split
    · rfl
    · exact undefL_head
  | [], _ :: _ => rfl
  | _ :: _, [] => rfl
def zipD : List Int → List D → List D
  | n :: os, c :: cs => .tup [.int n, c] :: zipD os cs
  | _, _ => []
def pB (lb : List (DK × D)) : D → Bool
  | .tup [.int _, c] => undefB lb c
  | _ => false
def fN : D → D
  | .tup [.int n, _] => .int n
  | d => d
theorem zipD_get : ∀ {os : List Int} {cs : List D} (i : Nat), (zipD os cs)[i]? = zipP (os.map .int) cs i
  | [], [], i => by simp [zipD, zipP]
  | n :: os, c :: cs, 0 => by simp [zipD, zipP]
  | n :: os, c :: cs, i + 1 => by
    simp only [zipD, List.getElem?_cons_succ, zipD_get i]
    simp [zipP]
  | [], _ :: _, i => by simp [zipD, zipP]
  | n :: os, [], i => by
    simp only [zipD, zipP, List.getElem?_nil]
    cases ((n :: os).map D.int)[i]? <;> rfl
theorem zipD_flt {lb : List (DK × D)} : ∀ {os : List Int} {cs : List D}, ((zipD os cs).filter (pB lb)).map fN = (undefL lb os cs).map .int
  | [], [] => rfl
  | n :: os, c :: cs => by
    simp only [zipD, undefL, List.filter_cons, pB]
    by_cases h : undefB lb c = true
    · simp only [h, if_true, List.map_cons, fN, zipD_flt]
    · simp only [h, if_false]; exact zipD_flt
  | [], _ :: _ => rfl
  | _ :: _, [] => rfl
theorem zipD_len : ∀ {os : List Int} {cs : List D}, (zipD os cs).length = min os.length cs.length
  | [], [] => rfl
  | n :: os, c :: cs => by simp only [zipD, List.length_cons, zipD_len]; omega
  | [], _ :: _ => by simp [zipD]
  | _ :: _, [] => by simp [zipD]
theorem zipD_mem {d : D} : ∀ {os : List Int} {cs : List D}, d ∈ zipD os cs → ∃ n c, d = .tup [.int n, c] ∧ c ∈ cs
  | n :: os, c :: cs, h => by
    simp only [zipD, List.mem_cons] at h
    rcases h with h | h
    · exact ⟨n, c, h, List.mem_cons_self ..⟩
    · obtain ⟨m, e, h1, h2⟩ := zipD_mem h
      exact ⟨m, e, h1, List.mem_cons_of_mem _ h2⟩
  | [], [], h => by simp [zipD] at h
  | [], _ :: _, h => by simp [zipD] at h
  | _ :: _, [], h => by simp [zipD] at h
def asmD : Except Int (List D) → D
  | .ok ds => .tup ds
  | .error e => .int e
section
variable {K : PySem.W.Frag} {S : Store}
theorem law_assemble_ev {a : List Nat} (hok : okL a) (hl : a.length ≤ 900000) (S : Store) : ∃ T, m_law_assemble K [.str (SX.S a)] S = .ok (asmD (asmP a)) (S ++ T) := by
  have sp := split_at 10 (by decide) (by omega : a.length ≤ 1000000) S
  rw [← newl, lns_rst] at sp
  obtain ⟨Ls, hLs⟩ : ∃ L : List D, L = (lnsA a).map fun p => .str (SX.S p) := ⟨_, rfl⟩
  have eLs : ((lnsA a ++ [rstA a]).map fun p => D.str (SX.S p)) = Ls ++ [.str (SX.S (rstA a))] := by rw [hLs]; simp
  rw [eLs] at sp
  obtain ⟨LA, hLA⟩ : ∃ L : List D, L = Ls ++ [.str (SX.S (rstA a))] := ⟨_, rfl⟩
  rw [← hLA] at sp
  have lLs : Ls.length = (lnsA a).length := by rw [hLs]; simp
  have lLA : LA.length = (lnsA a).length + 1 := by rw [hLA]; simp [lLs]
  obtain ⟨h1, h2⟩ := lns_ok hok hl
  have sl : opSl (.loc S.length) none (some (-1)) (S ++ [.lst LA, .lst [], .dic [], .lst []]) = some (.loc (S.length + 4), S ++ [.lst LA, .lst [], .dic [], .lst [], .lst Ls]) := by
    rw [opSl_lst (ds := LA) (by rw [lstOf_pk0]; rfl), hLA, cut_but]; simp
  have A0 : LI [.lst LA, .lst [], .dic [], .lst [], .lst Ls] LA (lnsA a) 1 3 ⟨[], [], []⟩ := ⟨rfl, by rw [← hLs]; rfl, rfl, rfl, rfl⟩
  have lp := las_loop (K := K) (S := S) (t := .str (SX.S a)) h1 h2 ((lnsA a).length + 1) 0 ⟨[], [], []⟩ [.lst LA, .lst [], .dic [], .lst [], .lst Ls] 1 3 none none none A0 ⟨by simp, rfl, by simp, by simp⟩ (by omega) (by omega)
  rw [List.drop_zero] at lp
  have hLl : lstOf (S ++ [.lst LA, .lst [], .dic [], .lst [], .lst Ls]) (S.length + 4) = some Ls := by rw [lstOf_pk]; rfl
  have bd : ∀ n b, (enumL n b).bound = b := fun _ _ => rfl
  unfold asmP
  cases hL : loopA (lnsA a) 0 ⟨[], [], []⟩ with
  | error e =>
    rw [hL] at lp
    obtain ⟨U, e1⟩ := lp
    refine ⟨U, ?_⟩
    unfold m_law_assemble mkFn b_law_assemble startE
    simp_arith [sp, sl, hLl, lLs, bd, e1]
    rfl
  | ok s =>
    rw [hL] at lp
    obtain ⟨U, c, o, x5, x6, x7, e1, hA, ho⟩ := lp
    simp only [finA]
    have oke := rst_ok hok
    have ne : ∀ S', opNe (.str (SX.S (rstA a))) (.str ("" : String)) S' = some (.bl (!decide (rstA a = [])), S') := fun S' => by
      rw [opNe_str (okL_str oke) (by decide +kernel), emptyS]
      congr 4
      apply decide_eq_decide.mpr; exact S_inj
    have l0 : lstOf (S ++ U) S.length = some LA := by have := lstOf_W hA.a; rw [lstOf_pk0]; exact this
    have ix := opIxE_last (S := S ++ U) (n := S.length) (ds := Ls) (d := .str (SX.S (rstA a))) (by rw [l0, hLA])
    have ll := cLen_loc l0
    rw [lLA] at ll
    by_cases hr : rstA a = []
    · have d1 : decide (rstA a = []) = true := decide_eq_true hr
      rw [d1] at ne
      rw [if_neg (by simp [hr])]
      have lo : lstOf (S ++ U) (S.length + o) = some (s.os.map .int) := by rw [lstOf_pk]; exact lstOf_W hA.o
      have lc : lstOf (S ++ U) (S.length + c) = some s.cs := by rw [lstOf_pk]; exact lstOf_W hA.c
      have hd : (S ++ U)[S.length + 2]? = some (.dic s.lb) := by rw [List.getElem?_append_right (by omega)]; simpa using hA.d
      obtain ⟨S1, hS1⟩ : ∃ S1 : Store, S1 = S ++ U := ⟨_, rfl⟩
      rw [← hS1] at lo lc hd
      have flt := compN_flt (src := zipL (S.length + o) (S.length + c) (min s.os.length s.cs.length)) (g := gT 2 (gsCons (gN 5) (gsCons (gN 9) gsNil))) (t := tAndM (tTru (eCall cIsi (aCons (eVar 9) (aCons (eC (.ty "str")) aNil)))) (tBl (eOp opNinE (eVar 9) (eVar 3)))) (e := eVar 5) (ρ0 := [some (.str (SX.S a)), some (.loc S.length), some (.loc (S.length + c)), some (.loc (S.length + 2)), some (.loc (S.length + o)), none, x6, x7, none, none]) (S := S1) (ds := zipD s.os s.cs) (p := pB s.lb) (f := fN)
        (by rw [zipD_len]; have := ho.cs; omega)
        (fun i acc => by
          have e2 : lstOf (S1 ++ [.lst acc]) (S.length + o) = some (s.os.map .int) := lstOf_app lo
          have e3 : lstOf (S1 ++ [.lst acc]) (S.length + c) = some s.cs := lstOf_app lc
          simp only [zipL, e2, e3, Option.bind_some, Option.map_some, zipD_get])
        (fun d hdm acc => by
          obtain ⟨n, cc, rfl, hm⟩ := zipD_mem hdm
          have hcell := ho.cell cc hm
          have hdd : (S1 ++ [.lst acc])[S.length + 2]? = some (.dic s.lb) := by rw [List.getElem?_append_left (lt_get hd)]; exact hd
          refine ⟨_, rfl, ?_, fun _ => rfl⟩
          cases cc with
          | int v =>
            have it : cIsi [.int v, .ty "str"] (S1 ++ [.lst acc]) = some (.bl false, S1 ++ [.lst acc]) := rfl
            simp_arith [it]
            rfl
          | str z =>
            have it : cIsi [.str z, .ty "str"] (S1 ++ [.lst acc]) = some (.bl true, S1 ++ [.lst acc]) := rfl
            have ein := opNinE_dic (k := .str z) (kk := .inr z) hdd rfl
            simp_arith [it, ein]
            rfl
          | _ => exact hcell.elim)
        (min s.os.length s.cs.length + 1) 0 (by omega) (by rw [zipD_len]; omega)
      rw [zipD_flt] at flt
      simp only [List.take_zero, List.filter_nil, List.map_nil] at flt
      have lc1 : eLc 10 [5, 9] (iZipM (aCons (eVar 4) (aCons (eVar 2) aNil))) (gT 2 (gsCons (gN 5) (gsCons (gN 9) gsNil))) (tAndM (tTru (eCall cIsi (aCons (eVar 9) (aCons (eC (.ty "str")) aNil)))) (tBl (eOp opNinE (eVar 9) (eVar 3)))) (eVar 5) (lasR S (.str (SX.S a)) c o x5 x6 x7) S1 = .ok (.loc S1.length) (S1 ++ [.lst ((undefL s.lb s.os s.cs).map .int)]) := by
        unfold eLc
        rw [if_pos (by simp [lasR])]
        have hz : iZipM (aCons (eVar 4) (aCons (eVar 2) aNil)) (lasR S (.str (SX.S a)) c o x5 x6 x7) S1 = .ok (zipL (S.length + o) (S.length + c) (min s.os.length s.cs.length)) S1 := by
          simp_arith [lo, lc]
        rw [hz]
        simp only [bind_ok]
        have : wipeE (lasR S (.str (SX.S a)) c o x5 x6 x7) [5, 9] = [some (.str (SX.S a)), some (.loc S.length), some (.loc (S.length + c)), some (.loc (S.length + 2)), some (.loc (S.length + o)), none, x6, x7, none, none] := rfl
        rw [this]
        have hb : (zipL (S.length + o) (S.length + c) (min s.os.length s.cs.length)).bound = min s.os.length s.cs.length := rfl
        rw [hb, flt]
        rfl
      obtain ⟨UL, hUL⟩ : ∃ L : List Int, L = undefL s.lb s.os s.cs := ⟨_, rfl⟩
      have hh := undefL_head (lb := s.lb) (os := s.os) (cs := s.cs)
      rw [← hUL] at hh lc1
      have q0 : opNe (.loc S1.length) (.loc (S1.length + 1)) (S1 ++ [.lst (UL.map .int), .lst []]) = some (.bl (!UL.isEmpty), S1 ++ [.lst (UL.map .int), .lst []]) := by
        unfold opNe
        rw [pyEq_lst (by rw [lstOf_pk0]; rfl) (by rw [lstOf_pk]; rfl) (gDs_ints UL) rfl (by rw [dpDs_ints]; omega) (by simp [dpDs])]
        cases UL <;> simp [pds, PyData.eqvAll]
      rw [← hS1] at e1 ix ll
      cases hu : undefA s.lb s.os s.cs with
      | some e =>
        rw [hu] at hh
        obtain ⟨r, hr2⟩ : ∃ r, UL = e :: r := by
          cases UL with
          | nil => simp at hh
          | cons x r => simp at hh; exact ⟨r, by rw [hh]⟩
        rw [hr2, List.isEmpty_cons] at q0
        have ix0 : opIxE (.loc S1.length) (.int 0) (S1 ++ [.lst (UL.map .int), .lst []]) = some (.int e, S1 ++ [.lst (UL.map .int), .lst []]) := opIxE_lst (ds := UL.map .int) (by rw [lstOf_pk0]; rfl) (by decide) (by rw [hr2]; rfl)
        rw [hr2] at lc1 ix0
        obtain ⟨L, hL2⟩ : ∃ L : List D, L = (e :: r).map .int := ⟨_, rfl⟩
        rw [← hL2] at lc1 q0 ix0
        refine ⟨U ++ [.lst L, .lst []], ?_⟩
        rw [← List.append_assoc, ← hS1]
        unfold m_law_assemble mkFn b_law_assemble startE
        simp_arith [sp, sl, hLl, lLs, bd, e1, ix, ne, lc1, q0, ix0]
        rfl
      | none =>
        rw [hu] at hh
        have hnil : UL = [] := by
          cases UL with
          | nil => rfl
          | cons x r => simp at hh
        rw [hnil] at lc1 q0
        simp only [List.map_nil, List.isEmpty_nil] at lc1 q0
        have lcX : lstOf (S1 ++ [.lst [], .lst []]) (S.length + c) = some s.cs := lstOf_app lc
        have hdX : (S1 ++ [.lst [], .lst []])[S.length + 2]? = some (.dic s.lb) := by rw [List.getElem?_append_left (lt_get hd)]; exact hd
        obtain ⟨T, e3⟩ := res_comp (S := S1 ++ [.lst [], .lst []]) (lb := s.lb) (cs := s.cs) (ρ := [some (.str (SX.S a)), some (.loc S.length), some (.loc (S.length + c)), some (.loc (S.length + 2)), some (.loc (S.length + o)), x5, x6, x7, some (.loc S1.length), none]) (l := S.length + c) (d := S.length + 2) (i9 := 9) (il := 2) (id := 3) rfl rfl rfl rfl (by decide) (by decide) lcX hdX ho.cs ho.cell (undef_none ho.os hu)
        simp only [List.append_assoc, List.cons_append, List.nil_append, List.length_append, List.length_cons, List.length_nil, Nat.reduceAdd] at e3
        have ct : cTup [.loc (S1.length + 2)] (S1 ++ .lst [] :: .lst [] :: .lst (s.cs.map (resA s.lb)) :: T) = some (.tup (s.cs.map (resA s.lb)), S1 ++ .lst [] :: .lst [] :: .lst (s.cs.map (resA s.lb)) :: T) := cTup_loc (by rw [lstOf_pk]; rfl)
        refine ⟨U ++ .lst [] :: .lst [] :: .lst (s.cs.map (resA s.lb)) :: T, ?_⟩
        rw [← List.append_assoc, ← hS1]
        unfold m_law_assemble mkFn b_law_assemble startE
        simp_arith [sp, sl, hLl, lLs, bd, e1, ix, ne, lc1, q0, e3, ct]
        rfl
    · have d1 : decide (rstA a = []) = false := decide_eq_false hr
      rw [d1] at ne
      rw [if_pos hr]
      have e2 : (((lnsA a).length + 1 : Nat) : Int) - 1 = (lnsA a).length := by omega
      refine ⟨U, ?_⟩
      unfold m_law_assemble mkFn b_law_assemble startE
      simp_arith [sp, sl, hLl, lLs, bd, e1, ix, ne, ll, e2]
      rfl
end
end K03

end

section
set_option maxRecDepth 100000
set_option maxHeartbeats 400000
namespace K03
open PySem L2 M1
def mnS (c : Int) : Str := ts_MNEMONICS.getD (c - 1).toNat ⟨#[]⟩
def mnL (c : Int) : List Nat := (mnS c).cps.toList
def nmL (w : Int) : List Nat := TL.numL w.toNat
def wdL : List Nat := [119, 111, 114, 100]
def insL (c o : Int) : List Nat := mnL c ++ [32] ++ nmL o
def wrdL (w : Int) : List Nat := wdL ++ [32] ++ nmL w
def disP : List Int → List (List Nat)
  | [] => []
  | [c] => [wrdL c]
  | c :: o :: r => if 1 ≤ c ∧ c ≤ 23 then insL c o :: disP r else wrdL c :: disP (o :: r)
def txtP (mem : List Int) : List Nat := (disP mem).flatMap fun l => l ++ [10]
def wd (w : Int) : Prop := 0 ≤ w ∧ w ≤ 9999
theorem wordS : (("word" : String) : Str) = SX.S wdL := by decide +kernel
theorem nm_dig (w : Int) : NumText.AllDigits (nmL w) := TL.numL_digits _
theorem nm_len {w : Int} (h : wd w) : 1 ≤ (nmL w).length ∧ (nmL w).length ≤ 4 := by
  unfold wd at h
  refine ⟨?_, TL.numL_len (by decide) (by omega)⟩
  have := TL.numL_ne w.toNat
  cases e : nmL w with
  | nil => exact absurd e this
  | cons a l => simp
theorem dig_S {l : List Nat} (h : NumText.AllDigits l) : isDig (SX.S l) = true := by
  unfold isDig
  rw [List.all_eq_true]
  intro c hc
  exact decide_eq_true ((dg_iff c).mpr (h c (by simpa using hc)))
theorem wordP_nm {w : Int} (h : wd w) : wordP (SX.S (nmL w)) = some w := by
  obtain ⟨h1, h2⟩ := nm_len h
  rw [word_of (by rw [S_len]; exact h1) (by rw [S_len]; exact h2) (dig_S (nm_dig w))]
  have e : (SX.S (nmL w)).cps.toList = nmL w := by simp [SX.S]
  rw [e]
  have hv : NumText.digitsVal (nmL w) = w.toNat := TL.numL_val _
  have hc : (nmL w).head? ≠ some 48 ∨ nmL w = [48] := by
    by_cases h0 : w.toNat = 0
    · right; unfold nmL; rw [h0]; exact TL.numL_lt (by decide)
    · left; exact numL_head _ (by omega)
  rw [if_pos hc, hv]
  unfold wd at h
  show some ((w.toNat : Nat) : Int) = some w
  congr 1
  omega
theorem mn_idx : ∀ i : Fin 23, idxS (ts_MNEMONICS.getD i.val ⟨#[]⟩) ts_MNEMONICS = some i.val := by decide +kernel
theorem mn_nw : ∀ i : Fin 23, ts_MNEMONICS.getD i.val ⟨#[]⟩ ≠ (("word" : String) : Str) := by decide +kernel
theorem mn_low : ∀ i : Fin 23, (ts_MNEMONICS.getD i.val ⟨#[]⟩).cps.toList.all (fun c => decide (48 ≤ c ∧ c ≤ 122)) = true := by decide +kernel
theorem mn_len : ∀ i : Fin 23, (ts_MNEMONICS.getD i.val ⟨#[]⟩).length ≤ 7 := by decide +kernel
theorem drop_last {a b : List Nat} (hb : b ≠ []) : (a ++ b).drop ((a ++ b).length - 1) = [b.getLast hb] := by
  have e : b = b.dropLast ++ [b.getLast hb] := (List.dropLast_concat_getLast hb).symm
  have e2 : a ++ b = (a ++ b.dropLast) ++ [b.getLast hb] := by rw [List.append_assoc, ← e]
  rw [e2, List.length_append, List.length_singleton, Nat.add_sub_cancel, List.drop_left]
theorem num_last (w : Int) : (nmL w).getLast (TL.numL_ne _) ≠ 58 := by
  have := nm_dig w _ (List.getLast_mem (TL.numL_ne w.toNat))
  intro h
  unfold nmL at h this
  rw [h] at this
  omega
theorem spl2 {p q : List Nat} (hp : 32 ∉ p) (hq : 32 ∉ q) : TL.spl [32] 0 [] (p ++ [32] ++ q) = [p, q] := by
  have := SX.spl_join (c := 32) (sep := []) (parts := [p, q]) (by simp) (by simp [hp, hq])
  have e : TL.joinL [32] [p, q] = p ++ [32] ++ q := by simp [TL.joinL]
  rw [e] at this
  exact this
theorem nm32 (w : Int) (s : Nat) (h : s < 48) : s ∉ nmL w := TL.numL_free (.inl h)
theorem lineP_num {p : List Nat} {w : Int} (hp : 32 ∉ p) : lineP (p ++ [32] ++ nmL w) = if SX.S p = (("word" : String) : Str) then (match wordP (SX.S (nmL w)) with
      | none => .bad
      | some i => .cells [.int i]) else match idxS (SX.S p) ts_MNEMONICS with
    | none => .bad
    | some j => match wordP (SX.S (nmL w)) with
      | some i => .cells [.int ((j : Int) + 1), .int i]
      | none => if nameP (SX.S (nmL w)) = true then .cells [.int ((j : Int) + 1), .str (SX.S (nmL w))] else .bad := by
  unfold lineP
  rw [if_neg]
  · unfold restP
    rw [spl2 hp (nm32 w 32 (by decide))]
    all_goals rfl
  · rintro ⟨h, _⟩
    rw [drop_last (b := nmL w) (TL.numL_ne _)] at h
    exact num_last w (by simpa using h)
theorem lineP_wrd {w : Int} (h : wd w) : lineP (wrdL w) = .cells [.int w] := by
  unfold wrdL
  rw [lineP_num (by decide), if_pos wordS.symm, wordP_nm h]
theorem mn_ok {c : Int} (h1 : 1 ≤ c) (h2 : c ≤ 23) : SX.S (mnL c) = mnS c ∧ 32 ∉ mnL c ∧ 10 ∉ mnL c ∧ (mnL c).length ≤ 7 ∧ okL (mnL c) ∧ mnS c ≠ (("word" : String) : Str) ∧ idxS (mnS c) ts_MNEMONICS = some (c - 1).toNat := by
  have hi : (c - 1).toNat < 23 := by omega
  have a := mn_low ⟨_, hi⟩
  rw [List.all_eq_true] at a
  have b : ∀ x ∈ mnL c, 48 ≤ x ∧ x ≤ 122 := fun x hx => of_decide_eq_true (a x hx)
  refine ⟨S_self _, fun h => ?_, fun h => ?_, ?_, fun x hx => ?_, mn_nw ⟨_, hi⟩, mn_idx ⟨_, hi⟩⟩
  · have := b _ h; omega
  · have := b _ h; omega
  · have := mn_len ⟨_, hi⟩
    unfold mnL mnS
    simpa [Str.length] using this
  · have := b _ hx; omega
theorem lineP_ins {c o : Int} (h1 : 1 ≤ c) (h2 : c ≤ 23) (h : wd o) : lineP (insL c o) = .cells [.int c, .int o] := by
  obtain ⟨e, a, _, _, _, b, d⟩ := mn_ok h1 h2
  unfold insL
  rw [lineP_num a, e, if_neg b, d, wordP_nm h]
  simp only
  congr 3
  omega
theorem dis_free : ∀ (mem : List Int), ∀ l ∈ disP mem, 10 ∉ l
  | [], l, h => by simp [disP] at h
  | [c], l, h => by
    simp [disP] at h; subst h
    simp only [wrdL, List.mem_append, not_or]
    exact ⟨⟨by decide, by decide⟩, nm32 c 10 (by decide)⟩
  | c :: o :: r, l, h => by
    unfold disP at h
    split at h
    · rename_i hc
      rcases List.mem_cons.mp h with h | h
      · subst h
        simp only [insL, List.mem_append, not_or]
        exact ⟨⟨(mn_ok hc.1 hc.2).2.2.1, by decide⟩, nm32 o 10 (by decide)⟩
      · exact dis_free r l h
    · rcases List.mem_cons.mp h with h | h
      · subst h
        simp only [wrdL, List.mem_append, not_or]
        exact ⟨⟨by decide, by decide⟩, nm32 c 10 (by decide)⟩
      · exact dis_free (o :: r) l h
theorem joinL_lines : ∀ (ls : List (List Nat)), TL.joinL [10] (ls ++ [[]]) = ls.flatMap fun l => l ++ [10]
  | [] => by simp [TL.joinL]
  | [l] => by simp [TL.joinL]
  | l :: m :: ls => by
    have ih := joinL_lines (m :: ls)
    simp only [List.cons_append] at ih ⊢
    rw [TL.joinL, ih]
    simp
theorem spl_lines {ls : List (List Nat)} (h : ∀ l ∈ ls, 10 ∉ l) : TL.spl [10] 0 [] (ls.flatMap fun l => l ++ [10]) = ls ++ [[]] := by
  rw [← joinL_lines]
  refine SX.spl_join (by simp) fun p hp => ?_
  rcases List.mem_append.mp hp with h' | h'
  · exact h p h'
  · simp at h'; subst h'; simp
theorem lns_of {a : List Nat} {ls : List (List Nat)} {r : List Nat} (h : TL.spl [10] 0 [] a = ls ++ [r]) : lnsA a = ls ∧ rstA a = r := by
  have e := lns_rst a
  rw [h] at e
  have := List.append_inj' e rfl
  exact ⟨this.1.symm, by simpa using this.2.symm⟩
/-- lines that give their cells only -/
theorem loop_dis : ∀ (mem : List Int), (∀ w ∈ mem, wd w) → ∀ (n : Nat) (s : AS), s.cs.length + mem.length ≤ 4000 → s.lb = [] → ∃ os, loopA (disP mem) n s = .ok ⟨s.cs ++ mem.map .int, [], os⟩
  | [], _, n, s, _, hl => ⟨s.os, by cases s; simp [disP, loopA] at hl ⊢; exact hl⟩
  | [c], hw, n, s, hz, hl => by
    have h := lineP_wrd (hw c (by simp))
    refine ⟨s.os ++ [(n : Int)], ?_⟩
    simp only [List.length_cons, List.length_nil] at hz
    simp only [disP, loopA, h, stepA, List.length_cons, List.length_nil]
    rw [if_neg (by omega)]
    simp [hl]
  | c :: o :: r, hw, n, s, hz, hl => by
    simp only [List.length_cons] at hz
    unfold disP
    by_cases hc : 1 ≤ c ∧ c ≤ 23
    · rw [if_pos hc]
      have h := lineP_ins hc.1 hc.2 (hw o (by simp))
      simp only [loopA, h, stepA, List.length_cons, List.length_nil]
      rw [if_neg (by omega)]
      obtain ⟨os, e⟩ := loop_dis r (fun w hx => hw w (by simp [hx])) (n + 1) ⟨s.cs ++ [.int c, .int o], s.lb, s.os ++ List.replicate (0 + 1 + 1) (n : Int)⟩ (by simp; omega) hl
      exact ⟨os, by simp only; rw [e]; simp⟩
    · rw [if_neg hc]
      have h := lineP_wrd (hw c (by simp))
      simp only [loopA, h, stepA, List.length_cons, List.length_nil]
      rw [if_neg (by omega)]
      obtain ⟨os, e⟩ := loop_dis (o :: r) (fun w hx => hw w (List.mem_cons_of_mem _ hx)) (n + 1) ⟨s.cs ++ [.int c], s.lb, s.os ++ List.replicate (0 + 1) (n : Int)⟩ (by simp; omega) hl
      exact ⟨os, by simp only; rw [e]; simp⟩
theorem undef_ints : ∀ (os : List Int) (mem : List Int), undefA [] os (mem.map .int) = none
  | [], [] => rfl
  | n :: os, m :: mem => by simp only [List.map_cons, undefA, undefB]; exact undef_ints os mem
  | [], _ :: _ => rfl
  | _ :: _, [] => rfl
theorem res_ints (mem : List Int) : (mem.map D.int).map (resA []) = mem.map .int := by rw [List.map_map]; rfl
theorem asm_dis {mem : List Int} (hw : ∀ w ∈ mem, wd w) (hl : mem.length ≤ 4000) : asmP (txtP mem) = .ok (mem.map .int) := by
  obtain ⟨e1, e2⟩ := lns_of (spl_lines (dis_free mem))
  obtain ⟨os, e⟩ := loop_dis mem hw 0 ⟨[], [], []⟩ (by simpa using hl) rfl
  unfold asmP
  have e1' : lnsA (txtP mem) = disP mem := e1
  have e2' : rstA (txtP mem) = [] := e2
  rw [e1', e]
  simp only [finA, e2', List.nil_append]
  rw [if_neg (by simp), undef_ints]
  simp only
  rw [res_ints]
end K03

end

section
set_option maxRecDepth 100000
set_option maxHeartbeats 400000
namespace K03
open PySem L2 M1
theorem S_app (a b : List Nat) : SX.S a ++ SX.S b = SX.S (a ++ b) := by
  show (⟨a.toArray ++ b.toArray⟩ : Str) = ⟨(a ++ b).toArray⟩
  simp
section
variable {K : PySem.W.Frag} {S : Store} {ρ : M1.Env}
theorem js_step {f : Ex} {fs : List Ex} {acc a : List Nat} (h : f ρ S = .ok (.str (SX.S a)) S) (hl : (acc ++ a).length ≤ 10000) : jsN (f :: fs) (SX.S acc) ρ S = jsN fs (SX.S (acc ++ a)) ρ S := by
  show ((f ρ S).bind fun d S1 => match d with
    | .str y => if (SX.S acc ++ y).length ≤ sizeLine then jsN fs (SX.S acc ++ y) ρ S1 else .er
    | _ => .er) = _
  rw [h]
  simp only [bind_ok]
  rw [S_app, S_len, sizeLine_eq, if_pos (by omega)]
theorem js0 : Str.empty = SX.S [] := rfl
theorem js4 {f1 f2 f3 f4 : Ex} {a b c d : List Nat} (h1 : f1 ρ S = .ok (.str (SX.S a)) S) (h2 : f2 ρ S = .ok (.str (SX.S b)) S) (h3 : f3 ρ S = .ok (.str (SX.S c)) S) (h4 : f4 ρ S = .ok (.str (SX.S d)) S) (hl : a.length + b.length + c.length + d.length ≤ 10000) : eJs [f1, f2, f3, f4] ρ S = .ok (.str (SX.S (a ++ b ++ c ++ d))) S := by
  unfold eJs
  rw [js0, js_step h1 (by simp; omega), js_step h2 (by simp; omega), js_step h3 (by simp; omega), js_step h4 (by simp; omega)]
  rfl
theorem js3 {f1 f2 f3 : Ex} {a b c : List Nat} (h1 : f1 ρ S = .ok (.str (SX.S a)) S) (h2 : f2 ρ S = .ok (.str (SX.S b)) S) (h3 : f3 ρ S = .ok (.str (SX.S c)) S) (hl : a.length + b.length + c.length ≤ 10000) : eJs [f1, f2, f3] ρ S = .ok (.str (SX.S (a ++ b ++ c))) S := by
  unfold eJs
  rw [js0, js_step h1 (by simp; omega), js_step h2 (by simp; omega), js_step h3 (by simp; omega)]
  rfl
theorem fmt_num {f : Ex} {w : Int} (hw : wd w) (h : f ρ S = .ok (.int w) S) : eFmt f ρ S = .ok (.str (SX.S (nmL w))) S := by
  unfold wd at hw
  obtain ⟨n, rfl⟩ : ∃ n : Nat, w = n := ⟨w.toNat, by omega⟩
  rw [eFmt_ev, h]
  simp only [bind_ok]
  rw [if_pos (log_ok (by omega)), SX.num_S n]
  rfl
theorem fmt_str {f : Ex} {a : List Nat} (hl : a.length ≤ 10000) (h : f ρ S = .ok (.str (SX.S a)) S) : eFmt f ρ S = .ok (.str (SX.S a)) S := by
  rw [eFmt_ev, h]
  simp only [bind_ok]
  rw [S_len, sizeLine_eq, if_pos (by omega)]
theorem str_num {w : Int} (hw : wd w) : cStr [.int w] S = some (.str (SX.S (nmL w)), S) := by
  unfold wd at hw
  obtain ⟨n, rfl⟩ : ∃ n : Nat, w = n := ⟨w.toNat, by omega⟩
  exact num_str (by omega)
def MNs : List D := ts_MNEMONICS.map .str
theorem mn_ix {c : Int} (h1 : 1 ≤ c) (h2 : c ≤ 23) (S : Store) : opIxE (.tup MNs) (.int (c - 1)) S = some (.str (SX.S (mnL c)), S) := by
  rw [(mn_ok h1 h2).1]
  refine opIxE_tup (by omega) ?_
  have hi : (c - 1).toNat < 23 := by omega
  unfold MNs mnS
  rw [List.getElem?_map, List.getD_eq_getElem?_getD, List.getElem?_eq_getElem (by show _ < 23; omega)]
  rfl
abbrev disT : Tx := (tBl (eOp opLt (eVar 2) (eCall cLen (aCons (eVar 0) aNil))))
abbrev disB : Sm := (sIf (tAndM (tBl (eCh opLe opLe (eC (.int 1)) (eOp opIxE (eVar 0) (eVar 2)) (eCall cLen (aCons (eC (.tup MNs)) aNil)))) (tBl (eOp opLt (eOp opAdd (eVar 2) (eC (.int 1))) (eCall cLen (aCons (eVar 0) aNil))))) (sSeq (sExpr (eMb isLst gApp (eVar 1) (aCons (eJs [(eFmt (eOp opIxE (eC (.tup MNs)) (eOp opSub (eOp opIxE (eVar 0) (eVar 2)) (eC (.int 1))))), (eC (.str " ")), (eFmt (eOp opIxE (eVar 0) (eOp opAdd (eVar 2) (eC (.int 1))))), (eC (.str "\n"))]) aNil)))
    (sAug 2 (eC (.int 2)) opIAdd)) (sSeq (sExpr (eMb isLst gApp (eVar 1) (aCons (eJs [(eC (.str "word ")), (eFmt (eOp opIxE (eVar 0) (eVar 2))), (eC (.str "\n"))]) aNil)))
    (sAug 2 (eC (.int 1)) opIAdd)))
abbrev lnD (ls : List (List Nat)) : List D := ls.map fun l => .str (SX.S (l ++ [10]))
theorem wordsp : (("word " : String) : Str) = SX.S (wdL ++ [32]) := by decide +kernel
theorem dis_loop {mem : List Int} (hw : ∀ w ∈ mem, wd w) (hl : mem.length ≤ 1000) : ∀ (k i : Nat) (acc : List (List Nat)), i ≤ mem.length → mem.length + 1 ≤ k + i → acc.length ≤ i →
    ∃ j : Int, whileN disT disB k [some (.tup (mem.map .int)), some (.loc S.length), some (.int i)] (S ++ [.lst (lnD acc)]) = .nx [some (.tup (mem.map .int)), some (.loc S.length), some (.int j)] (S ++ [.lst (lnD (acc ++ disP (mem.drop i)))])
  | 0, i, acc, hi, hk, ha => by omega
  | k + 1, i, acc, hi, hk, ha => by
    rw [whileN_succ]
    have ln : ∀ S', cLen [.tup (mem.map .int)] S' = some (.int mem.length, S') := fun S' => by rw [cLen_tup, List.length_map]
    by_cases hlt : i < mem.length
    · have g : decide ((i : Int) < mem.length) = true := by simp; omega
      have e0 : disT [some (.tup (mem.map .int)), some (.loc S.length), some (.int i)] (S ++ [.lst (lnD acc)]) = .ok true (S ++ [.lst (lnD acc)]) := by simp_arith [ln, g]
      rw [e0]
      simp only [out_ok, if_true]
      have hc := hw mem[i] (List.getElem_mem hlt)
      have x0 : ∀ S', opIxE (.tup (mem.map .int)) (.int i) S' = some (.int mem[i], S') := fun S' => opIxE_tup (by omega) (by simp [hlt])
      have hdrop := List.drop_eq_getElem_cons hlt
      have cl : ∀ S', cLen [.tup MNs] S' = some (.int 23, S') := fun S' => rfl
      have lMN : ((MNs.length : Nat) : Int) = 23 := rfl
      have itl : ∀ X, isLst (S ++ [.lst X]) (.loc S.length) = true := fun X => isLst_of (ds := X) (by rw [lstOf_pk0]; rfl)
      have ga : ∀ y, gApp (.loc S.length) [.str (SX.S y)] (S ++ [.lst (lnD acc)]) = some (.non, S ++ [.lst (lnD acc ++ [.str (SX.S y)])]) := fun y => by
        rw [gApp_ev (l := lnD acc) (by rw [lstW_pk0]; rfl) (by simp; omega)]; simp
      obtain ⟨nl1, nl2⟩ := nm_len hc
      by_cases hA : (1 ≤ mem[i] ∧ mem[i] ≤ 23) ∧ i + 1 < mem.length
      · obtain ⟨⟨h1, h2⟩, h3⟩ := hA
        have ho := hw mem[i+1] (List.getElem_mem h3)
        have x1 : ∀ S', opIxE (.tup (mem.map .int)) (.int ((i : Int) + 1)) S' = some (.int mem[i+1], S') := fun S' => opIxE_tup (by omega) (by rw [show ((i : Int) + 1).toNat = i + 1 by omega]; simp [h3])
        have hm := mn_ok h1 h2
        obtain ⟨ol1, ol2⟩ := nm_len ho
        have mi := mn_ix h1 h2
        have js : eJs [(eFmt (eOp opIxE (eC (.tup MNs)) (eOp opSub (eOp opIxE (eVar 0) (eVar 2)) (eC (.int 1))))), (eC (.str " ")), (eFmt (eOp opIxE (eVar 0) (eOp opAdd (eVar 2) (eC (.int 1))))), (eC (.str "\n"))] [some (.tup (mem.map .int)), some (.loc S.length), some (.int i)] (S ++ [.lst (lnD acc)]) = .ok (.str (SX.S (mnL mem[i] ++ [32] ++ nmL mem[i+1] ++ [10]))) (S ++ [.lst (lnD acc)]) := by
          refine js4 (fmt_str (by have := hm.2.2.2.1; omega) ?_) (by rw [space]; rfl) (fmt_num ho ?_) (by rw [newl]; rfl) (by have := hm.2.2.2.1; simp; omega)
          · simp_arith [x0, mi]
          · simp_arith [x1]
        have g1 : decide ((1 : Int) ≤ mem[i]) = true := decide_eq_true h1
        have g2 : decide (mem[i] ≤ (23 : Int)) = true := decide_eq_true h2
        have g3 : decide ((i : Int) + 1 < mem.length) = true := by simp; omega
        have e1 : disB [some (.tup (mem.map .int)), some (.loc S.length), some (.int i)] (S ++ [.lst (lnD acc)]) = .nx [some (.tup (mem.map .int)), some (.loc S.length), some (.int ((i : Int) + 2))] (S ++ [.lst (lnD acc ++ [.str (SX.S (mnL mem[i] ++ [32] ++ nmL mem[i+1] ++ [10]))])]) := by
          have itl' := itl (lnD acc)
          have ga' := ga (mnL mem[i] ++ [32] ++ nmL mem[i+1] ++ [10])
          simp only [List.append_assoc, List.cons_append, List.nil_append] at js ga' ⊢
          simp_arith [x0, g1, cl, lMN, g2, g3, ln, js, itl', ga']
        rw [e1]
        have ih := dis_loop hw hl k (i + 2) (acc ++ [insL mem[i] mem[i+1]]) (by omega) (by omega) (by simp; omega)
        have ed : disP (mem.drop i) = insL mem[i] mem[i+1] :: disP (mem.drop (i + 2)) := by
          rw [hdrop, List.drop_eq_getElem_cons h3]
          conv => lhs; unfold disP
          rw [if_pos ⟨h1, h2⟩]
        rw [ed]
        obtain ⟨j, ih⟩ := ih
        refine ⟨j, ?_⟩
        have el : lnD (acc ++ [insL mem[i] mem[i+1]]) = lnD acc ++ [.str (SX.S (mnL mem[i] ++ [32] ++ nmL mem[i+1] ++ [10]))] := by simp [lnD, insL]
        rw [el] at ih
        have ei : ((i + 2 : Nat) : Int) = (i : Int) + 2 := by omega
        rw [ei] at ih
        simp only
        rw [ih, List.append_assoc]
        rfl
      · have js : eJs [(eC (.str "word ")), (eFmt (eOp opIxE (eVar 0) (eVar 2))), (eC (.str "\n"))] [some (.tup (mem.map .int)), some (.loc S.length), some (.int i)] (S ++ [.lst (lnD acc)]) = .ok (.str (SX.S (wdL ++ [32] ++ nmL mem[i] ++ [10]))) (S ++ [.lst (lnD acc)]) := by
          refine js3 (by rw [wordsp]; rfl) (fmt_num hc ?_) (by rw [newl]; rfl) (by simp [wdL]; omega)
          simp_arith [x0]
        have e1 : disB [some (.tup (mem.map .int)), some (.loc S.length), some (.int i)] (S ++ [.lst (lnD acc)]) = .nx [some (.tup (mem.map .int)), some (.loc S.length), some (.int ((i : Int) + 1))] (S ++ [.lst (lnD acc ++ [.str (SX.S (wdL ++ [32] ++ nmL mem[i] ++ [10]))])]) := by
          have itl' := itl (lnD acc)
          have ga' := ga (wdL ++ [32] ++ nmL mem[i] ++ [10])
          simp only [List.append_assoc, List.cons_append, List.nil_append] at js ga' ⊢
          by_cases h1 : (1 : Int) ≤ mem[i]
          · by_cases h2 : mem[i] ≤ 23
            · have h3 : ¬ i + 1 < mem.length := fun h => hA ⟨⟨h1, h2⟩, h⟩
              have g3 : decide ((i : Int) + 1 < mem.length) = false := by simp; omega
              have g1 : decide ((1 : Int) ≤ mem[i]) = true := decide_eq_true h1
              have g2 : decide (mem[i] ≤ (23 : Int)) = true := decide_eq_true h2
              simp_arith [x0, g1, cl, lMN, g2, g3, ln, js, itl', ga']
            · have g1 : decide ((1 : Int) ≤ mem[i]) = true := decide_eq_true h1
              have g2 : decide (mem[i] ≤ (23 : Int)) = false := decide_eq_false h2
              simp_arith [x0, g1, cl, lMN, g2, js, itl', ga']
          · have g1 : decide ((1 : Int) ≤ mem[i]) = false := decide_eq_false h1
            simp_arith [x0, g1, js, itl', ga']
        rw [e1]
        have ih := dis_loop hw hl k (i + 1) (acc ++ [wrdL mem[i]]) (by omega) (by omega) (by simp; omega)
        have ed : disP (mem.drop i) = wrdL mem[i] :: disP (mem.drop (i + 1)) := by
          rw [hdrop]
          by_cases h3 : i + 1 < mem.length
          · rw [List.drop_eq_getElem_cons h3]
            conv => lhs; unfold disP
            rw [if_neg (fun h => hA ⟨h, h3⟩)]
          · rw [List.drop_eq_nil_of_le (by omega)]
            rfl
        rw [ed]
        obtain ⟨j, ih⟩ := ih
        refine ⟨j, ?_⟩
        have el : lnD (acc ++ [wrdL mem[i]]) = lnD acc ++ [.str (SX.S (wdL ++ [32] ++ nmL mem[i] ++ [10]))] := by simp [lnD, wrdL]
        rw [el] at ih
        have ei : ((i + 1 : Nat) : Int) = (i : Int) + 1 := by omega
        rw [ei] at ih
        simp only
        rw [ih, List.append_assoc]
        rfl
    · have g : decide ((i : Int) < mem.length) = false := by simp; omega
      have e0 : disT [some (.tup (mem.map .int)), some (.loc S.length), some (.int i)] (S ++ [.lst (lnD acc)]) = .ok false (S ++ [.lst (lnD acc)]) := by simp_arith [ln, g]
      rw [e0, List.drop_eq_nil_of_le (by omega)]
      exact ⟨i, by simp [disP]⟩
end
end K03

end

section
set_option maxRecDepth 100000
set_option maxHeartbeats 400000
namespace K03
open PySem L2 M1
theorem dis_count : ∀ (mem : List Int), (disP mem).length ≤ mem.length
  | [] => by simp [disP]
  | [c] => by simp [disP]
  | c :: o :: r => by
    unfold disP
    split
    · have := dis_count r; simp; omega
    · have := dis_count (o :: r); simp at this ⊢; omega
theorem dis_short : ∀ (mem : List Int), (∀ w ∈ mem, wd w) → ∀ l ∈ disP mem, l.length ≤ 13 ∧ okL l
  | [], _, l, h => by simp [disP] at h
  | [c], hw, l, h => by
    simp [disP] at h; subst h
    have := nm_len (hw c (by simp))
    refine ⟨by simp [wrdL, wdL]; omega, fun x hx => ?_⟩
    simp only [wrdL, List.mem_append] at hx
    rcases hx with (hx | hx) | hx
    · simp [wdL] at hx; omega
    · simp at hx; omega
    · have := nm_dig c x hx; omega
  | c :: o :: r, hw, l, h => by
    unfold disP at h
    split at h
    · rename_i hc
      rcases List.mem_cons.mp h with h | h
      · subst h
        have := nm_len (hw o (by simp))
        have hm := mn_ok hc.1 hc.2
        refine ⟨by have := hm.2.2.2.1; simp [insL]; omega, fun x hx => ?_⟩
        simp only [insL, List.mem_append] at hx
        rcases hx with (hx | hx) | hx
        · exact hm.2.2.2.2.1 x hx
        · simp at hx; omega
        · have := nm_dig o x hx; omega
      · exact dis_short r (fun w hx => hw w (by simp [hx])) l h
    · rcases List.mem_cons.mp h with h | h
      · subst h
        have := nm_len (hw c (by simp))
        refine ⟨by simp [wrdL, wdL]; omega, fun x hx => ?_⟩
        simp only [wrdL, List.mem_append] at hx
        rcases hx with (hx | hx) | hx
        · simp [wdL] at hx; omega
        · simp at hx; omega
        · have := nm_dig c x hx; omega
      · exact dis_short (o :: r) (fun w hx => hw w (List.mem_cons_of_mem _ hx)) l h
theorem flat_bound {ls : List (List Nat)} (h : ∀ l ∈ ls, l.length ≤ 13) : (ls.flatMap fun l => l ++ [10]).length ≤ 14 * ls.length := by
  induction ls with
  | nil => simp
  | cons l ls ih =>
    have h1 := h l (List.mem_cons_self ..)
    have h2 := ih fun x hx => h x (List.mem_cons_of_mem _ hx)
    simp only [List.flatMap_cons, List.length_append, List.length_cons, List.length_nil]
    omega
theorem sum_bound {ls : List (List Nat)} (h : ∀ l ∈ ls, l.length ≤ 13) : ((ls.map fun l => SX.S (l ++ [10])).map (·.length)).sum ≤ 14 * ls.length := by
  induction ls with
  | nil => simp
  | cons l ls ih =>
    have h1 := h l (List.mem_cons_self ..)
    have h2 := ih fun x hx => h x (List.mem_cons_of_mem _ hx)
    simp only [List.map_cons, List.sum_cons, S_len, List.length_append, List.length_cons, List.length_nil]
    omega
theorem joinL_nil : ∀ ls : List (List Nat), TL.joinL [] ls = ls.flatten
  | [] => rfl
  | [l] => by simp [TL.joinL]
  | l :: m :: r => by rw [TL.joinL, joinL_nil (m :: r)]; simp
theorem txt_ok {mem : List Int} (hw : ∀ w ∈ mem, wd w) : okL (txtP mem) ∧ (txtP mem).length ≤ 14 * mem.length := by
  have hs := dis_short mem hw
  refine ⟨fun c hc => ?_, ?_⟩
  · unfold txtP at hc
    obtain ⟨l, hl, h⟩ := List.mem_flatMap.mp hc
    rcases List.mem_append.mp h with h | h
    · exact (hs l hl).2 c h
    · simp at h; omega
  · have := flat_bound fun l hl => (hs l hl).1
    have h2 := dis_count mem
    unfold txtP
    omega
theorem words_ok {ns : List Int} (h : ∀ w ∈ ns, wd w) : (ns.map D.int).all wordD = true := by
  simp only [List.all_map, List.all_eq_true, Function.comp, wordD, decide_eq_true_eq]
  exact h
theorem ib_ints (ns : List Int) : ∀ d ∈ ns.map D.int, ib d = true := fun d hd => by
  obtain ⟨i, _, rfl⟩ := List.mem_map.mp hd
  rfl
section
variable {K : PySem.W.Frag} {S : Store}
theorem check_ev {mem : List Int} (hw : ∀ w ∈ mem, wd w) (hl : mem.length ≤ 1000) (S : Store) : ∃ T, m_check_memory K [.tup (mem.map .int)] S = .ok .non (S ++ T) := by
  obtain ⟨T, e⟩ := is_words_ev (K := K) (ds := mem.map .int) (ib_ints _) (by simp; omega) S
  rw [words_ok hw] at e
  refine ⟨T, ?_⟩
  unfold m_check_memory mkFn b_check_memory startE
  simp_arith [e]
theorem disassemble_ev {mem : List Int} (hw : ∀ w ∈ mem, wd w) (hl : mem.length ≤ 1000) (S : Store) : ∃ T, m_disassemble K [.tup (mem.map .int)] S = .ok (.str (SX.S (txtP mem))) (S ++ T) := by
  obtain ⟨T, e⟩ := check_ev (K := K) hw hl S
  obtain ⟨j, lp⟩ := dis_loop (S := S ++ T) hw hl 10000 0 [] (by omega) (by omega) (by simp)
  simp only [List.drop_zero, List.nil_append, List.append_assoc, List.length_append] at lp
  have hs := dis_short mem hw
  have hM : (ts_MNEMONICS.map D.str) = MNs := rfl
  have hj : gJoin (.str ("" : String)) [.loc (S.length + T.length)] (S ++ (T ++ [.lst (lnD (disP mem))])) = some (.str (SX.S (txtP mem)), S ++ (T ++ [.lst (lnD (disP mem))])) := by
    have e1 : lnD (disP mem) = ((disP mem).map fun l => SX.S (l ++ [10])).map .str := by simp [lnD]
    have e2 : lstOf (S ++ (T ++ [.lst (lnD (disP mem))])) (S.length + T.length) = some (((disP mem).map fun l => SX.S (l ++ [10])).map .str) := by rw [lstOf_pk, lstOf_pk0, ← e1]; rfl
    unfold gJoin
    simp only [e2, Option.bind_some, strs_map]
    have b1 := sum_bound fun l hl => (hs l hl).1
    have b2 := dis_count mem
    rw [if_pos (by rw [emptyS, S_len]; simp only [List.length_nil, Nat.mul_zero]; omega), emptyS]
    have e3 : ((disP mem).map fun l => SX.S (l ++ [10])) = ((disP mem).map fun l => l ++ [10]).map SX.S := by rw [List.map_map]; rfl
    rw [e3, SX.join_S, joinL_nil]
    congr 3
  have z0 : ((0 : Nat) : Int) = 0 := rfl
  rw [z0] at lp
  obtain ⟨L, hL⟩ : ∃ L : List D, L = lnD (disP mem) := ⟨_, rfl⟩
  rw [← hL] at lp hj
  have l0 : lnD [] = [] := rfl
  rw [l0] at lp
  refine ⟨T ++ [.lst L], ?_⟩
  unfold m_disassemble mkFn b_disassemble startE
  simp_arith [e, hM, lp, hj]
/-! ### _law_disassemble -/
abbrev ldT : Tx := (tBl (eOp opLt (eVar 2) (eCall cLen (aCons (eVar 0) aNil))))
abbrev ldB : Sm := (sIf (tAndM (tBl (eCh opLt opLt (eC (.int 0)) (eOp opIxE (eVar 0) (eVar 2)) (eC (.int 24)))) (tBl (eOp opLt (eOp opAdd (eVar 2) (eC (.int 1))) (eCall cLen (aCons (eVar 0) aNil))))) (sSeq (sAsg (eOp opIxE (eVar 3) (eOp opSub (eOp opIxE (eVar 0) (eVar 2)) (eC (.int 1)))) (gN 4))
    (sSeq (sAsg (eCall cStr (aCons (eOp opIxE (eVar 0) (eOp opAdd (eVar 2) (eC (.int 1)))) aNil)) (gN 5))
    (sSeq (sAsg (eOp opAdd (eOp opAdd (eOp opAdd (eOp opAdd (eVar 1) (eVar 4)) (eC (.str " "))) (eVar 5)) (eC (.str "\n"))) (gN 1))
    (sAsg (eOp opAdd (eVar 2) (eC (.int 2))) (gN 2))))) (sSeq (sAsg (eOp opAdd (eOp opAdd (eOp opAdd (eVar 1) (eC (.str "word "))) (eCall cStr (aCons (eOp opIxE (eVar 0) (eVar 2)) aNil))) (eC (.str "\n"))) (gN 1))
    (sAsg (eOp opAdd (eVar 2) (eC (.int 1))) (gN 2))))
theorem add_S {a b : List Nat} (h : a.length + b.length ≤ 1000000) (S : Store) : opAdd (.str (SX.S a)) (.str (SX.S b)) S = some (.str (SX.S (a ++ b)), S) := by
  rw [opAdd_str (by rw [S_len, S_len]; omega), S_app]
theorem ldis_loop {mem : List Int} {n : Nat} (hS : lstOf S n = some AM) (hw : ∀ w ∈ mem, wd w) (hl : mem.length ≤ 1000) : ∀ (k i : Nat) (acc : List Nat) (x4 x5 : Option D), i ≤ mem.length → mem.length + 1 ≤ k + i → acc.length ≤ 20 * i →
    ∃ (j : Int) (y4 y5 : Option D), whileN ldT ldB k [some (.tup (mem.map .int)), some (.str (SX.S acc)), some (.int i), some (.loc n), x4, x5] S = .nx [some (.tup (mem.map .int)), some (.str (SX.S (acc ++ txtP (mem.drop i)))), some (.int j), some (.loc n), y4, y5] S
  | 0, i, acc, x4, x5, hi, hk, ha => by omega
  | k + 1, i, acc, x4, x5, hi, hk, ha => by
    rw [whileN_succ]
    have ln : ∀ S', cLen [.tup (mem.map .int)] S' = some (.int mem.length, S') := fun S' => by rw [cLen_tup, List.length_map]
    by_cases hlt : i < mem.length
    · have g : decide ((i : Int) < mem.length) = true := by simp; omega
      have e0 : ldT [some (.tup (mem.map .int)), some (.str (SX.S acc)), some (.int i), some (.loc n), x4, x5] S = .ok true S := by simp_arith [ln, g]
      rw [e0]
      simp only [out_ok, if_true]
      have hc := hw mem[i] (List.getElem_mem hlt)
      have x0 : ∀ S', opIxE (.tup (mem.map .int)) (.int i) S' = some (.int mem[i], S') := fun S' => opIxE_tup (by omega) (by simp [hlt])
      have hdrop := List.drop_eq_getElem_cons hlt
      obtain ⟨nl1, nl2⟩ := nm_len hc
      by_cases hA : (1 ≤ mem[i] ∧ mem[i] ≤ 23) ∧ i + 1 < mem.length
      · obtain ⟨⟨h1, h2⟩, h3⟩ := hA
        have ho := hw mem[i+1] (List.getElem_mem h3)
        have x1 : ∀ S', opIxE (.tup (mem.map .int)) (.int ((i : Int) + 1)) S' = some (.int mem[i+1], S') := fun S' => opIxE_tup (by omega) (by rw [show ((i : Int) + 1).toNat = i + 1 by omega]; simp [h3])
        have hm := mn_ok h1 h2
        have hml := hm.2.2.2.1
        obtain ⟨ol1, ol2⟩ := nm_len ho
        have mi : opIxE (.loc n) (.int (mem[i] - 1)) S = some (.str (SX.S (mnL mem[i])), S) := by
          rw [hm.1]
          refine opIxE_lst hS (by omega) ?_
          have hi : (mem[i] - 1).toNat < 23 := by omega
          unfold AM mnS
          rw [List.getElem?_map, List.getD_eq_getElem?_getD, List.getElem?_eq_getElem (by show _ < 23; omega)]
          rfl
        have g1 : decide ((0 : Int) < mem[i]) = true := decide_eq_true (by omega)
        have g2 : decide (mem[i] < (24 : Int)) = true := decide_eq_true (by omega)
        have g3 : decide ((i : Int) + 1 < mem.length) = true := by simp; omega
        have sn := str_num (S := S) ho
        have a1 := add_S (a := acc) (b := mnL mem[i]) (by omega) S
        have a2 := add_S (a := acc ++ mnL mem[i]) (b := [32]) (by simp; omega) S
        have a3 := add_S (a := acc ++ mnL mem[i] ++ [32]) (b := nmL mem[i+1]) (by simp; omega) S
        have a4 := add_S (a := acc ++ mnL mem[i] ++ [32] ++ nmL mem[i+1]) (b := [10]) (by simp; omega) S
        simp only [List.append_assoc] at a2 a3 a4
        have e1 : ldB [some (.tup (mem.map .int)), some (.str (SX.S acc)), some (.int i), some (.loc n), x4, x5] S = .nx [some (.tup (mem.map .int)), some (.str (SX.S (acc ++ (mnL mem[i] ++ ([32] ++ (nmL mem[i+1] ++ [10])))))), some (.int ((i : Int) + 2)), some (.loc n), some (.str (SX.S (mnL mem[i]))), some (.str (SX.S (nmL mem[i+1])))] S := by
          simp only [List.cons_append, List.nil_append] at a1 a2 a3 a4 ⊢
          simp_arith [x0, g1, g2, g3, ln, mi, x1, sn, a1, space, a2, a3, newl, a4]
        rw [e1]
        obtain ⟨j, y4, y5, ih⟩ := ldis_loop hS hw hl k (i + 2) (acc ++ (mnL mem[i] ++ ([32] ++ (nmL mem[i+1] ++ [10])))) (some (.str (SX.S (mnL mem[i])))) (some (.str (SX.S (nmL mem[i+1])))) (by omega) (by omega) (by simp; omega)
        have ed : disP (mem.drop i) = insL mem[i] mem[i+1] :: disP (mem.drop (i + 2)) := by
          rw [hdrop, List.drop_eq_getElem_cons h3]
          conv => lhs; unfold disP
          rw [if_pos ⟨h1, h2⟩]
        have et : acc ++ txtP (mem.drop i) = acc ++ (mnL mem[i] ++ ([32] ++ (nmL mem[i+1] ++ [10]))) ++ txtP (mem.drop (i + 2)) := by
          unfold txtP
          rw [ed]
          simp [insL]
        have ei : ((i + 2 : Nat) : Int) = (i : Int) + 2 := by omega
        rw [ei] at ih
        rw [et]
        exact ⟨j, y4, y5, ih⟩
      · have sn := str_num (S := S) hc
        have a1 := add_S (a := acc) (b := wdL ++ [32]) (by simp [wdL]; omega) S
        have a2 := add_S (a := acc ++ (wdL ++ [32])) (b := nmL mem[i]) (by simp [wdL]; omega) S
        have a3 := add_S (a := acc ++ (wdL ++ [32]) ++ nmL mem[i]) (b := [10]) (by simp [wdL]; omega) S
        obtain ⟨W, hW⟩ : ∃ W : List Nat, W = wdL ++ [32] := ⟨_, rfl⟩
        rw [← hW] at a1 a2 a3
        have ws := wordsp
        rw [← hW] at ws
        simp only [List.append_assoc] at a2 a3
        have e1 : ldB [some (.tup (mem.map .int)), some (.str (SX.S acc)), some (.int i), some (.loc n), x4, x5] S = .nx [some (.tup (mem.map .int)), some (.str (SX.S (acc ++ (W ++ (nmL mem[i] ++ [10]))))), some (.int ((i : Int) + 1)), some (.loc n), x4, x5] S := by
          by_cases h1 : (1 : Int) ≤ mem[i]
          · have g1 : decide ((0 : Int) < mem[i]) = true := decide_eq_true (by omega)
            by_cases h2 : mem[i] ≤ 23
            · have h3 : ¬ i + 1 < mem.length := fun h => hA ⟨⟨h1, h2⟩, h⟩
              have g3 : decide ((i : Int) + 1 < mem.length) = false := by simp; omega
              have g2 : decide (mem[i] < (24 : Int)) = true := decide_eq_true (by omega)
              simp_arith [x0, g1, g2, g3, ln, sn, a1, ws, a2, newl, a3]
            · have g2 : decide (mem[i] < (24 : Int)) = false := decide_eq_false (by omega)
              simp_arith [x0, g1, g2, ln, sn, a1, ws, a2, newl, a3]
          · have g1 : decide ((0 : Int) < mem[i]) = false := decide_eq_false (by omega)
            simp_arith [x0, g1, ln, sn, a1, ws, a2, newl, a3]
        rw [e1]
        obtain ⟨j, y4, y5, ih⟩ := ldis_loop hS hw hl k (i + 1) (acc ++ (W ++ (nmL mem[i] ++ [10]))) x4 x5 (by omega) (by omega) (by simp [hW, wdL]; omega)
        have ed : disP (mem.drop i) = wrdL mem[i] :: disP (mem.drop (i + 1)) := by
          rw [hdrop]
          by_cases h3 : i + 1 < mem.length
          · rw [List.drop_eq_getElem_cons h3]
            conv => lhs; unfold disP
            rw [if_neg (fun h => hA ⟨h, h3⟩)]
          · rw [List.drop_eq_nil_of_le (by omega)]
            rfl
        have et : acc ++ txtP (mem.drop i) = acc ++ (W ++ (nmL mem[i] ++ [10])) ++ txtP (mem.drop (i + 1)) := by
          unfold txtP
          rw [ed, hW]
          simp [wrdL]
        have ei : ((i + 1 : Nat) : Int) = (i : Int) + 1 := by omega
        rw [ei] at ih
        rw [et]
        exact ⟨j, y4, y5, ih⟩
    · have g : decide ((i : Int) < mem.length) = false := by simp; omega
      have e0 : ldT [some (.tup (mem.map .int)), some (.str (SX.S acc)), some (.int i), some (.loc n), x4, x5] S = .ok false S := by simp_arith [ln, g]
      rw [e0, List.drop_eq_nil_of_le (by omega)]
      exact ⟨i, x4, x5, by simp [txtP, disP]⟩
theorem law_disassemble_ev {mem : List Int} (hw : ∀ w ∈ mem, wd w) (hl : mem.length ≤ 1000) (S : Store) : ∃ T, m_law_disassemble K [.tup (mem.map .int)] S = .ok (.str (SX.S (txtP mem))) (S ++ T) := by
  obtain ⟨T, j, e, hj⟩ := all_ev (K := K) S
  obtain ⟨j2, y4, y5, lp⟩ := ldis_loop (S := S ++ T) (n := S.length + j) (by rw [lstOf_pk]; exact lstOf_W hj) hw hl 10000 0 [] none none (by omega) (by omega) (by simp)
  simp only [List.drop_zero, List.nil_append] at lp
  have z0 : ((0 : Nat) : Int) = 0 := rfl
  rw [z0, ← emptyS] at lp
  refine ⟨T, ?_⟩
  unfold m_law_disassemble mkFn b_law_disassemble startE
  simp_arith [e, lp]
end
end K03

end

section
set_option maxRecDepth 100000
set_option maxHeartbeats 400000
namespace K03
open PySem L2 M1
theorem spl_tot (c : Nat) : ∀ (l : List Nat) (acc : List Nat), ((TL.spl [c] 0 acc l).map List.length).sum + (TL.spl [c] 0 acc l).length ≤ acc.length + l.length + 1
  | [], acc => by simp [TL.spl]
  | x :: r, acc => by
    simp only [TL.spl]
    split
    · have := spl_tot c r []
      simp only [List.length_cons, List.length_nil, Nat.sub_self, List.map_cons, List.sum_cons] at this ⊢
      omega
    · have := spl_tot c r (acc ++ [x])
      simp only [List.length_append, List.length_cons, List.length_nil] at this ⊢
      omega
theorem joinL_len : ∀ ls : List (List Nat), (TL.joinL [10] ls).length ≤ (ls.map List.length).sum + ls.length
  | [] => by simp [TL.joinL]
  | [l] => by simp [TL.joinL]
  | l :: m :: r => by
    have := joinL_len (m :: r)
    rw [TL.joinL]
    simp only [List.length_append, List.length_cons, List.length_nil, List.map_cons, List.sum_cons] at this ⊢
    omega
theorem joinL_ok : ∀ ls : List (List Nat), (∀ l ∈ ls, okL l) → okL (TL.joinL [10] ls)
  | [], _ => by intro c hc; simp [TL.joinL] at hc
  | [l], h => by intro c hc; simp [TL.joinL] at hc; exact h l (by simp) c hc
  | l :: m :: r, h => by
    rw [TL.joinL]
    intro c hc
    rcases List.mem_append.mp hc with hc | hc
    · exact h l (by simp) c hc
    · rcases List.mem_append.mp hc with hc | hc
      · simp at hc; omega
      · exact joinL_ok (m :: r) (fun x hx => h x (List.mem_cons_of_mem _ hx)) c hc
def strD (ls : List (List Nat)) : List D := ls.map fun p => .str (SX.S p)
section
variable {K : PySem.W.Frag} {S : Store}
theorem join_at {p : Nat} {ls : List (List Nat)} (h : lstOf S p = some (strD ls)) (hb : (ls.map List.length).sum + ls.length ≤ 1000000) : gJoin (.str ("\n" : String)) [.loc p] S = some (.str (SX.S (TL.joinL [10] ls)), S) := by
  have e1 : strD ls = (ls.map SX.S).map .str := by simp [strD]
  rw [e1] at h
  unfold gJoin
  simp only [h, Option.bind_some, strs_map]
  have hs : ((ls.map SX.S).map (·.length)).sum = (ls.map List.length).sum := by
    rw [List.map_map]
    congr 1
  rw [hs, newl, S_len, List.length_map, if_pos (by simp only [List.length_cons, List.length_nil]; omega), SX.join_S]
theorem sum_take (ls : List (List Nat)) (k : Nat) : ((ls.take k).map List.length).sum + ((ls.drop k).map List.length).sum = (ls.map List.length).sum := by
  rw [← List.sum_append, ← List.map_append, List.take_append_drop]
/-- a changed text: its signs and its length -/
structure ChOk (a b : List Nat) : Prop where
  ok : okL b
  len : b.length ≤ 2 * a.length + 100
theorem lt_here : (("here:" : String) : Str) = SX.S [104, 101, 114, 101, 58] := by decide +kernel
theorem lt_h : (("here" : String) : Str) = SX.S [104, 101, 114, 101] := by decide +kernel
theorem lt_th : (("there" : String) : Str) = SX.S [116, 104, 101, 114, 101] := by decide +kernel
theorem lt_x : (("x" : String) : Str) = SX.S [120] := by decide +kernel
theorem lt_set : (("set" : String) : Str) = SX.S [115, 101, 116] := by decide +kernel
theorem lt_jump : (("jump " : String) : Str) = SX.S [106, 117, 109, 112, 32] := by decide +kernel
theorem lt_rh : (("resume here" : String) : Str) = SX.S [114, 101, 115, 117, 109, 101, 32, 104, 101, 114, 101] := by decide +kernel
theorem lt_je : (("jumpz end" : String) : Str) = SX.S [106, 117, 109, 112, 122, 32, 101, 110, 100] := by decide +kernel
theorem lt_end : (("end:" : String) : Str) = SX.S [101, 110, 100, 58] := by decide +kernel
theorem okB {l : List Nat} (h : l.all (fun c => decide (c < 1114112)) = true) : okL l := fun c hc => by
  rw [List.all_eq_true] at h
  exact of_decide_eq_true (h c hc)
theorem chars_ok : ∀ i : Fin 14, ∃ c, (("0129 :\nabxspec" : String) : Str).cps.toList[i.val]? = some c ∧ c < 1114112 := by decide +kernel
theorem changed_ev {a : List Nat} {v : Int} (hok : okL a) (hl : a.length ≤ 10000) (hv : 0 ≤ v) (S : Store) : ∃ b T, m_law_changed K [.str (SX.S a), .int v] S = .ok (.str (SX.S b)) (S ++ T) ∧ ChOk a b := by
  have q : ∀ a b : Int, 0 < b → 0 ≤ a % b ∧ a % b < b := fun a b h => ⟨Int.emod_nonneg _ (by omega), Int.emod_lt_of_pos _ h⟩
  have sp := split_at 10 (by decide) (by omega : a.length ≤ 1000000) S
  rw [← newl] at sp
  obtain ⟨LL, hLL⟩ : ∃ L, L = TL.spl [10] 0 [] a := ⟨_, rfl⟩
  have hne : 1 ≤ LL.length := by
    have := spl_ne [10] a 0 []
    rw [← hLL] at this
    cases LL with
    | nil => exact absurd rfl this
    | cons x l => simp
  have htot := spl_tot 10 a []
  have hpo : ∀ p ∈ LL, okL p ∧ p.length ≤ a.length := fun p hp => by rw [hLL] at hp; exact ⟨spl_ok hp hok, spl_len hp⟩
  rw [← hLL] at sp htot
  simp only [List.length_nil, Nat.zero_add] at htot
  obtain ⟨L, hL⟩ : ∃ L : List D, L = strD LL := ⟨_, rfl⟩
  have eL : (LL.map fun p => D.str (SX.S p)) = L := by rw [hL]; rfl
  rw [eL] at sp
  have lL : L.length = LL.length := by rw [hL]; simp [strD]
  have lnt : ∀ S', cLen [.str (SX.S a)] S' = some (.int a.length, S') := fun S' => by rw [cLen_str (by rw [S_len]; omega), S_len]
  have lnl : cLen [.loc S.length] (S ++ [.lst L]) = some (.int LL.length, S ++ [.lst L]) := by rw [cLen_loc (ds := L) (by simp), lL]
  obtain ⟨p, hp⟩ : ∃ p : Int, p = v / 7 % ((a.length : Int) + 1) := ⟨_, rfl⟩
  obtain ⟨k, hk⟩ : ∃ k : Int, k = v / 7 % (LL.length : Int) := ⟨_, rfl⟩
  have hp0 : 0 ≤ p := by rw [hp]; exact (q _ _ (by omega)).1
  have hk0 : 0 ≤ k := by rw [hk]; exact (q _ _ (by omega)).1
  have mp : ∀ S', opMod (.int (v / 7)) (.int ((a.length : Int) + 1)) S' = some (.int p, S') := fun S' => by rw [hp]; exact opMod_int _ _ (by omega)
  have mk : ∀ S', opMod (.int (v / 7)) (.int LL.length) S' = some (.int k, S') := fun S' => by rw [hk]; exact opMod_int _ _ (by omega)
  have q14 := q (v / 7 / 5000) 14 (by decide)
  obtain ⟨c, hc, hc2⟩ := chars_ok ⟨(v / 7 / 5000 % 14).toNat, by omega⟩
  have xc : ∀ S', opIxE (.str ("0129 :\nabxspec" : String)) (.int (v / 7 / 5000 % 14)) S' = some (.str (SX.S [c]), S') := fun S' => opIxE_str (by decide +kernel) q14.1 hc
  have st1 : ∀ S', opSl (.str (SX.S a)) none (some p) S' = some (.str (SX.S (a.take p.toNat)), S') := fun S' => by rw [opSl_str (by rw [S_len]; omega), SX.slice_to hp0]
  have st2 : ∀ (d : Int), 0 ≤ d → ∀ S', opSl (.str (SX.S a)) (some d) none S' = some (.str (SX.S (a.drop d.toNat)), S') := fun d hd S' => by rw [opSl_str (by rw [S_len]; omega), SX.slice_from hd]
  have tk : okL (a.take p.toNat) := fun x hx => hok x (List.mem_of_mem_take hx)
  have dr : ∀ n, okL (a.drop n) := fun n x hx => hok x (List.mem_of_mem_drop hx)
  have oc : okL [c] := fun x hx => by simp at hx; subst hx; exact hc2
  obtain ⟨ch, hch⟩ : ∃ ch : Int, ch = v % 7 := ⟨_, rfl⟩
  have m7 : ∀ S', opMod (.int v) (.int 7) S' = some (.int ch, S') := fun S' => by rw [hch]; exact opMod_int _ _ (by decide)
  have hch0 := q v 7 (by decide)
  rw [← hch] at hch0
  have ltk : (a.take p.toNat).length ≤ a.length := by rw [List.length_take]; omega
  by_cases c2 : ch < 2
  · have g : decide (ch < 2) = true := decide_eq_true c2
    have s2 := st2 (p + ch) (by omega)
    have a1 := add_S (a := a.take p.toNat) (b := [c]) (by simp; omega)
    have a2 := add_S (a := a.take p.toNat ++ [c]) (b := a.drop (p + ch).toNat) (by simp; omega)
    refine ⟨a.take p.toNat ++ [c] ++ a.drop (p + ch).toNat, [.lst L], ?_, ⟨fun x hx => ?_, by simp; omega⟩⟩
    · unfold m_law_changed mkFn b_law_changed startE
      simp only [List.append_assoc, List.cons_append, List.nil_append] at a2 ⊢
      simp_arith [sp, m7, lnt, lnl, mp, mk, xc, g, st1, s2, a1, a2]
    · rcases List.mem_append.mp hx with hx | hx
      · rcases List.mem_append.mp hx with hx | hx
        · exact tk x hx
        · exact oc x hx
      · exact dr _ x hx
  · have g : decide (ch < 2) = false := decide_eq_false c2
    by_cases c3 : ch = 2
    · have g2 : decide (ch = 2) = true := decide_eq_true c3
      have s2 := st2 (p + 1) (by omega)
      have a1 := add_S (a := a.take p.toNat) (b := a.drop (p + 1).toNat) (by simp; omega)
      refine ⟨a.take p.toNat ++ a.drop (p + 1).toNat, [.lst L], ?_, ⟨fun x hx => ?_, by simp; omega⟩⟩
      · unfold m_law_changed mkFn b_law_changed startE
        simp_arith [sp, m7, lnt, lnl, mp, mk, xc, g, g2, st1, s2, a1]
      · rcases List.mem_append.mp hx with hx | hx
        · exact tk x hx
        · exact dr _ x hx
    · have g2 : decide (ch = 2) = false := decide_eq_false c3
      -- the lines with others among them
      obtain ⟨A, hA⟩ : ∃ A : List D, A = strD (LL.take k.toNat) := ⟨_, rfl⟩
      obtain ⟨B, hB⟩ : ∃ B : List D, B = strD (LL.drop k.toNat) := ⟨_, rfl⟩
      have sd : ∀ xs ys, strD (xs ++ ys) = strD xs ++ strD ys := fun xs ys => by simp [strD]
      have sl : ∀ xs, (strD xs).length = xs.length := fun xs => by simp [strD]
      have lA : A.length ≤ LL.length := by rw [hA, sl, List.length_take]; omega
      have lB : B.length ≤ LL.length := by rw [hB, sl, List.length_drop]; omega
      have s1 : opSl (.loc S.length) none (some k) (S ++ [.lst L]) = some (.loc (S.length + 1), S ++ [.lst L, .lst A]) := by
        rw [opSl_lst (ds := L) (by simp), cut_take hk0, hL, hA]; simp [strD]
      have s2 : ∀ X Y : List D, opSl (.loc S.length) (some k) none (S ++ [.lst L, .lst A, .lst X, .lst Y]) = some (.loc (S.length + 4), S ++ [.lst L, .lst A, .lst X, .lst Y, .lst B]) := fun X Y => by
        rw [opSl_lst (ds := L) (by simp), cut_drop hk0, hL, hB]; simp [strD]
      have a1 : ∀ X : List D, X.length ≤ 10 → opAdd (.loc (S.length + 1)) (.loc (S.length + 2)) (S ++ [.lst L, .lst A, .lst X]) = some (.loc (S.length + 3), S ++ [.lst L, .lst A, .lst X, .lst (A ++ X)]) := fun X hX => by
        rw [opAdd_lst (a := A) (b := X) (by rw [lstW_pk]; rfl) (by rw [lstW_pk]; rfl) (by omega)]; simp
      have a2 : ∀ X : List D, X.length ≤ 10 → opAdd (.loc (S.length + 3)) (.loc (S.length + 4)) (S ++ [.lst L, .lst A, .lst X, .lst (A ++ X), .lst B]) = some (.loc (S.length + 5), S ++ [.lst L, .lst A, .lst X, .lst (A ++ X), .lst B, .lst (A ++ X ++ B)]) := fun X hX => by
        rw [opAdd_lst (a := A ++ X) (b := B) (by rw [lstW_pk]; rfl) (by rw [lstW_pk]; rfl) (by simp; omega)]; simp
      have st := sum_take LL k.toNat
      have lk : (LL.take k.toNat).length + (LL.drop k.toNat).length = LL.length := by rw [List.length_take, List.length_drop]; omega
      have okT : ∀ l ∈ LL.take k.toNat, okL l := fun l hl => (hpo l (List.mem_of_mem_take hl)).1
      have okD : ∀ l ∈ LL.drop k.toNat, okL l := fun l hl => (hpo l (List.mem_of_mem_drop hl)).1
      -- one more line
      have one : ∀ x : List Nat, okL x → x.length ≤ a.length + 50 → ∃ T, (∀ y, y = (D.str (SX.S x)) → gJoin (.str ("\n" : String)) [.loc (S.length + 5)] (S ++ [.lst L, .lst A, .lst [y], .lst (A ++ [y]), .lst B, .lst (A ++ [y] ++ B)]) = some (.str (SX.S T), S ++ [.lst L, .lst A, .lst [y], .lst (A ++ [y]), .lst B, .lst (A ++ [y] ++ B)])) ∧ ChOk a T := fun x hx hxl => by
        refine ⟨TL.joinL [10] (LL.take k.toNat ++ [x] ++ LL.drop k.toNat), fun y hy => ?_, joinL_ok _ fun l hl => ?_, ?_⟩
        · refine join_at ?_ ?_
          · rw [lstOf_pk]
            show some _ = some _
            rw [sd, sd, hA, hB, hy]; rfl
          · simp only [List.map_append, List.sum_append, List.map_cons, List.map_nil, List.sum_cons, List.sum_nil, List.length_append, List.length_cons, List.length_nil]
            omega
        · rcases List.mem_append.mp hl with hl | hl
          · rcases List.mem_append.mp hl with hl | hl
            · exact okT l hl
            · simp at hl; subst hl; exact hx
          · exact okD l hl
        · have := joinL_len (LL.take k.toNat ++ [x] ++ LL.drop k.toNat)
          simp only [List.map_append, List.sum_append, List.map_cons, List.map_nil, List.sum_cons, List.sum_nil, List.length_append, List.length_cons, List.length_nil] at this
          omega
      have nrm : ∀ X : List D, A ++ X ++ B = A ++ (X ++ B) := fun X => List.append_assoc _ _ _
      by_cases c4 : ch = 3
      · have g3 : decide (ch = 3) = true := decide_eq_true c4
        obtain ⟨T, hj, ck⟩ := one [104, 101, 114, 101, 58] (okB (by decide)) (by simp)
        have hj := hj _ (congrArg D.str lt_here)
        obtain ⟨y, hy⟩ : ∃ y, y = D.str ("here:" : String) := ⟨_, rfl⟩
        rw [← hy] at hj
        have a1 := a1 [y] (by simp)
        have a2 := a2 [y] (by simp)
        have s2 := s2 [y] (A ++ [y])
        simp only [List.append_assoc, List.cons_append, List.nil_append] at hj a1 a2 s2
        refine ⟨T, [.lst L, .lst A, .lst [y], .lst (A ++ [y]), .lst B, .lst (A ++ (y :: B))], ?_, ck⟩
        unfold m_law_changed mkFn b_law_changed startE
        simp_arith [sp, m7, lnt, lnl, mp, mk, xc, g, g2, g3, s1, s2, a1, a2, hj, ← hy]
      · have g3 : decide (ch = 3) = false := decide_eq_false c4
        by_cases c5 : ch = 4
        · have g4 : decide (ch = 4) = true := decide_eq_true c5
          have q4 := q (v / 7 / 50) 4 (by decide)
          obtain ⟨x, xk, xl, hx⟩ : ∃ x, okL x ∧ x.length ≤ 5 ∧ ∀ S', opIxE (.tup [.str ("here" : String), .str ("there" : String), .str ("x" : String), .str ("set" : String)]) (.int (v / 7 / 50 % 4)) S' = some (.str (SX.S x), S') := by
            have h4 : v / 7 / 50 % 4 = 0 ∨ v / 7 / 50 % 4 = 1 ∨ v / 7 / 50 % 4 = 2 ∨ v / 7 / 50 % 4 = 3 := by omega
            rw [lt_h, lt_th, lt_x, lt_set]
            rcases h4 with h4 | h4 | h4 | h4 <;> rw [h4]
            · exact ⟨_, okB (by decide), by simp, fun S' => opIxE_tup (by decide) rfl⟩
            · exact ⟨_, okB (by decide), by simp, fun S' => opIxE_tup (by decide) rfl⟩
            · exact ⟨_, okB (by decide), by simp, fun S' => opIxE_tup (by decide) rfl⟩
            · exact ⟨_, okB (by decide), by simp, fun S' => opIxE_tup (by decide) rfl⟩
          obtain ⟨J, hJ⟩ : ∃ J : List Nat, J = [106, 117, 109, 112, 32] := ⟨_, rfl⟩
          have lj := lt_jump
          rw [← hJ] at lj
          have aj := add_S (a := J) (b := x) (by rw [hJ]; simp; omega)
          obtain ⟨T, hj, ck⟩ := one (J ++ x) (fun c hc => by
            rcases List.mem_append.mp hc with h | h
            · rw [hJ] at h; exact okB (l := [106, 117, 109, 112, 32]) (by decide) c h
            · exact xk c h) (by rw [hJ]; simp; omega)
          obtain ⟨y, hy⟩ : ∃ y, y = D.str (SX.S (J ++ x)) := ⟨_, rfl⟩
          have hj := hj y hy
          have a1 := a1 [y] (by simp)
          have a2 := a2 [y] (by simp)
          have s2 := s2 [y] (A ++ [y])
          simp only [List.append_assoc, List.cons_append, List.nil_append] at hj a1 a2 s2
          rw [← hy] at aj
          refine ⟨T, [.lst L, .lst A, .lst [y], .lst (A ++ [y]), .lst B, .lst (A ++ (y :: B))], ?_, ck⟩
          unfold m_law_changed mkFn b_law_changed startE
          simp_arith [sp, m7, lnt, lnl, mp, mk, xc, g, g2, g3, g4, s1, s2, a1, a2, hj, hx, lj, aj]
        · have g4 : decide (ch = 4) = false := decide_eq_false c5
          by_cases c6 : ch = 5
          · have g5 : decide (ch = 5) = true := decide_eq_true c6
            obtain ⟨w, hw⟩ : ∃ w : Int, w = v / 7 / 50 % (LL.length : Int) := ⟨_, rfl⟩
            have qw := q (v / 7 / 50) LL.length (by omega)
            rw [← hw] at qw
            have mw : ∀ S', opMod (.int (v / 7 / 50)) (.int LL.length) S' = some (.int w, S') := fun S' => by rw [hw]; exact opMod_int _ _ (by omega)
            have hlt : w.toNat < LL.length := by omega
            have xi : opIxE (.loc S.length) (.int w) (S ++ [.lst L]) = some (.str (SX.S LL[w.toNat]), S ++ [.lst L]) := opIxE_lst (by rw [lstOf_pk0]; rfl) qw.1 (by rw [hL]; simp [strD, hlt])
            have hm := hpo _ (List.getElem_mem hlt)
            obtain ⟨T, hj, ck⟩ := one LL[w.toNat] hm.1 (by omega)
            obtain ⟨y, hy⟩ : ∃ y, y = D.str (SX.S LL[w.toNat]) := ⟨_, rfl⟩
            have hj := hj y hy
            have a1 := a1 [y] (by simp)
            have a2 := a2 [y] (by simp)
            have s2 := s2 [y] (A ++ [y])
            simp only [List.append_assoc, List.cons_append, List.nil_append] at hj a1 a2 s2
            rw [← hy] at xi
            refine ⟨T, [.lst L, .lst A, .lst [y], .lst (A ++ [y]), .lst B, .lst (A ++ (y :: B))], ?_, ck⟩
            unfold m_law_changed mkFn b_law_changed startE
            simp_arith [sp, m7, lnt, lnl, mp, mk, xc, g, g2, g3, g4, g5, s1, s2, a1, a2, hj, mw, xi]
          · have g5 : decide (ch = 5) = false := decide_eq_false c6
            obtain ⟨X, hX⟩ : ∃ X : List D, X = [.str ("here:" : String), .str ("resume here" : String), .str ("jumpz end" : String)] := ⟨_, rfl⟩
            obtain ⟨E, hE⟩ : ∃ E : List D, E = [.str ("end:" : String), .str ("" : String)] := ⟨_, rfl⟩
            obtain ⟨XL, hXL⟩ : ∃ X : List (List Nat), X = [[104, 101, 114, 101, 58], [114, 101, 115, 117, 109, 101, 32, 104, 101, 114, 101], [106, 117, 109, 112, 122, 32, 101, 110, 100]] := ⟨_, rfl⟩
            obtain ⟨EL, hEL⟩ : ∃ X : List (List Nat), X = [[101, 110, 100, 58], []] := ⟨_, rfl⟩
            have eX : X = strD XL := by rw [hX, hXL, lt_here, lt_rh, lt_je]; rfl
            have eE : E = strD EL := by rw [hE, hEL, lt_end, emptyS]; rfl
            have lX : X.length = 3 := by rw [hX]; rfl
            have lE : E.length = 2 := by rw [hE]; rfl
            have a1 := a1 X (by omega)
            have a2 := a2 X (by omega)
            have s2 := s2 X (A ++ X)
            have a3 : opAdd (.loc (S.length + 5)) (.loc (S.length + 6)) (S ++ [.lst L, .lst A, .lst X, .lst (A ++ X), .lst B, .lst (A ++ X ++ B), .lst E]) = some (.loc (S.length + 7), S ++ [.lst L, .lst A, .lst X, .lst (A ++ X), .lst B, .lst (A ++ X ++ B), .lst E, .lst (A ++ X ++ B ++ E)]) := by
              rw [opAdd_lst (a := A ++ X ++ B) (b := E) (by rw [lstW_pk]; rfl) (by rw [lstW_pk]; rfl) (by simp; omega)]; simp
            have sXE : (XL.map List.length).sum = 25 ∧ XL.length = 3 ∧ (EL.map List.length).sum = 4 ∧ EL.length = 2 := by rw [hXL, hEL]; exact ⟨rfl, rfl, rfl, rfl⟩
            have hj : gJoin (.str ("\n" : String)) [.loc (S.length + 7)] (S ++ [.lst L, .lst A, .lst X, .lst (A ++ X), .lst B, .lst (A ++ X ++ B), .lst E, .lst (A ++ X ++ B ++ E)]) = some (.str (SX.S (TL.joinL [10] (LL.take k.toNat ++ XL ++ LL.drop k.toNat ++ EL))), S ++ [.lst L, .lst A, .lst X, .lst (A ++ X), .lst B, .lst (A ++ X ++ B), .lst E, .lst (A ++ X ++ B ++ E)]) := by
              refine join_at ?_ ?_
              · rw [lstOf_pk]
                show some _ = some _
                rw [sd, sd, sd, hA, hB, eX, eE]
              · simp only [List.map_append, List.sum_append, List.length_append]
                omega
            have ck : ChOk a (TL.joinL [10] (LL.take k.toNat ++ XL ++ LL.drop k.toNat ++ EL)) := by
              refine ⟨joinL_ok _ fun l hl => ?_, ?_⟩
              · simp only [List.mem_append] at hl
                rcases hl with ((hl | hl) | hl) | hl
                · exact okT l hl
                · rw [hXL] at hl
                  simp only [List.mem_cons, List.not_mem_nil, or_false] at hl
                  rcases hl with hl | hl | hl <;> subst hl <;> exact okB (by decide)
                · exact okD l hl
                · rw [hEL] at hl
                  simp only [List.mem_cons, List.not_mem_nil, or_false] at hl
                  rcases hl with hl | hl <;> subst hl <;> exact okB (by decide)
              · have := joinL_len (LL.take k.toNat ++ XL ++ LL.drop k.toNat ++ EL)
                simp only [List.map_append, List.sum_append, List.length_append] at this
                omega
            simp only [List.append_assoc, List.cons_append, List.nil_append] at hj a1 a2 a3 s2 ck
            refine ⟨_, [.lst L, .lst A, .lst X, .lst (A ++ X), .lst B, .lst (A ++ (X ++ B)), .lst E, .lst (A ++ (X ++ (B ++ E)))], ?_, ck⟩
            unfold m_law_changed mkFn b_law_changed startE
            simp_arith [sp, m7, lnt, lnl, mp, mk, xc, g, g2, g3, g4, g5, s1, s2, a1, a2, a3, hj, ← hX, ← hE, lX, lE]
end
end K03

end

section
set_option maxRecDepth 100000
set_option maxHeartbeats 400000
namespace K03
open PySem L2 M1
section
variable {K : PySem.W.Frag} {S : Store}
/-- the exceptions' classes differ -/
structure Dis (K : PySem.W.Frag) : Prop where
  pe : ans_ParseError K (PE K) = some true
  im : ans_InvalidMemory K (.ref (He.ga K "InvalidMemory")) = some true
theorem dis_of {mg : Str → Option Value} (hy : Hy K mg) : Dis K := by
  constructor
  · unfold ans_ParseError
    split
    · rename_i e
      have h1 := hy.e_VirtError_ParseError
      rw [← e, hy.e_ParseError_ParseError] at h1
      cases h1
    · split
      · rename_i e
        have h1 := hy.e_InvalidMemory_ParseError
        rw [← e, hy.e_ParseError_ParseError] at h1
        cases h1
      · rw [if_pos rfl]
  · unfold ans_InvalidMemory
    split
    · rename_i e
      have h1 := hy.e_VirtError_InvalidMemory
      rw [← e, hy.e_InvalidMemory_InvalidMemory] at h1
      cases h1
    · rw [if_pos rfl]
theorem result_ok {d v : D} {T : Store} (e : m_assemble K [d] S = .ok v (S ++ T)) : m_law_result K [d] S = .ok v (S ++ T) := by
  unfold m_law_result mkFn b_law_result startE sTryF
  simp_arith [e]
theorem result_ex (ds : Dis K) {d v : D} {T : Store} {k : Nat} (e : m_assemble K [d] S = .ex (PE K) (some (S.length + k)) (S ++ T)) (h : T[k]? = some (.xd [("line", v)])) : m_law_result K [d] S = .ok v (S ++ T) := by
  have h' : (S ++ T)[S.length + k]? = some (.xd [("line", v)]) := by rw [List.getElem?_append_right (by omega)]; simpa using h
  have lk : List.lookup ("line" : Str) [(("line" : Str), v)] = some v := rfl
  unfold m_law_result mkFn b_law_result startE sTryF
  simp_arith [e, ds.pe, h', lk, and_self]
theorem result_ev (ds : Dis K) {a : List Nat} (hok : okL a) (hl : a.length ≤ 900000) (S : Store) : ∃ T, m_law_result K [.str (SX.S a)] S = .ok (asmD (asmP a)) (S ++ T) := by
  have h := assemble_ev (K := K) hok hl S
  cases hd : asmP a with
  | ok s => rw [hd] at h; obtain ⟨T, e⟩ := h; exact ⟨T, result_ok e⟩
  | error o => rw [hd] at h; obtain ⟨T, d, e, h2⟩ := h; exact ⟨T, result_ex ds e h2⟩
/-- what is no text -/
theorem result_no (ds : Dis K) {d : D} (h : cIsi [d, .ty "str"] S = some (.bl false, S)) : m_law_result K [d] S = .ok (.int 0) (S ++ [.xd [("line", .int 0)]]) := by
  refine result_ex (k := 0) ds ?_ rfl
  unfold m_assemble mkFn b_assemble startE
  simp_arith [h]
/-! ### what the assembler gives are numbers -/
theorem lb_put {lb : List (DK × D)} {k : DK} {v : Int} (h : ∀ p ∈ lb, ∃ i : Int, p.2 = .int i) : ∀ p ∈ putKD lb k (.int v), ∃ i : Int, p.2 = .int i := by
  intro p hp
  unfold putKD at hp
  split at hp
  · obtain ⟨q, hq, rfl⟩ := List.mem_map.mp hp
    split
    · exact ⟨v, rfl⟩
    · exact h q hq
  · rcases List.mem_append.mp hp with hp | hp
    · exact h p hp
    · simp at hp; subst hp; exact ⟨v, rfl⟩
theorem lb_val {lb : List (DK × D)} {k : DK} {d : D} (h : ∀ p ∈ lb, ∃ i : Int, p.2 = .int i) (e : valD lb k = some d) : ∃ i : Int, d = .int i := by
  unfold valD at e
  obtain ⟨p, hp, rfl⟩ := Option.map_eq_some_iff.mp e
  exact h p (List.mem_of_find?_eq_some hp)
theorem step_lb {n : Nat} {pl : PL} {s s' : AS} (h : stepA n pl s = .ok s') (hl : ∀ p ∈ s.lb, ∃ i : Int, p.2 = .int i) : ∀ p ∈ s'.lb, ∃ i : Int, p.2 = .int i := by
  unfold stepA at h
  split at h
  · cases h
  · split at h
    · cases h
    · cases h; exact lb_put hl
  · split at h
    · cases h
    · cases h; exact hl
theorem loop_ok : ∀ {ls : List (List Nat)} {n m : Nat} {s s' : AS}, loopA ls n s = .ok s' → AOk s m → (∀ p ∈ s.lb, ∃ i : Int, p.2 = .int i) → AOk s' (m + ls.length) ∧ ∀ p ∈ s'.lb, ∃ i : Int, p.2 = .int i
  | [], n, m, s, s', h, ho, hl => by simp only [loopA] at h; cases h; exact ⟨ho, hl⟩
  | l :: ls, n, m, s, s', h, ho, hl => by
    simp only [loopA] at h
    split at h
    · cases h
    · rename_i s1 h1
      have := loop_ok h (stepA_ok h1 ho) (step_lb h1 hl)
      rw [List.length_cons, show m + (ls.length + 1) = m + 1 + ls.length by omega]
      exact this
theorem asm_ints {a : List Nat} {ds : List D} (h : asmP a = .ok ds) : ∃ ns : List Int, ds = ns.map .int ∧ ns.length ≤ 4000 := by
  unfold asmP at h
  split at h
  · cases h
  · rename_i s hs
    obtain ⟨ho, hl⟩ := loop_ok hs (m := 0) ⟨by simp, rfl, by simp, by simp⟩ (by simp)
    unfold finA at h
    split at h
    · cases h
    · split at h
      · cases h
      · rename_i hu
        cases h
        have hn := undef_none ho.os hu
        have hc : ∀ c ∈ s.cs.map (resA s.lb), ∃ i : Int, c = .int i := fun c hc => by
          obtain ⟨d, hd, rfl⟩ := List.mem_map.mp hc
          have h1 := ho.cell d hd
          have h2 := hn d hd
          cases d with
          | int i => exact ⟨i, rfl⟩
          | str z =>
            have : (valD s.lb (.inr z)).isSome = true := by simpa [undefB] using h2
            obtain ⟨v, hv⟩ := Option.isSome_iff_exists.mp this
            obtain ⟨i, rfl⟩ := lb_val hl hv
            exact ⟨i, by simp [resA, hv]⟩
          | _ => exact h1.elim
        have key : ∀ xs : List D, (∀ c ∈ xs, ∃ i : Int, c = .int i) → ∃ ns : List Int, xs = ns.map .int ∧ ns.length = xs.length := fun xs => by
          induction xs with
          | nil => intro _; exact ⟨[], rfl, rfl⟩
          | cons x xs ih =>
            intro hx
            obtain ⟨i, rfl⟩ := hx x (by simp)
            obtain ⟨ns, e, l⟩ := ih fun c hc => hx c (List.mem_cons_of_mem _ hc)
            exact ⟨i :: ns, by rw [e]; rfl, by simp [l]⟩
        obtain ⟨ns, e, l⟩ := key _ hc
        exact ⟨ns, e, by rw [l, List.length_map]; exact ho.cs⟩
theorem ne_ints (ns : List Int) (S : Store) : opNe (.tup (ns.map .int)) (.tup (ns.map .int)) S = some (.bl false, S) :=
  opNe_self (by simp only [gD]; exact gDs_ints ns) (by simp only [dpD, dpDs_ints]; omega)
theorem ne_asm (a : List Nat) (S : Store) : opNe (asmD (asmP a)) (asmD (asmP a)) S = some (.bl false, S) := by
  cases h : asmP a with
  | ok ds =>
    obtain ⟨ns, rfl, _⟩ := asm_ints h
    exact ne_ints ns S
  | error e => simp [asmD]
end
end K03

end

section
set_option maxRecDepth 100000
set_option maxHeartbeats 400000
namespace K03
open PySem L2 M1
/-! ### many lines that are alike -/
def linesT (ls : List (List Nat)) : List Nat := ls.flatMap fun l => l ++ [10]
theorem asm_lines {ls : List (List Nat)} (h : ∀ l ∈ ls, 10 ∉ l) : asmP (linesT ls) = match loopA ls 0 ⟨[], [], []⟩ with
    | .error e => .error e
    | .ok s => finA s ls.length [] := by
  obtain ⟨e1, e2⟩ := lns_of (spl_lines h)
  have e1' : lnsA (linesT ls) = ls := e1
  have e2' : rstA (linesT ls) = [] := e2
  unfold asmP
  rw [e1', e2']
  all_goals (cases loopA ls 0 ⟨[], [], []⟩ <;> rfl)
theorem loop_app : ∀ (xs ys : List (List Nat)) (n : Nat) (s : AS), loopA (xs ++ ys) n s = match loopA xs n s with
    | .error e => .error e
    | .ok s' => loopA ys (n + xs.length) s'
  | [], ys, n, s => by simp [loopA]
  | x :: xs, ys, n, s => by
    simp only [List.cons_append, loopA]
    cases stepA n (lineP x) s with
    | error e => rfl
    | ok s' =>
      simp only
      rw [loop_app xs ys (n + 1) s', List.length_cons, show n + 1 + xs.length = n + (xs.length + 1) by omega]
theorem loop_rep {L : List Nat} {v : Int} (hL : lineP L = .cells [.int v]) : ∀ (k n : Nat) (s : AS), s.cs.length + k ≤ 4000 → ∃ os, loopA (List.replicate k L) n s = .ok ⟨s.cs ++ List.replicate k (.int v), s.lb, s.os ++ os⟩
  | 0, n, s, h => ⟨[], by cases s; simp [loopA]⟩
  | k + 1, n, s, h => by
    have e : stepA n (lineP L) s = .ok ⟨s.cs ++ [.int v], s.lb, s.os ++ [(n : Int)]⟩ := by
      rw [hL]
      simp only [stepA, List.length_cons, List.length_nil]
      rw [if_neg (by omega)]
      rfl
    obtain ⟨os, ih⟩ := loop_rep hL k (n + 1) ⟨s.cs ++ [.int v], s.lb, s.os ++ [(n : Int)]⟩ (by simp; omega)
    refine ⟨(n : Int) :: os, ?_⟩
    rw [List.replicate_succ]
    simp only [loopA, e]
    rw [ih]
    simp [List.replicate_succ]
theorem undef_intsL {lb : List (DK × D)} : ∀ (os : List Int) (mem : List Int), undefA lb os (mem.map .int) = none
  | [], [] => rfl
  | n :: os, m :: mem => by simp only [List.map_cons, undefA, undefB]; exact undef_intsL os mem
  | [], _ :: _ => rfl
  | _ :: _, [] => rfl
theorem res_intsL {lb : List (DK × D)} (mem : List Int) : (mem.map D.int).map (resA lb) = mem.map .int := by rw [List.map_map]; rfl
theorem fin_ints {lb : List (DK × D)} (os mem : List Int) (n : Nat) : finA ⟨mem.map .int, lb, os⟩ n [] = .ok (mem.map .int) := by
  unfold finA
  rw [if_neg (by simp)]
  simp only
  rw [undef_intsL]
  simp only
  rw [res_intsL]
abbrev lW : List Nat := [119, 111, 114, 100, 32, 57, 57, 57, 57]
abbrev lE : List Nat := [101, 110, 100, 58]
abbrev l1 : List Nat := [119, 111, 114, 100, 32, 49]
abbrev lS : List Nat := [115, 101, 116, 32, 49]
theorem p_W : lineP lW = .cells [.int 9999] := by
  have e : wrdL 9999 = lW := by decide +kernel
  rw [← e]; exact lineP_wrd ⟨by decide, by decide⟩
theorem p_1 : lineP l1 = .cells [.int 1] := by
  have e : wrdL 1 = l1 := by decide +kernel
  rw [← e]; exact lineP_wrd ⟨by decide, by decide⟩
theorem p_S : lineP lS = .cells [.int 1, .int 1] := by
  have e : insL 1 1 = lS := by decide +kernel
  rw [← e]; exact lineP_ins (by decide) (by decide) ⟨by decide, by decide⟩
theorem p_E : lineP lE = .lab [101, 110, 100] := by
  unfold lineP
  rw [if_pos (by decide +kernel)]
  rfl
theorem no10 {xs ys : List (List Nat)} (hx : ∀ l ∈ xs, 10 ∉ l) (hy : ∀ l ∈ ys, 10 ∉ l) : ∀ l ∈ xs ++ ys, 10 ∉ l := fun l hl => by
  rcases List.mem_append.mp hl with h | h
  · exact hx l h
  · exact hy l h
theorem no10r {L : List Nat} (h : 10 ∉ L) (n : Nat) : ∀ l ∈ List.replicate n L, 10 ∉ l := fun l hl => by
  rw [List.eq_of_mem_replicate hl]; exact h
theorem asm_full {n : Nat} (h : n ≤ 4000) : asmP (linesT (List.replicate n lW)) = .ok ((List.replicate n (9999 : Int)).map .int) := by
  rw [asm_lines (no10r (by decide) n)]
  obtain ⟨os, e⟩ := loop_rep p_W n 0 ⟨[], [], []⟩ (by simpa using h)
  rw [e]
  simp only [List.nil_append]
  rw [← List.map_replicate, fin_ints]
theorem asm_end {n : Nat} (h : n ≤ 4000) : asmP (linesT (List.replicate n lW ++ [lE])) = .ok ((List.replicate n (9999 : Int)).map .int) := by
  rw [asm_lines (no10 (no10r (by decide) n) (by decide))]
  obtain ⟨os, e⟩ := loop_rep p_W n 0 ⟨[], [], []⟩ (by simpa using h)
  rw [loop_app, e]
  simp only [loopA, p_E, stepA, List.nil_append]
  rw [if_neg (by simp [valD])]
  simp only
  rw [← List.map_replicate, fin_ints]
theorem asm_more {n : Nat} (h : n = 4000) : asmP (linesT (List.replicate n lW ++ [l1])) = .error 4000 := by
  rw [asm_lines (no10 (no10r (by decide) n) (by decide))]
  obtain ⟨os, e⟩ := loop_rep p_W n 0 ⟨[], [], []⟩ (by simp; omega)
  rw [loop_app, e]
  simp only [loopA, p_1, stepA, List.nil_append, List.length_replicate, List.length_cons, List.length_nil]
  rw [if_pos (by omega), h]
  rfl
theorem asm_set {n : Nat} (h : n = 3999) : asmP (linesT (List.replicate n l1 ++ [lS])) = .error 3999 := by
  rw [asm_lines (no10 (no10r (by decide) n) (by decide))]
  obtain ⟨os, e⟩ := loop_rep p_1 n 0 ⟨[], [], []⟩ (by simp; omega)
  rw [loop_app, e]
  simp only [loopA, p_S, stepA, List.nil_append, List.length_replicate, List.length_cons, List.length_nil]
  rw [if_pos (by omega), h]
  rfl
/-! ### a text so many times -/
theorem foldl_reps (x : Array Nat) : ∀ (n : Nat) (A : Array Nat), (List.foldl (· ++ ·) A (List.replicate n x)).toList = A.toList ++ (List.replicate n x.toList).flatten
  | 0, A => by simp
  | n + 1, A => by rw [List.replicate_succ, List.foldl_cons, foldl_reps x n, List.replicate_succ]; simp
theorem mul_S {l : List Nat} {n : Nat} (h : 2 ≤ n) : Txt.mul (SX.S (l ++ [10])) (n : Int) = SX.S (linesT (List.replicate n l)) := by
  unfold Txt.mul
  rw [if_neg (by omega), if_neg (by
    simp only [Bool.or_eq_true, beq_iff_eq, not_or]
    exact ⟨by omega, by rw [S_len]; simp⟩)]
  rw [Int.toNat_natCast]
  have e := foldl_reps (SX.S (l ++ [10])).cps n #[]
  have e2 : (SX.S (l ++ [10])).cps.toList = l ++ [10] := by simp [SX.S]
  rw [e2] at e
  have e3 : (List.replicate n (l ++ [10])).flatten = linesT (List.replicate n l) := by
    unfold linesT
    rw [List.flatMap_def, List.map_replicate]
  rw [e3] at e
  show (⟨_⟩ : Str) = SX.S _
  unfold SX.S
  congr 1
  apply Array.toList_inj.mp
  rw [e]
  simp
theorem linesT_app (xs ys : List (List Nat)) : linesT (xs ++ ys) = linesT xs ++ linesT ys := by simp [linesT]
theorem linesT_ok {ls : List (List Nat)} (h : ∀ l ∈ ls, okL l) : okL (linesT ls) := fun c hc => by
  obtain ⟨l, hl, h'⟩ := List.mem_flatMap.mp hc
  rcases List.mem_append.mp h' with h' | h'
  · exact h l hl c h'
  · simp at h'; omega
theorem linesT_len {l : List Nat} : ∀ n : Nat, (linesT (List.replicate n l)).length = n * (l.length + 1)
  | 0 => by simp [linesT]
  | n + 1 => by
    have := linesT_len (l := l) n
    unfold linesT at this ⊢
    rw [List.replicate_succ, List.flatMap_cons, List.length_append, this]
    simp only [List.length_append, List.length_cons, List.length_nil]
    rw [Nat.add_mul]; omega
end K03

end

section
set_option maxRecDepth 100000
set_option maxHeartbeats 400000
namespace K03
open PySem L2 M1
section
variable {K : PySem.W.Frag} {S : Store}
abbrev IM (K : PySem.W.Frag) : Value := .ref (He.ga K "InvalidMemory")
theorem cIsi_of {d : D} {T t : String} (h : tyD S d = some t) (hT : T ∈ isTys) : cIsi [d, .ty T] S = some (.bl (isaB t T), S) := by
  show (if T ∈ isTys then (tyD S d).map fun t => (D.bl (isaB t T), S) else none) = _
  rw [if_pos hT, h]
  rfl
/-! ### what is no memory -/
theorem words_no {d : D} (h : cIsi [d, .ty "tuple"] S = some (.bl false, S)) : m_is_words K [d] S = .ok (.bl false) S := by
  unfold m_is_words mkFn b_is_words startE
  simp_arith [h]
theorem word_str (z : Str) (S : Store) : m_is_word K [.str z] S = .ok (.bl false) S := by
  have h : cIsi [.str z, .ty "int"] S = some (.bl false, S) := rfl
  unfold m_is_word mkFn b_is_word startE m_is_integer mkFn b_is_integer startE
  simp_arith [h]
theorem words_str (z : Str) (S : Store) : ∃ T, m_is_words K [.tup [.str z]] S = .ok (.bl false) (S ++ T) := by
  have h : cIsi [.tup [.str z], .ty "tuple"] S = some (.bl true, S) := rfl
  obtain ⟨T, e⟩ := eLc_ext (n := 2) (vs := [1]) (fi := iAny (eVar 0)) (g := gN 1) (e := eF (m_is_word K) [] (aCons (eVar 1) aNil)) (ρ := [some (.tup [.str z]), none]) (S0 := S) (S := S) (src := seqSrc [.str z]) (ds := [.str z]) (f := fun _ => .bl false)
    (by simp) (by simp) (by simp) (by rw [sizeLine_eq]; simp) (by simp) (fun d hd X => ⟨[some (.tup [.str z]), some d], [], by simp, by simp at hd; subst hd; simp [word_str]⟩)
  refine ⟨.lst [.bl false] :: T, ?_⟩
  have hc : cAll [.loc S.length] (S ++ .lst [.bl false] :: T) = some (.bl false, S ++ .lst [.bl false] :: T) := by
    simp only [cAll, lstOf_new]
    rfl
  simp only [List.map_cons, List.map_nil] at e
  unfold m_is_words mkFn b_is_words startE
  simp_arith [h, e, hc]
theorem dis_no {d : D} {T : Store} (h : m_is_words K [d] S = .ok (.bl false) (S ++ T)) : m_disassemble K [d] S = .ex (IM K) none (S ++ T) := by
  unfold m_disassemble mkFn b_disassemble startE m_check_memory mkFn b_check_memory startE
  simp_arith [h]
abbrev limB (K : PySem.W.Frag) : Sm := (sTry (sSeq (sExpr (eF (m_disassemble K) [] (aCons (eVar 1) aNil)))
    (sRet (eC (.bl false)))) (ans_InvalidMemory K) (sAsg (eC (.str "")) (gN 0)))
theorem lim_loop (ds : Dis K) {vs : List D} (hb : ∀ d ∈ vs, ∀ X, ∃ T, m_is_words K [d] (S ++ X) = .ok (.bl false) (S ++ X ++ T)) (a0 a1 : Option D) :
    ∃ ρ' S', forN (seqSrc vs) (gN 1) (limB K) (vs.length + 1) 0 [a0, a1] S = .nx ρ' S' := by
  have loop := forN_inv (src := seqSrc vs) (g := gN 1) (b := limB K) (fun _ ρ S' => ∃ x0 x1 T, ρ = [x0, x1] ∧ S' = S ++ T) vs.length
    (by
      rintro j ρ S' hj ⟨x0, x1, T, rfl, rfl⟩
      obtain ⟨T1, e1⟩ := hb vs[j] (List.getElem_mem hj) T
      have e2 := dis_no e1
      refine ⟨vs[j], _, _, _, by simp [hj], rfl, ?_, some (.str ("" : String)), some vs[j], T ++ T1, rfl, rfl⟩
      rw [List.append_assoc] at e2
      simp_arith [e2, ds.im])
    (by rintro ρ S' ⟨x0, x1, T, rfl, rfl⟩; simp)
    (vs.length + 1) 0 [a0, a1] S (by omega) (by omega) ⟨a0, a1, [], rfl, by simp⟩
  obtain ⟨ρ', S', e, _⟩ := loop
  exact ⟨ρ', S', e⟩
theorem lim_bad {p : Nat} {xs : List D} (h : lstW S p = some xs) : ∀ d ∈ [.non, .loc p, .tup [.int 10000], .tup [.bl true], .tup [.int (-1)], .tup [.str ("1" : String)], .int 5], ∀ X, ∃ T, m_is_words K [d] (S ++ X) = .ok (.bl false) (S ++ X ++ T) := by
  have no : ∀ {d : D} {X : Store}, cIsi [d, .ty "tuple"] (S ++ X) = some (.bl false, S ++ X) → ∃ T, m_is_words K [d] (S ++ X) = .ok (.bl false) (S ++ X ++ T) := fun h => ⟨[], by rw [words_no h, List.append_nil]⟩
  have wi : ∀ {d : D} {X : Store}, ib d = true → wordD d = false → ∃ T, m_is_words K [.tup [d]] (S ++ X) = .ok (.bl false) (S ++ X ++ T) := fun {d X} h1 h2 => by
    obtain ⟨T, e⟩ := is_words_ev (K := K) (ds := [d]) (by simpa using h1) (by simp) (S ++ X)
    simp only [List.all_cons, h2, Bool.false_and] at e
    exact ⟨T, e⟩
  intro d hd X
  simp only [List.mem_cons, List.not_mem_nil, or_false] at hd
  rcases hd with h | h | h | h | h | h | h <;> subst h
  · exact no rfl
  · refine no ?_
    have := lstW_app (T := X) h
    have ht : tyD (S ++ X) (.loc p) = some "list" := by
      unfold lstW at this
      unfold tyD
      cases e : (S ++ X)[p]? with
      | none => rw [e] at this; simp at this
      | some o =>
        rw [e] at this
        cases o with
        | lst ys => simp only [e]
        | _ => simp at this
    exact cIsi_of ht (by decide)
  · exact wi rfl (by decide)
  · exact wi rfl (by decide)
  · exact wi rfl (by decide)
  · exact words_str _ _
  · exact no rfl
theorem asm_to {a : List Nat} {ds : List D} (hok : okL a) (hl : a.length ≤ 900000) (h : asmP a = .ok ds) (S : Store) : ∃ S', m_assemble K [.str (SX.S a)] S = .ok (.tup ds) S' := by
  have e := assemble_ev (K := K) hok hl S
  rw [h] at e
  obtain ⟨T, e⟩ := e
  exact ⟨_, e⟩
theorem res_to (ds : Dis K) {a : List Nat} (hok : okL a) (hl : a.length ≤ 900000) (S : Store) : ∃ S', m_law_result K [.str (SX.S a)] S = .ok (asmD (asmP a)) S' := by
  obtain ⟨T, e⟩ := result_ev ds hok hl S
  exact ⟨_, e⟩
theorem t_W : (("word 9999\n" : String) : Str) = SX.S (lW ++ [10]) := by decide +kernel
theorem t_1 : (("word 1\n" : String) : Str) = SX.S (l1 ++ [10]) := by decide +kernel
theorem t_S : (("set 1\n" : String) : Str) = SX.S (linesT [lS]) := by decide +kernel
theorem t_1' : (("word 1\n" : String) : Str) = SX.S (linesT [l1]) := by decide +kernel
theorem t_E : (("end:\n" : String) : Str) = SX.S (linesT [lE]) := by decide +kernel
theorem mulW {n : Nat} (h : n = 4000) (S : Store) : opMulE (.str ("word 9999\n" : String)) (.int 4000) S = some (.str (SX.S (linesT (List.replicate n lW))), S) := by
  have e : opMulE (.str ("word 9999\n" : String)) (.int 4000) S = if mulOkB ("word 9999\n" : String) 4000 = true then some (.str (Txt.mul ("word 9999\n" : String) 4000), S) else none := rfl
  have c : ((n : Nat) : Int) = 4000 := by omega
  rw [e, if_pos (by decide +kernel), t_W, ← c, mul_S (by omega)]
theorem mul1 {n : Nat} (h : n = 3999) (S : Store) : opMulE (.str ("word 1\n" : String)) (.int 3999) S = some (.str (SX.S (linesT (List.replicate n l1))), S) := by
  have e : opMulE (.str ("word 1\n" : String)) (.int 3999) S = if mulOkB ("word 1\n" : String) 3999 = true then some (.str (Txt.mul ("word 1\n" : String) 3999), S) else none := rfl
  have c : ((n : Nat) : Int) = 3999 := by omega
  rw [e, if_pos (by decide +kernel), t_1, ← c, mul_S (by omega)]
theorem ok_rep {L : List Nat} (h : okL L) (n : Nat) : ∀ l ∈ List.replicate n L, okL l := fun l hl => by rw [List.eq_of_mem_replicate hl]; exact h
theorem ok_two {xs ys : List (List Nat)} (hx : ∀ l ∈ xs, okL l) (hy : ∀ l ∈ ys, okL l) : ∀ l ∈ xs ++ ys, okL l := fun l hl => by
  rcases List.mem_append.mp hl with h | h
  · exact hx l h
  · exact hy l h
theorem okW : okL lW := okB (by decide)
theorem ok1 : okL l1 := okB (by decide)
theorem okS : okL lS := okB (by decide)
theorem okE : okL lE := okB (by decide)
theorem ok_one {L : List Nat} (h : okL L) : ∀ l ∈ [L], okL l := fun l hl => by simp at hl; subst hl; exact h
abbrev anyX (K : PySem.W.Frag) : Ex := (eLc 2 [1] (iAny (eTup (aCons (eC .non) (aCons (eC (.int 5)) (aCons (eLst (aCons (eC (.str "set 1")) aNil)) (aCons eDic0 aNil)))))) (gN 1) tYesM (eOp opNe (eF (m_law_result K) [] (aCons (eVar 1) aNil)) (eC (.int 0))))
theorem any_ev (ds : Dis K) (a0 : Option D) (S : Store) : ∃ n S', anyX K [a0, none] S = .ok (.loc n) S' ∧ cAny [.loc n] S' = some (.bl false, S') := by
  obtain ⟨T, e⟩ := eLc_ext (n := 2) (vs := [1]) (fi := iAny (eTup (aCons (eC .non) (aCons (eC (.int 5)) (aCons (eLst (aCons (eC (.str "set 1")) aNil)) (aCons eDic0 aNil)))))) (g := gN 1) (e := eOp opNe (eF (m_law_result K) [] (aCons (eVar 1) aNil)) (eC (.int 0))) (ρ := [a0, none]) (S0 := S) (S := S ++ [.lst [.str ("set 1" : String)], .dic []]) (src := seqSrc [.non, .int 5, .loc S.length, .loc (S.length + 1)]) (ds := [.non, .int 5, .loc S.length, .loc (S.length + 1)]) (f := fun _ => .bl false)
    (by simp) (by simp_arith []) (by simp) (by rw [sizeLine_eq]; simp) (by simp) (fun d hd X => by
      have h : cIsi [d, .ty "str"] (S ++ [.lst [.str ("set 1" : String)], .dic []] ++ X) = some (.bl false, S ++ [.lst [.str ("set 1" : String)], .dic []] ++ X) := by
        simp only [List.mem_cons, List.not_mem_nil, or_false] at hd
        rcases hd with h | h | h | h <;> subst h
        · rfl
        · rfl
        · exact cIsi_of (t := "list") (by unfold tyD; simp only []; rw [List.append_assoc, List.getElem?_append_right (by omega)]; simp) (by decide)
        · exact cIsi_of (t := "dict") (by unfold tyD; simp only []; rw [List.append_assoc, List.getElem?_append_right (by omega)]; simp) (by decide)
      have r := result_no ds h
      refine ⟨[a0, some d], [.xd [("line", .int 0)]], by simp, ?_⟩
      simp only [List.append_assoc, List.cons_append, List.nil_append] at r ⊢
      simp_arith [r])
  simp only [List.map_cons, List.map_nil] at e
  refine ⟨_, _, e, ?_⟩
  simp only [cAny, lstOf_new]
  rfl
end
end K03

end

section
set_option maxRecDepth 100000
set_option maxHeartbeats 400000
namespace K03
open PySem L2 M1
section
variable {K : PySem.W.Frag} {S : Store}
theorem opEq_tup0 (S : Store) : opEq (.tup []) (.tup []) S = some (.bl true, S) := opEq_self rfl (by simp [dpD, dpDs])
theorem opEq_str0 (S : Store) : opEq (.str (SX.S [])) (.str (SX.S [])) S = some (.bl true, S) := opEq_self (by decide +kernel) (by simp [dpD])
theorem asm_nil : asmP [] = .ok [] := asm_lines (ls := []) (by simp)
theorem fn_rt0 {b : Sm} {S S' : Store} {d : D} (h : b [none, none] S = .rt d S') : mkFn 0 2 b [] S = .ok d S' := by
  unfold mkFn
  rw [if_pos (by simp)]
  show (match b [none, none] S with | .nx ρ S1 => R.ok D.non S1 | .rt d S1 => R.ok d S1 | .ex C d ρ S1 => R.ex C d S1 | _ => R.er) = _
  rw [h]
theorem limits_right_ev (ds : Dis K) (S : Store) : ∃ S', m_law_limits_right K [] S = .ok (.bl true) S' := by
  obtain ⟨N, hN⟩ : ∃ N : Nat, N = 4000 := ⟨_, rfl⟩
  obtain ⟨M, hM⟩ : ∃ M : Nat, M = 3999 := ⟨_, rfl⟩
  have mW := mulW hN
  have m1 := mul1 hM
  have lf : (linesT (List.replicate N lW)).length = 40000 := by rw [linesT_len, hN]; rfl
  have lg : (linesT (List.replicate M l1)).length = 27993 := by rw [linesT_len, hM]; rfl
  have okF := linesT_ok (ok_rep okW N)
  have okG := linesT_ok (ok_two (ok_rep ok1 M) (ok_one okS))
  have okFE := linesT_ok (ok_two (ok_rep okW N) (ok_one okE))
  have okF1 := linesT_ok (ok_two (ok_rep okW N) (ok_one ok1))
  have pF := asm_full (n := N) (by omega)
  have pE := asm_end (n := N) (by omega)
  have p1 := asm_more hN
  have pS := asm_set hM
  have aE := add_S (a := linesT (List.replicate N lW)) (b := linesT [lE]) (by rw [lf]; decide)
  have a1 := add_S (a := linesT (List.replicate N lW)) (b := linesT [l1]) (by rw [lf]; decide)
  have aS := add_S (a := linesT (List.replicate M l1)) (b := linesT [lS]) (by rw [lg]; decide)
  have lE' : (linesT (List.replicate N lW ++ [lE])).length ≤ 900000 := by rw [linesT_app, List.length_append, lf]; decide
  have l1' : (linesT (List.replicate N lW ++ [l1])).length ≤ 900000 := by rw [linesT_app, List.length_append, lf]; decide
  have lS' : (linesT (List.replicate M l1 ++ [lS])).length ≤ 900000 := by rw [linesT_app, List.length_append, lg]; decide
  rw [← t_E, ← linesT_app] at aE
  rw [← t_1', ← linesT_app] at a1
  rw [← t_S, ← linesT_app] at aS
  have lR : ((List.replicate N (9999 : Int)).map D.int).length = 4000 := by rw [List.length_map, List.length_replicate, hN]
  have nR := ne_ints (List.replicate N (9999 : Int))
  generalize linesT (List.replicate N lW ++ [lE]) = FE at *
  generalize linesT (List.replicate N lW ++ [l1]) = F1 at *
  generalize linesT (List.replicate M l1 ++ [lS]) = GS at *
  generalize linesT (List.replicate N lW) = F at *
  generalize linesT (List.replicate M l1) = G at *
  generalize (List.replicate N (9999 : Int)).map D.int = R at *
  have ln : ∀ S', cLen [.tup R] S' = some (.int 4000, S') := fun S' => by rw [cLen_tup, lR]; rfl
  obtain ⟨S1, e1⟩ := asm_to (K := K) okF (by omega) pF S
  obtain ⟨S2, e2⟩ := res_to ds okFE lE' S1
  obtain ⟨S3, e3⟩ := asm_to (K := K) okF (by omega) pF S2
  obtain ⟨S4, e4⟩ := res_to ds okF1 l1' S3
  obtain ⟨S5, e5⟩ := res_to ds okG lS' S4
  rw [pE] at e2
  rw [p1] at e4
  rw [pS] at e5
  simp only [asmD] at e2 e4 e5
  obtain ⟨n, S6, e6, c6⟩ := any_ev ds (some (.str (SX.S F))) S5
  have hw : lstW (S6 ++ [.lst [.int 1]]) S6.length = some [.int 1] := by simp [lstW]
  obtain ⟨ρ7, S7, e7⟩ := lim_loop ds (lim_bad (K := K) hw) (some (.str (SX.S F))) none
  obtain ⟨S8, e8⟩ := asm_to (K := K) (a := []) (by intro c h; simp at h) (by simp) asm_nil S7
  obtain ⟨T9, e9⟩ := disassemble_ev (K := K) (mem := []) (by simp) (by simp) S8
  have e9' : txtP [] = [] := rfl
  rw [e9'] at e9
  simp only [List.map_nil, ← emptyS] at e8 e9
  have q8 := opEq_tup0
  have q9 := opEq_str0
  simp only [← emptyS] at q9
  simp only [List.length_cons, List.length_nil, Nat.reduceAdd] at e7
  have hb : b_law_limits_right K [none, none] S = .rt (.bl true) (S8 ++ T9) := by
    delta b_law_limits_right
    simp_arith [mW, e1, ln, aE, e2, e3, nR, a1, e4, m1, aS, e5, e6, c6, e7, e8, q8, e9, q9]
  exact ⟨_, fn_rt0 hb⟩
end
end K03

end

section
set_option maxRecDepth 100000
set_option maxHeartbeats 1000000
namespace K03
open PySem L2 M1
section
variable {K : PySem.W.Frag} {S : Store} {n : Nat} {ns : List Int}
abbrev innB (K : PySem.W.Frag) : Sm := (sSeq (sAsg (eF (m_law_changed K) [] (aCons (eVar 5) (aCons (eF (m_law_value K) [] (aCons (eVar 0) (aCons (eOp opAdd (eOp opAdd (eC (.int 600)) (eOp opMulE (eC (.int 8)) (eVar 1))) (eVar 6)) aNil))) aNil))) (gN 7))
    (sSeq (sIf (tBl (eOp opNe (eF (m_law_result K) [] (aCons (eVar 7) aNil)) (eF (m_law_assemble K) [] (aCons (eVar 7) aNil)))) (sRet (eC (.bl false))) sNil)
    (sSeq (sAsg (eF (m_law_changed K) [] (aCons (eVar 7) (aCons (eF (m_law_value K) [] (aCons (eVar 0) (aCons (eOp opAdd (eOp opAdd (eC (.int 700)) (eOp opMulE (eC (.int 8)) (eVar 1))) (eVar 6)) aNil))) aNil))) (gN 8))
    (sIf (tBl (eOp opNe (eF (m_law_result K) [] (aCons (eVar 8) aNil)) (eF (m_law_assemble K) [] (aCons (eVar 8) aNil)))) (sRet (eC (.bl false))) sNil))))
theorem inn_ev (ds : Dis K) (h : Scr S n ns) {a : List Nat} (hok : okL a) (hl : a.length ≤ 600) {i : Int} (hi : 0 ≤ i) (hi2 : i < 6) (a2 a3 a4 a6 a7 a8 a9 a10 : Option D) :
    ∃ x6 x7 x8 T, forN (rngD 0 6) (gN 6) (innB K) 7 0 [some (.loc n), some (.int i), a2, a3, a4, some (.str (SX.S a)), a6, a7, a8, a9, a10] S = .nx [some (.loc n), some (.int i), a2, a3, a4, some (.str (SX.S a)), x6, x7, x8, a9, a10] (S ++ T) := by
  have loop := forN_inv (src := rngD 0 6) (g := gN 6) (b := innB K) (fun _ ρ S' => ∃ x6 x7 x8 T, ρ = [some (.loc n), some (.int i), a2, a3, a4, some (.str (SX.S a)), x6, x7, x8, a9, a10] ∧ S' = S ++ T) 6
    (by
      rintro j ρ S' hj ⟨x6, x7, x8, T, rfl, rfl⟩
      have mu : ∀ (a : Int) S', opMulE (.int 8) (.int a) S' = some (.int (8 * a), S') := fun a S' => orO_l (opMulA_l (by decide) (by decide))
      obtain ⟨T1, e1⟩ := val (K := K) (S := S ++ T) (k := 600 + 8 * i + (0 + j)) h.app (by omega) (by omega)
      have v1 := valP_nn ns (600 + 8 * i + (0 + j)) (by omega)
      obtain ⟨b, T2, e2, kb⟩ := changed_ev (K := K) hok (by omega) v1 (S ++ T ++ T1)
      have lb := kb.len
      obtain ⟨T3, e3⟩ := result_ev (K := K) ds kb.ok (by omega) (S ++ T ++ T1 ++ T2)
      obtain ⟨T4, e4⟩ := law_assemble_ev (K := K) kb.ok (by omega) (S ++ T ++ T1 ++ T2 ++ T3)
      have n1 := ne_asm b
      obtain ⟨S4, hS4⟩ : ∃ S4 : Store, S4 = S ++ T ++ T1 ++ T2 ++ T3 ++ T4 := ⟨_, rfl⟩
      have h4 : Scr S4 n ns := by rw [hS4]; exact h.app.app.app.app.app
      rw [← hS4] at e4
      obtain ⟨T5, e5⟩ := val (K := K) (S := S4) (k := 700 + 8 * i + (0 + j)) h4 (by omega) (by omega)
      have v2 := valP_nn ns (700 + 8 * i + (0 + j)) (by omega)
      obtain ⟨c, T6, e6, kc⟩ := changed_ev (K := K) kb.ok (by omega) v2 (S4 ++ T5)
      have lc := kc.len
      obtain ⟨T7, e7⟩ := result_ev (K := K) ds kc.ok (by omega) (S4 ++ T5 ++ T6)
      obtain ⟨T8, e8⟩ := law_assemble_ev (K := K) kc.ok (by omega) (S4 ++ T5 ++ T6 ++ T7)
      have n2 := ne_asm c
      generalize asmD (asmP b) = rb at *
      generalize asmD (asmP c) = rc at *
      simp only [List.append_assoc] at e1 e2 e3 e4 e5 e6 e7 e8
      refine ⟨.int (0 + j), _, _, _, by simp [hj], rfl, ?_, some (.int (0 + j)), some (.str (SX.S b)), some (.str (SX.S c)), T ++ T1 ++ T2 ++ T3 ++ T4 ++ T5 ++ T6 ++ T7 ++ T8, rfl, rfl⟩
      have hfin : S ++ (T ++ T1 ++ T2 ++ T3 ++ T4 ++ T5 ++ T6 ++ T7 ++ T8) = S4 ++ (T5 ++ (T6 ++ (T7 ++ T8))) := by rw [hS4]; simp only [List.append_assoc]
      rw [hfin]
      simp_arith [mu, e1, e2, e3, e4, n1, e5, e6, e7, e8, n2])
    (by rintro ρ S' ⟨x6, x7, x8, T, rfl, rfl⟩; simp)
    7 0 [some (.loc n), some (.int i), a2, a3, a4, some (.str (SX.S a)), a6, a7, a8, a9, a10] S (by omega) (by omega) ⟨a6, a7, a8, [], rfl, by simp⟩
  obtain ⟨ρ', S', e, x6, x7, x8, T, rfl, rfl⟩ := loop
  exact ⟨x6, x7, x8, T, e⟩
/-! ### the memory -/
def memP (ns : List Int) (i : Int) (vs : List Int) : List Int := vs.mapIdx fun j w => w % ([26, 10000, 18].getD ((i + j) % 3).toNat 1)
def prE (vs : List Int) : List D := vs.mapIdx fun j w => .tup [.int j, .int w]
def fE (i : Int) : D → D
  | .tup [.int j, .int w] => .int (w % ([26, 10000, 18].getD ((i + j) % 3).toNat 1))
  | d => d
theorem prE_f (ns : List Int) (i : Int) (vs : List Int) : (prE vs).map (fE i) = (memP ns i vs).map .int := by
  unfold prE memP
  apply List.ext_getElem?
  intro k
  simp only [List.getElem?_map, List.getElem?_mapIdx, Option.map_map]
  cases vs[k]? <;> rfl
theorem tri (z : Int) : z % 3 = 0 ∨ z % 3 = 1 ∨ z % 3 = 2 := by omega
theorem memP_wd (ns : List Int) (i : Int) (vs : List Int) : ∀ w ∈ memP ns i vs, wd w := fun w hw => by
  unfold memP at hw
  simp only [List.mem_mapIdx] at hw
  obtain ⟨k, hk, rfl⟩ := hw
  unfold wd
  rcases tri (i + k) with h | h | h <;> rw [h] <;> simp [List.getD] <;> omega
theorem memP_len (ns : List Int) (i : Int) (vs : List Int) : (memP ns i vs).length = vs.length := by simp [memP]
theorem mem_ev {vs : List Int} {p : Nat} {i : Int} (hl : vs.length ≤ 100) {ρ : M1.Env} (hr : ρ.length = 11) (h3 : ρ[3]? = some (some (.loc p))) (h1 : ρ[1]? = some (some (.int i))) (hp : lstOf S p = some (vs.map .int)) : ∃ T, eLc 11 [9, 10] (iEnumM (aCons (eVar 3) aNil)) (gT 2 (gsCons (gN 9) (gsCons (gN 10) gsNil))) tYesM (eOp opMod (eVar 10) (eOp opIxE (eTup (aCons (eC (.int 26)) (aCons (eC (.int 10000)) (aCons (eC (.int 18)) aNil)))) (eOp opMod (eOp opAdd (eVar 1) (eVar 9)) (eC (.int 3))))) ρ S = .ok (.loc S.length) (S ++ .lst ((memP ns i vs).map .int) :: T) := by
  rw [← prE_f]
  have lp : (prE vs).length = vs.length := by simp [prE]
  refine eLc_ext (src := enumL p vs.length) (ds := prE vs) (f := fE i) (by omega) ?_ (by rw [lp]; simp [enumL]) (by rw [lp, sizeLine_eq]; omega) (fun k X => ?_) (fun d hd X => ?_)
  · rw [iEnumM_ev]
    simp only [aCons_ev, eVar_ev, h3, bind_ok, aNil_ev, hp, List.length_map]
  · simp only [enumL, lstOf_app hp, prE, List.getElem?_mapIdx, M1.numbered, Option.map_some, List.getElem?_map]
    cases vs[k]? <;> rfl
  · simp only [prE, List.mem_mapIdx] at hd
    obtain ⟨k, hk, rfl⟩ := hd
    generalize vs[k] = w
    refine ⟨((wipeE ρ [9, 10]).set 9 (some (.int k))).set 10 (some (.int w)), [], rfl, ?_⟩
    have v10 : ∀ S', eVar 10 (((wipeE ρ [9, 10]).set 9 (some (.int k))).set 10 (some (.int w))) S' = .ok (.int w) S' := fun S' => by
      rw [eVar_ev, List.getElem?_set_self (by simp [hr])]
    have v9 : ∀ S', eVar 9 (((wipeE ρ [9, 10]).set 9 (some (.int k))).set 10 (some (.int w))) S' = .ok (.int k) S' := fun S' => by
      rw [eVar_ev, List.getElem?_set_ne (by decide), List.getElem?_set_self (by simp [hr])]
    have v1 : ∀ S', eVar 1 (((wipeE ρ [9, 10]).set 9 (some (.int k))).set 10 (some (.int w))) S' = .ok (.int i) S' := fun S' => by
      rw [eVar_ev, List.getElem?_set_ne (by decide), List.getElem?_set_ne (by decide)]
      simp only [wipeE_cons, wipeE_nil]
      rw [List.getElem?_set_ne (by decide), List.getElem?_set_ne (by decide), h1]
    simp only [eOp_ev, eTup_ev, aCons_ev, v10, bind_ok, eC_ev, aNil_ev, of_some, List.length_cons, List.length_nil, Nat.reduceAdd, sizeLine_eq, Nat.reduceLeDiff, if_true, v9, v1, opAdd_int, opMod_int _ _ (show (0 : Int) < 3 by decide), fE, List.append_nil]
    rcases tri (i + k) with h | h | h
    · rw [h, opIxE_tup (d := .int 26) (by decide) rfl]; simp [opMod_int _ _ (show (0 : Int) < 26 by decide), List.getD]
    · rw [h, opIxE_tup (d := .int 10000) (by decide) rfl]; simp [opMod_int _ _ (show (0 : Int) < 10000 by decide), List.getD]
    · rw [h, opIxE_tup (d := .int 18) (by decide) rfl]; simp [opMod_int _ _ (show (0 : Int) < 18 by decide), List.getD]
end
end K03

end

section
set_option maxRecDepth 100000
set_option maxHeartbeats 1000000
namespace K03
open PySem L2 M1
section
variable {K : PySem.W.Frag} {S : Store} {n : Nat} {ns : List Int}
def valsP (ns : List Int) (i : Int) (m : Nat) : List Int := (List.range m).map fun j : Nat => valP ns (100 + 60 * i + (j : Int)) / 7
def fV (ns : List Int) (i : Int) : D → D
  | .int x => .int (valP ns (100 + 60 * i + x) / 7)
  | d => d
theorem vals_ev (h : Scr S n ns) {i : Int} (hi : 0 ≤ i) (hi2 : i < 6) {m : Nat} (hm : m < 40) {ρ : M1.Env} {fi : Ix} (hr : ρ.length = 11) (h0 : ρ[0]? = some (some (.loc n))) (h1 : ρ[1]? = some (some (.int i))) (hf : fi ρ S = .ok (rngD 0 m) S) :
    ∃ T, eLc 11 [9] fi (gN 9) tYesM (eOp opFdiv (eF (m_law_value K) [] (aCons (eVar 0) (aCons (eOp opAdd (eOp opAdd (eC (.int 100)) (eOp opMulE (eC (.int 60)) (eVar 1))) (eVar 9)) aNil))) (eC (.int 7))) ρ S = .ok (.loc S.length) (S ++ .lst ((valsP ns i m).map .int) :: T) := by
  have mu : ∀ (a : Int) S', opMulE (.int 60) (.int a) S' = some (.int (60 * a), S') := fun a S' => opMulE_l (by decide) (by decide)
  obtain ⟨R, hR⟩ : ∃ R : List D, R = (List.range m).map fun j : Nat => D.int (j : Int) := ⟨_, rfl⟩
  have e : (valsP ns i m).map D.int = R.map (fV ns i) := by rw [hR]; unfold valsP; rw [List.map_map, List.map_map]; rfl
  have lR : R.length = m := by rw [hR]; simp
  rw [e]
  refine eLc_ext (src := rngD 0 m) (ds := R) (by omega) hf (by rw [lR]; simp) (by rw [lR, sizeLine_eq]; omega) (fun k X => ?_) (fun d hd X => ?_)
  · rw [rngD_item, hR, List.getElem?_map]
    congr 1
    by_cases hk : k < m
    · rw [if_pos hk, List.getElem?_range hk]; simp
    · rw [if_neg hk, List.getElem?_eq_none (by simp; omega)]; rfl
  · rw [hR] at hd
    obtain ⟨j, hj, rfl⟩ := List.mem_map.mp hd
    have hj := List.mem_range.mp hj
    obtain ⟨T1, e1⟩ := val (K := K) (S := S ++ X) (k := 100 + 60 * i + j) h.app (by omega) (by omega)
    refine ⟨(wipeE ρ [9]).set 9 (some (.int j)), T1, rfl, ?_⟩
    have v9 : ∀ S', eVar 9 ((wipeE ρ [9]).set 9 (some (.int j))) S' = .ok (.int j) S' := fun S' => by
      rw [eVar_ev, List.getElem?_set_self (by simp [hr])]
    have v1 : ∀ S', eVar 1 ((wipeE ρ [9]).set 9 (some (.int j))) S' = .ok (.int i) S' := fun S' => by
      rw [eVar_ev, List.getElem?_set_ne (by decide)]
      simp only [wipeE_cons, wipeE_nil]
      rw [List.getElem?_set_ne (by decide), h1]
    have v0 : ∀ S', eVar 0 ((wipeE ρ [9]).set 9 (some (.int j))) S' = .ok (.loc n) S' := fun S' => by
      rw [eVar_ev, List.getElem?_set_ne (by decide)]
      simp only [wipeE_cons, wipeE_nil]
      rw [List.getElem?_set_ne (by decide), h0]
    simp only [eOp_ev, eF_ev, aCons_ev, v9, v1, v0, bind_ok, eC_ev, aNil_ev, of_some, mu, opAdd_int, List.append_nil, List.nil_append, List.cons_append, e1, opFdiv_int _ _ (show (0 : Int) < 7 by decide) (show (7 : Int) < 1073741824 by decide), fV]
theorem ne_txt {a : List Nat} (h : okL a) (S : Store) : opNe (.str (SX.S a)) (.str (SX.S a)) S = some (.bl false, S) := by
  rw [opNe_str (okL_str h) (okL_str h)]; simp
abbrev outB (K : PySem.W.Frag) : Sm := (sSeq (sAsg (eF (m_law_value K) [] (aCons (eVar 0) (aCons (eOp opAdd (eC (.int 20)) (eVar 1)) aNil))) (gN 2))
    (sSeq (sAsg (eLc 11 [9] (iRng1 (aCons (eOp opMod (eVar 2) (eC (.int 40))) aNil)) (gN 9) tYesM (eOp opFdiv (eF (m_law_value K) [] (aCons (eVar 0) (aCons (eOp opAdd (eOp opAdd (eC (.int 100)) (eOp opMulE (eC (.int 60)) (eVar 1))) (eVar 9)) aNil))) (eC (.int 7)))) (gN 3))
    (sSeq (sAsg (eCall cTup (aCons (eLc 11 [9, 10] (iEnumM (aCons (eVar 3) aNil)) (gT 2 (gsCons (gN 9) (gsCons (gN 10) gsNil))) tYesM (eOp opMod (eVar 10) (eOp opIxE (eTup (aCons (eC (.int 26)) (aCons (eC (.int 10000)) (aCons (eC (.int 18)) aNil)))) (eOp opMod (eOp opAdd (eVar 1) (eVar 9)) (eC (.int 3)))))) aNil)) (gN 4))
    (sSeq (sAsg (eF (m_law_disassemble K) [] (aCons (eVar 4) aNil)) (gN 5))
    (sSeq (sIf (tOrM (tBl (eOp opNe (eF (m_disassemble K) [] (aCons (eVar 4) aNil)) (eVar 5))) (tBl (eOp opNe (eF (m_assemble K) [] (aCons (eVar 5) aNil)) (eVar 4)))) (sRet (eC (.bl false))) sNil)
    (sFor (iRng1 (aCons (eC (.int 6)) aNil)) (gN 6) (innB K)))))))
theorem out_ev (ds : Dis K) (h : Scr S n ns) {i : Int} (hi : 0 ≤ i) (hi2 : i < 6) (a2 a3 a4 a5 a6 a7 a8 a9 a10 : Option D) :
    ∃ b2 b3 b4 b5 b6 b7 b8 b9 b10 T, outB K [some (.loc n), some (.int i), a2, a3, a4, a5, a6, a7, a8, a9, a10] S = .nx [some (.loc n), some (.int i), b2, b3, b4, b5, b6, b7, b8, b9, b10] (S ++ T) := by
  obtain ⟨T1, e1⟩ := val (K := K) (S := S) (k := 20 + i) h (by omega) (by omega)
  obtain ⟨z, hz⟩ : ∃ z : Int, z = valP ns (20 + i) % 40 := ⟨_, rfl⟩
  have z1 : 0 ≤ z := by rw [hz]; exact Int.emod_nonneg _ (by decide)
  have z2 : z < 40 := by rw [hz]; exact Int.emod_lt_of_pos _ (by decide)
  have mz : ∀ S', opMod (.int (valP ns (20 + i))) (.int 40) S' = some (.int z, S') := fun S' => by rw [hz]; exact opMod_int _ _ (by decide)
  obtain ⟨S1, hS1⟩ : ∃ S1 : Store, S1 = S ++ T1 := ⟨_, rfl⟩
  have h1 : Scr S1 n ns := by rw [hS1]; exact h.app
  rw [← hS1] at e1
  obtain ⟨Tv, ev⟩ := vals_ev (K := K) h1 hi hi2 (m := z.toNat) (by omega) (fi := iRng1 (aCons (eOp opMod (eVar 2) (eC (.int 40))) aNil)) (ρ := [some (.loc n), some (.int i), some (.int (valP ns (20 + i))), a3, a4, a5, a6, a7, a8, a9, a10]) rfl rfl rfl (by
    simp_arith [mz]
    rw [if_pos (by omega)])
  have lv : (valsP ns i z.toNat).length = z.toNat := by simp [valsP]
  generalize valsP ns i z.toNat = vs at *
  obtain ⟨S2, hS2⟩ : ∃ S2 : Store, S2 = S1 ++ .lst (vs.map .int) :: Tv := ⟨_, rfl⟩
  have hp : lstOf S2 S1.length = some (vs.map .int) := by rw [hS2, lstOf_pk0]; rfl
  rw [← hS2] at ev
  obtain ⟨Tm, em⟩ := mem_ev (ns := ns) (S := S2) (vs := vs) (p := S1.length) (i := i) (by omega) (ρ := [some (.loc n), some (.int i), some (.int (valP ns (20 + i))), some (.loc S1.length), a4, a5, a6, a7, a8, a9, a10]) rfl rfl rfl hp
  have hw := memP_wd ns i vs
  have hl : (memP ns i vs).length ≤ 40 := by rw [memP_len]; omega
  generalize memP ns i vs = mem at *
  obtain ⟨S3, hS3⟩ : ∃ S3 : Store, S3 = S2 ++ .lst (mem.map .int) :: Tm := ⟨_, rfl⟩
  rw [← hS3] at em
  have ct : cTup [.loc S2.length] S3 = some (.tup (mem.map .int), S3) := cTup_loc (by rw [hS3, lstOf_pk0]; rfl)
  obtain ⟨T4, e4⟩ := law_disassemble_ev (K := K) hw (by omega) S3
  obtain ⟨T5, e5⟩ := disassemble_ev (K := K) hw (by omega) (S3 ++ T4)
  obtain ⟨ok, tl⟩ := txt_ok hw
  have ha := assemble_ev (K := K) ok (by omega) (S3 ++ T4 ++ T5)
  rw [asm_dis hw (by omega)] at ha
  obtain ⟨T6, e6⟩ := ha
  have n5 := fun S' => ne_txt ok S'
  have n6 := ne_ints mem
  obtain ⟨S6, hS6⟩ : ∃ S6 : Store, S6 = S3 ++ T4 ++ T5 ++ T6 := ⟨_, rfl⟩
  have h6 : Scr S6 n ns := by rw [hS6, hS3, hS2]; exact h1.app.app.app.app.app
  rw [← hS6] at e6
  obtain ⟨x6, x7, x8, T7, e7⟩ := inn_ev (K := K) ds h6 ok (by omega) hi hi2 (some (.int (valP ns (20 + i)))) (some (.loc S1.length)) (some (.tup (mem.map .int))) a6 a7 a8 a9 a10
  generalize txtP mem = tx at *
  obtain ⟨M, hM⟩ : ∃ M : List D, M = mem.map .int := ⟨_, rfl⟩
  rw [← hM] at ct e4 e5 e6 n6 e7
  simp only [List.append_assoc] at e4 e5 e6 e7
  refine ⟨some (.int (valP ns (20 + i))), some (.loc S1.length), some (.tup M), some (.str (SX.S tx)), x6, x7, x8, a9, a10, T1 ++ .lst (vs.map .int) :: Tv ++ .lst (mem.map .int) :: Tm ++ T4 ++ T5 ++ T6 ++ T7, ?_⟩
  have hfin : S ++ (T1 ++ .lst (vs.map .int) :: Tv ++ .lst (mem.map .int) :: Tm ++ T4 ++ T5 ++ T6 ++ T7) = S6 ++ T7 := by
    rw [hS6, hS3, hS2, hS1]; simp only [List.append_assoc]
  rw [hfin]
  simp_arith [sAsg_ev2, e1, ev, em, ct, e4, e5, e6, n5, n6, e7]
theorem tail_ev {V L : M1.Fn} {S1 S2 S3 : Store} {v : Int} {r : M1.Env} (h2 : V [.loc 0, .int 5] S1 = .ok (.int v) S2) (h3 : L [] S2 = .ok (.bl true) S3) :
    ∃ S4, sRet (eOr (eOp opGt (eOp opMod (eF V [] (aCons (eVar 0) (aCons (eC (.int 5)) aNil))) (eC (.int 4))) (eC (.int 0))) (eF0 L [])) (some (.loc 0) :: r) S1 = .rt (.bl true) S4 := by
  have m4 : ∀ S', opMod (.int v) (.int 4) S' = some (.int (v % 4), S') := fun S' => opMod_int _ _ (by decide)
  by_cases hv : 0 < v % 4
  · have g : decide (0 < v % 4) = true := decide_eq_true hv
    exact ⟨S2, by simp_arith [h2, m4, g]⟩
  · have g : decide (0 < v % 4) = false := decide_eq_false hv
    exact ⟨S3, by simp_arith [h2, m4, g, h3]⟩
theorem fn_rt1 {b : Sm} {S S' : Store} {d x : D} (h : b [some x, none, none, none, none, none, none, none, none, none, none] S = .rt d S') : mkFn 1 11 b [x] S = .ok d S' := by
  unfold mkFn
  rw [if_pos (by simp)]
  show (match b [some x, none, none, none, none, none, none, none, none, none, none] S with | .nx ρ S1 => R.ok D.non S1 | .rt d S1 => R.ok d S1 | .ex C d ρ S1 => R.ex C d S1 | _ => R.er) = _
  rw [h]
theorem law_right (ds : Dis K) (h : ns.length ≤ 63) : ∃ S', m_law K [.loc 0] [.frz (ns.map .int)] = .ok (.bl true) S' := by
  have h0 : Scr [.frz (ns.map .int)] 0 ns := ⟨rfl, h⟩
  obtain ⟨S0, hS0⟩ : ∃ S0 : Store, S0 = [.frz (ns.map .int)] := ⟨_, rfl⟩
  rw [← hS0] at h0 ⊢
  have loop := forN_inv (src := rngD 0 6) (g := gN 1) (b := outB K) (fun _ ρ S' => ∃ a1 a2 a3 a4 a5 a6 a7 a8 a9 a10 T, ρ = [some (.loc 0), a1, a2, a3, a4, a5, a6, a7, a8, a9, a10] ∧ S' = S0 ++ T) 6
    (by
      rintro j ρ S' hj ⟨a1, a2, a3, a4, a5, a6, a7, a8, a9, a10, T, rfl, rfl⟩
      obtain ⟨b2, b3, b4, b5, b6, b7, b8, b9, b10, T2, e⟩ := out_ev (K := K) (S := S0 ++ T) ds h0.app (i := 0 + j) (by omega) (by omega) a2 a3 a4 a5 a6 a7 a8 a9 a10
      exact ⟨.int (0 + j), _, _, _, by simp [hj], rfl, e, some (.int (0 + j)), b2, b3, b4, b5, b6, b7, b8, b9, b10, T ++ T2, rfl, by rw [List.append_assoc]⟩)
    (by rintro ρ S' ⟨a1, a2, a3, a4, a5, a6, a7, a8, a9, a10, T, rfl, rfl⟩; simp)
    7 0 [some (.loc 0), none, none, none, none, none, none, none, none, none, none] S0 (by omega) (by omega) ⟨none, none, none, none, none, none, none, none, none, none, [], rfl, by simp⟩
  obtain ⟨ρ', S', e, a1, a2, a3, a4, a5, a6, a7, a8, a9, a10, T, rfl, rfl⟩ := loop
  obtain ⟨T2, e2⟩ := val (K := K) (S := S0 ++ T) (k := 5) h0.app (by decide) (by decide)
  obtain ⟨S3, e3⟩ := limits_right_ev (K := K) ds (S0 ++ T ++ T2)
  simp only [List.append_assoc] at e2 e3
  obtain ⟨S4, e4⟩ := tail_ev (r := [a1, a2, a3, a4, a5, a6, a7, a8, a9, a10]) e2 e3
  have hb : b_law K [some (.loc 0), none, none, none, none, none, none, none, none, none, none] S0 = .rt (.bl true) S4 := by
    delta b_law
    simp only [sSeq_ev, sFor_ev, iRng1_ev', aCons_ev, eC_ev, aNil_ev, bind_ok, List.append_nil, List.nil_append, List.cons_append, Int.reduceLE, Int.reduceLT, and_self, if_true, out_ok, Int.reduceToNat, Int.reduceNeg, rngD_bound, Nat.reduceAdd, e, seq_nx]
    exact e4
  exact ⟨_, fn_rt1 (b := b_law K) hb⟩
end
end K03

end

section
set_option maxRecDepth 100000
set_option maxHeartbeats 0
namespace M1
open PySem PySem.Spec PyProof.Rows L2
theorem walk_ofW {l : PySem.W.OpenLaw} {n k : Nat} {q : Program} {loose : List Str} {XP : (Str → Option Value) → Heap → Prop} {YP : World → Heap → Prop} {d : DefRec} {x : Str}
    (hn : l.most = some n) (hn2 : n ≤ sizeLine) (hdf : d.params.defaults = []) (hr : Room k callerA)
    (F : ∀ (w : World) (mg : Str → Option Value) (fa : Addr) (h : Heap), YP w h → h.Ns mainGlobals mg → mg d.name = some (.ref fa) →
      ∃ (K : PySem.W.Frag) (fd : FuncData) (sp : Sp), K.In h ∧ (∀ (s : Shared) (u : Value), BindsTo s fd ⟨[u], []⟩ [(x, u)]) ∧
        (∀ (H : Hp) (a : Addr) (ns : List Int), ns.length ≤ n → Only H → SqL K H a (ns.map V.int) → sp [.ref a] H (fun v _ => v = .bl true) fun _ _ _ => False) ∧
        ∀ base : Heap, K.In base → base.Ns mainGlobals mg → FnOk l.prog w K mg base (L2.CX l.prog w) k fa fd [x] sp) :
    PySem.W.WalkO q loose XP YP l.row.toRowW d [] (fun f vs => PySem.call f vs) := by
  refine Att.attach_call hn hdf fun w s₀ s₁ mg mb fa o pm cd doc a vs ns G Y ho hd hcd hmg hobj hints hlen hg => ?_
  obtain ⟨K, fd, sp, KX, hb, hsp, hF⟩ := F w mg fa _ Y G.T.g hmg
  exact law_call KX G.T.g G.T.b G.T.builtins G.T.nolimit hg hobj hints (Nat.le_trans hlen hn2) hr hF hb (fun H hO hS => hsp H a ns hlen hO hS) fun H e s' ⟨_, _, _, _, _, _, _, _, _, _, _, _, z⟩ => z
theorem sp_law {K : PySem.W.Frag} {F : M1.Fn} (h : ∀ ns : List Int, ns.length ≤ 63 → ∃ S', F [.loc 0] [.frz (ns.map .int)] = .ok (.bl true) S') (H : Hp) (a : Addr) (ns : List Int) (hl : ns.length ≤ 63) (hO : Only H) (hS : SqL K H a (ns.map V.int)) :
    spM K 1 F [.ref a] H (fun v _ => v = .bl true) fun _ _ _ => False := by
  obtain ⟨S', e⟩ := h ns hl
  have rv : ∀ (m : Nat → Addr) (N : Nat) (l : List Int), Rvs K m N H (l.map .int) (l.map V.int) := fun m N l => by
    induction l with
    | nil => simp [Rvs]
    | cons x l ih => simp only [List.map_cons]; exact Rvs.cons rfl ih
  have fz : (∃ o, H a = some (.frz o (.lst (ns.map V.int)))) ∨ KLs K a (ns.map V.int) := by
    rcases hS with (h1 | ⟨o, h1⟩) | h1
    · rcases hO a with z | ⟨o, xs, z⟩
      · rw [z] at h1; cases h1
      · rw [z] at h1; cases h1
    · exact .inl ⟨o, h1⟩
    · exact .inr h1
  refine ⟨rfl, fun _ => a, [.frz (ns.map .int)], [.loc 0], ⟨fun n o h => ?_, fun i j oi oj h1 _ l1 _ _ => ?_⟩, Rvs.one (Rv.mk_loc (m := fun _ => a) (by simp)), ?_⟩
  · cases n with
    | zero => cases h; exact ⟨_, fz, rv _ _ _⟩
    | succ n => simp at h
  · cases i with
    | zero => cases h1; cases l1
    | succ n => simp at h1
  · rw [e]
    intro m' H' v g p
    exact p
end M1
namespace K03
open PySem PySem.Spec PyProof.Rows L2 M1
abbrev R : PySem.W.OpenRow := PySem.W.OpenLaw.row PySem.Challenge.rw_virtmonitor_k03_whole_assembly
abbrev hk : PySem.W.Hook := hookM 5 fa fn ex
def ob (s : PySem.W.SharedT) : He.AlD × Bool := obsMG 5 fa fn ex (HandSHeadRun.getT s)
theorem ob_eq (s : PySem.W.SharedT) : ob s = hk.obs s.abs := obsMG_eq (HandSHeadRun.getT_eq s)
def loose : List Str := [("__name__" : Str), ("VirtError" : Str), ("InvalidMemory" : Str), ("ParseError" : Str), ("WORD_LIMIT" : Str), ("MAX_MEMORY" : Str), ("BASE_INSTRUCTIONS" : Str), ("is_integer" : Str), ("is_word" : Str), ("is_words" : Str), ("check_memory" : Str), ("LETTERS" : Str), ("DIGITS" : Str), ("MAX_NAME" : Str), ("MAX_DIGITS" : Str), ("CUSTOM" : Str), ("MNEMONICS" : Str), ("is_name" : Str), ("parse_word" : Str), ("parse_line" : Str), ("assemble" : Str), ("disassemble" : Str), ("_law_mix" : Str), ("_law_value" : Str), ("_law_mnemonics" : Str), ("_law_all_mnemonics" : Str), ("_law_disassemble" : Str), ("_law_parse_word" : Str), ("_law_is_name" : Str), ("_law_parse_line" : Str), ("_law_assemble" : Str), ("_law_result" : Str), ("_law_changed" : Str), ("_law_limits_right" : Str)]
theorem run (w : World) : HandSHeadRun.RunEq R (PySem.W.view R.prog [37]) hk ob 3000 loose w := by
  intro os
  kernel_rfl
theorem facts {P : Program} {w : World} {K : PySem.W.Frag} {h : Heap} {mg : Str → Option Value} {f : Addr} (X : K.In h) (G : h.Ns mainGlobals mg) (hfa : mg ("law" : Str) = some (.ref f)) (c : He.SaysD fa fn K) (e : ex K = true) :
    ∃ fd : FuncData, Dis K ∧ (∀ (s : Shared) (v : Value), BindsTo s fd ⟨[v], []⟩ [("_law_script", v)]) ∧ ∀ base : Heap, K.In base → base.Ns mainGlobals mg → FnOk P w K mg base (L2.CX P w) 7 f fd ["_law_script"] (spM K 1 (m_law K)) := by
  have hy := hy_of X G c e
  obtain ⟨fd, F⟩ := hy.f_law
  have ef := hfa.symm.trans hy.g_law
  cases ef
  have b := FunD.bindsA (ps := ["_law_script"]) F fun _ _ _ _ _ _ us hl => match us, hl with | [_], _ => rfl
  exact ⟨fd, dis_of hy, fun s v => b s [v] rfl, fun base _ _ => ok_law hy F⟩
end K03
open PySem PySem.W PySem.Calls PyProof.Rows
theorem PySem.Challenge.cw_virtmonitor_k03_whole_assembly_holds : PySem.Challenge.rw_virtmonitor_k03_whole_assembly.Holds := by
  w_on; o_law
  refine HandSHeadRun.head_any (r := OpenLaw.row PySem.Challenge.rw_virtmonitor_k03_whole_assembly) (q := view (OpenLaw.row PySem.Challenge.rw_virtmonitor_k03_whole_assembly).prog [37]) (H := K03.hk) (ob := K03.ob) (M := 3000) (loose := K03.loose) (d := HandSHeadRun.topDef (OpenLaw.row PySem.Challenge.rw_virtmonitor_k03_whole_assembly).prog 37) (kwd := []) K03.ob_eq
    (by kernel_rfl) (fun s => by kernel_rfl) K03.run (by kernel_rfl) (by kernel_rfl) (by kernel_rfl) (by rfl) (by first | assumption | decide +kernel) (by decide +kernel) ⟨rfl, rfl, rfl, rfl, rfl, by decide +kernel⟩ ?hw ?hc
  case hw => w_witness2
  case hc =>
    refine M1.walk_ofW (l := PySem.Challenge.rw_virtmonitor_k03_whole_assembly) (n := 63) (k := 7) (x := "_law_script") rfl (by decide) (by kernel_rfl) ⟨rfl, by decide, by decide⟩ ?F
    intro w mg fa h Y G hmg0
    obtain ⟨K, KX, c, e⟩ := Y
    have hmg : mg ("law" : PySem.Str) = some (.ref fa) := by
      have e : (HandSHeadRun.topDef (OpenLaw.row PySem.Challenge.rw_virtmonitor_k03_whole_assembly).prog 37).name = ("law" : PySem.Str) := by kernel_rfl
      rw [← e]
      exact hmg0
    obtain ⟨fd, hds, hb, hF⟩ := K03.facts (P := (PySem.Challenge.rw_virtmonitor_k03_whole_assembly).prog) (w := w) KX G hmg c e
    exact ⟨K, fd, M1.spM K 1 (K03.m_law K), KX, hb, fun H a ns hl hO hS => M1.sp_law (fun ns h => K03.law_right hds h) H a ns hl hO hS, hF⟩


end
