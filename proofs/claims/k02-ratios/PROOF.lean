import PyProof.Rows.All
import Wide.All
import OpenK.AllK
import Wide.FinOn
import HandS.ForMost
import HandS.Exc
import HandS.ExcOwn
import HandS.ExcInit
import HandS.WordsExc
import HandS.TryMany
import HandS.Lambda
import HandS.Gcd
import HandS.TryOnly
import HandS.ExcField
import HandS.IsInst
import HandS.ExcIs
import KE.KExcIs
import HandS.WideBits
import HandS.Style
import PySem.Challenge.RW_cutrounds_k02_ratios
import Open.SpecLaws
import KE.OsGo
set_option Elab.async false
set_option linter.all false
set_option maxRecDepth 100000
set_option maxHeartbeats 4000000
/-! D0: data over the hand layer: values as data, a frozen heap under the tracked one, mutable objects by number; judgements over data. -/
namespace DL
open PySem PySem.Spec PyProof.Rows L2

/-! ### data -/
/-- a lambda's text -/
structure LamI where
  qual : Str
  params : Arguments
  body : Expr
  scope : Scope
/-- just this object -/
def xo (a : Addr) (o : Obj) : HO := .ext fun h => h.get? a = some o
inductive Dt where
  | non | bl (b : Bool) | int (i : Int) | str (x : Str)
  | lst (xs : List Dt) | tup (xs : List Dt)
  | obj (C : Addr) (fs : List (Str × Dt))
  | exc (C : Addr) (fs : List (Str × Dt))
  | dic (kvs : List (Key × Dt))
  | val (v : V)
  | mut (k : Nat)
  | cau (a dd : Addr) (gs : List (Str × Dt))
  | clo (L : LamI) (cs : List (Str × Addr))

mutual
inductive At (K : PySem.W.Frag) (as : List Addr) (G : Hp) : V → Dt → Prop
  | non : At K as G .non .non
  | bl (b : Bool) : At K as G (.bl b) (.bl b)
  | int (i : Int) : At K as G (.int i) (.int i)
  | str (x : Str) : At K as G (.str x) (.str x)
  | lst {a : Addr} {xs : List V} {ds : List Dt} : SqL K G a xs → Ats K as G xs ds → At K as G (.ref a) (.lst ds)
  | tup {a : Addr} {xs : List V} {ds : List Dt} : SqT K G a xs → Ats K as G xs ds → At K as G (.ref a) (.tup ds)
  | obj {a C dx : Addr} {fs : List (Str × V)} {gs : List (Str × Dt)} : G a = some (.ins C dx fs) → Fts K as G fs gs → At K as G (.ref a) (.obj C gs)
  | exc {a C d : Addr} {fs : List (Str × V)} {gs : List (Str × Dt)} : G a = some (exo a C (some d)) → G d = some (exd d fs) → Fts K as G fs gs → At K as G (.ref a) (.exc C gs)
  | exc0 {a C : Addr} : G a = some (exo a C none) → At K as G (.ref a) (.exc C [])
  | dic {a : Addr} {kvs : List (Key × V)} {es : List (Key × Dt)} : G a = some (.dK kvs) → Kts K as G kvs es → At K as G (.ref a) (.dic es)
  | val (v : V) : At K as G v (.val v)
  | mut {k : Nat} {a : Addr} : as[k]? = some a → At K as G (.ref a) (.mut k)
  | cau {a dd : Addr} {fs : List (Str × V)} {gs : List (Str × Dt)} : G dd = some (.xd fs) → Fts K as G fs gs → At K as G (.ref a) (.cau a dd gs)
  | clo {f c' : Addr} {pm ctv : Value} {L : LamI} {cs : List (Str × Addr)} : G f = some (xo f (PySem.W.kla_obj "<lambda>" L.qual L.params L.body L.scope cs pm c' ctv)) → G c' = some (LamX.CodeO c' L.qual) → At K as G (.ref f) (.clo L cs)
inductive Ats (K : PySem.W.Frag) (as : List Addr) (G : Hp) : List V → List Dt → Prop
  | nil : Ats K as G [] []
  | cons {v : V} {vs : List V} {d : Dt} {ds : List Dt} : At K as G v d → Ats K as G vs ds → Ats K as G (v :: vs) (d :: ds)
inductive Fts (K : PySem.W.Frag) (as : List Addr) (G : Hp) : List (Str × V) → List (Str × Dt) → Prop
  | nil : Fts K as G [] []
  | cons {f : Str} {v : V} {vs : List (Str × V)} {d : Dt} {ds : List (Str × Dt)} : At K as G v d → Fts K as G vs ds → Fts K as G ((f, v) :: vs) ((f, d) :: ds)
inductive Kts (K : PySem.W.Frag) (as : List Addr) (G : Hp) : List (Key × V) → List (Key × Dt) → Prop
  | nil : Kts K as G [] []
  | cons {f : Key} {v : V} {vs : List (Key × V)} {d : Dt} {ds : List (Key × Dt)} : At K as G v d → Kts K as G vs ds → Kts K as G ((f, v) :: vs) ((f, d) :: ds)
end

mutual

def Dt.mf : Dt → Bool
  | .non | .bl _ | .int _ | .str _ | .val _ | .clo _ _ => true
  | .mut _ => false
  | .lst xs | .tup xs => mfs xs
  | .obj _ fs | .exc _ fs | .cau _ _ fs => mff fs
  | .dic es => mfk es
def mfs : List Dt → Bool
  | [] => true
  | d :: r => d.mf && mfs r
def mff : List (Str × Dt) → Bool
  | [] => true
  | (_, d) :: r => d.mf && mff r
def mfk : List (Key × Dt) → Bool
  | [] => true
  | (_, d) :: r => d.mf && mfk r
end

theorem Same.tup {K : PySem.W.Frag} {H H' : Hp} {a : Addr} {xs : List V} (e : Same H H') (h : SqT K H a xs) : SqT K H' a xs := by
  rcases h with (h | ⟨o, h⟩) | h
  · exact .inl (.inl (e _ _ h))
  · exact .inl (.inr ⟨o, e _ _ h⟩)
  · exact .inr h

section
variable {K : PySem.W.Frag} {as bs : List Addr} {G G' : Hp}
mutual
/-- data stay -/
theorem At.mono (g : Same G G') (p : ∀ (k : Nat) (a : Addr), as[k]? = some a → bs[k]? = some a) : ∀ {v : V} {d : Dt}, At K as G v d → At K bs G' v d
  | _, _, .non => .non
  | _, _, .bl b => .bl b
  | _, _, .int i => .int i
  | _, _, .str x => .str x
  | _, _, .lst h t => .lst (g.seq h) (Ats.mono g p t)
  | _, _, .tup h t => .tup (Same.tup g h) (Ats.mono g p t)
  | _, _, .obj h t => .obj (g _ _ h) (Fts.mono g p t)
  | _, _, .exc h h2 t => .exc (g _ _ h) (g _ _ h2) (Fts.mono g p t)
  | _, _, .exc0 h => .exc0 (g _ _ h)
  | _, _, .dic h t => .dic (g _ _ h) (Kts.mono g p t)
  | _, _, .val v => .val v
  | _, _, .mut h => .mut (p _ _ h)
  | _, _, .cau h t => .cau (g _ _ h) (Fts.mono g p t)
  | _, _, .clo h t => .clo (g _ _ h) (g _ _ t)
theorem Ats.mono (g : Same G G') (p : ∀ (k : Nat) (a : Addr), as[k]? = some a → bs[k]? = some a) : ∀ {v : List V} {d : List Dt}, Ats K as G v d → Ats K bs G' v d
  | _, _, .nil => .nil
  | _, _, .cons h t => .cons (At.mono g p h) (Ats.mono g p t)
theorem Fts.mono (g : Same G G') (p : ∀ (k : Nat) (a : Addr), as[k]? = some a → bs[k]? = some a) : ∀ {v : List (Str × V)} {d : List (Str × Dt)}, Fts K as G v d → Fts K bs G' v d
  | _, _, .nil => .nil
  | _, _, .cons h t => .cons (At.mono g p h) (Fts.mono g p t)
theorem Kts.mono (g : Same G G') (p : ∀ (k : Nat) (a : Addr), as[k]? = some a → bs[k]? = some a) : ∀ {v : List (Key × V)} {d : List (Key × Dt)}, Kts K as G v d → Kts K bs G' v d
  | _, _, .nil => .nil
  | _, _, .cons h t => .cons (At.mono g p h) (Kts.mono g p t)
end
mutual
/-- data without mutable objects, whatever these are -/
theorem At.free : ∀ {v : V} {d : Dt}, d.mf = true → At K as G v d → At K bs G v d
  | _, _, _, .non => .non
  | _, _, _, .bl b => .bl b
  | _, _, _, .int i => .int i
  | _, _, _, .str x => .str x
  | _, _, m, .lst h t => .lst h (Ats.free (by simpa [Dt.mf] using m) t)
  | _, _, m, .tup h t => .tup h (Ats.free (by simpa [Dt.mf] using m) t)
  | _, _, m, .obj h t => .obj h (Fts.free (by simpa [Dt.mf] using m) t)
  | _, _, m, .exc h h2 t => .exc h h2 (Fts.free (by simpa [Dt.mf] using m) t)
  | _, _, _, .exc0 h => .exc0 h
  | _, _, m, .dic h t => .dic h (Kts.free (by simpa [Dt.mf] using m) t)
  | _, _, _, .val v => .val v
  | _, _, m, .mut h => by simp [Dt.mf] at m
  | _, _, m, .cau h t => .cau h (Fts.free (by simpa [Dt.mf] using m) t)
  | _, _, _, .clo h t => .clo h t
theorem Ats.free : ∀ {v : List V} {d : List Dt}, mfs d = true → Ats K as G v d → Ats K bs G v d
  | _, _, _, .nil => .nil
  | _, _, m, .cons h t => by
    simp only [mfs, Bool.and_eq_true] at m
    exact .cons (At.free m.1 h) (Ats.free m.2 t)
theorem Fts.free : ∀ {v : List (Str × V)} {d : List (Str × Dt)}, mff d = true → Fts K as G v d → Fts K bs G v d
  | _, _, _, .nil => .nil
  | _, _, m, .cons h t => by
    simp only [mff, Bool.and_eq_true] at m
    exact .cons (At.free m.1 h) (Fts.free m.2 t)
theorem Kts.free : ∀ {v : List (Key × V)} {d : List (Key × Dt)}, mfk d = true → Kts K as G v d → Kts K bs G v d
  | _, _, _, .nil => .nil
  | _, _, m, .cons h t => by
    simp only [mfk, Bool.and_eq_true] at m
    exact .cons (At.free m.1 h) (Kts.free m.2 t)
end
theorem Ats.length : ∀ {v : List V} {d : List Dt}, Ats K as G v d → v.length = d.length
  | _, _, .nil => rfl
  | _, _, .cons _ t => by simp [Ats.length t]
theorem Ats.get : ∀ {v : List V} {d : List Dt} {i : Nat} {x : V}, Ats K as G v d → v[i]? = some x → ∃ e, d[i]? = some e ∧ At K as G x e
  | _, _, i, x, .nil, h => by simp at h
  | _, _, 0, x, .cons h t, e => by simp at e; subst e; exact ⟨_, rfl, h⟩
  | _, _, i + 1, x, .cons h t, e => by
    obtain ⟨y, h1, h2⟩ := Ats.get (i := i) t (by simpa using e)
    exact ⟨y, by simpa using h1, h2⟩
theorem Ats.got : ∀ {v : List V} {d : List Dt} {i : Nat} {e : Dt}, Ats K as G v d → d[i]? = some e → ∃ x, v[i]? = some x ∧ At K as G x e
  | _, _, i, x, .nil, h => by simp at h
  | _, _, 0, x, .cons h t, e => by simp at e; subst e; exact ⟨_, rfl, h⟩
  | _, _, i + 1, x, .cons h t, e => by
    obtain ⟨y, h1, h2⟩ := Ats.got (i := i) t (by simpa using e)
    exact ⟨y, by simpa using h1, h2⟩
theorem Ats.append : ∀ {v v2 : List V} {d d2 : List Dt}, Ats K as G v d → Ats K as G v2 d2 → Ats K as G (v ++ v2) (d ++ d2)
  | _, _, _, _, .nil, r => r
  | _, _, _, _, .cons h t, r => .cons h (Ats.append t r)
theorem Ats.set : ∀ {v : List V} {d : List Dt} {x : V} {e : Dt} (i : Nat), At K as G x e → Ats K as G v d → Ats K as G (v.set i x) (d.set i e)
  | _, _, _, _, _, _, .nil => .nil
  | _, _, _, _, 0, a, .cons _ t => .cons a t
  | _, _, _, _, i + 1, a, .cons h t => .cons h (Ats.set i a t)
theorem Ats.drop : ∀ {v : List V} {d : List Dt} (n : Nat), Ats K as G v d → Ats K as G (v.drop n) (d.drop n)
  | _, _, 0, r => r
  | _, _, _ + 1, .nil => .nil
  | _, _, n + 1, .cons _ t => Ats.drop n t
theorem Ats.take : ∀ {v : List V} {d : List Dt} (n : Nat), Ats K as G v d → Ats K as G (v.take n) (d.take n)
  | _, _, 0, _ => .nil
  | _, _, _ + 1, .nil => .nil
  | _, _, n + 1, .cons h t => .cons h (Ats.take n t)
end

/-! ### mutable objects -/
inductive Mo where
  | lst (xs : List Dt) | dic (kvs : List (Key × Dt)) | ins (C : Addr) (fs : List (Str × Dt)) | gone
  /-- a cell with its content; a table of code objects -/
  | cell (n : Nat) (c : Addr) (oc : Obj) (d : Dt) | tab (n : Nat) (P : Addr) (q : Str)
abbrev Mu := List Mo
def MoAt (K : PySem.W.Frag) (as : List Addr) (G : Hp) (o : HO) : Mo → Prop
  | .lst ds => ∃ xs, o = .lst xs ∧ Ats K as G xs ds
  | .dic es => ∃ kvs, o = .dK kvs ∧ Kts K as G kvs es
  | .ins C fs => ∃ dx vs, o = .ins C dx vs ∧ Fts K as G vs fs
  | .gone => True
  | .cell n c oc d => as[n]? = some c ∧ ∃ v u, o = xo c oc ∧ oc.data = .cell (some u) ∧ RelV v u ∧ At K as G v d
  | .tab n P q => as[n]? = some P ∧ ∃ ps, o = .tbl ps ∧ TriplesOk ps.toList ∧ ∀ (pos : Pos) (cv : Value), codeAmong pos ps.toList = some cv → ∃ c, cv = .ref c ∧ G c = some (LamX.CodeO c q)
theorem MoAt.mono {K : PySem.W.Frag} {as bs : List Addr} {G G' : Hp} {o : HO} {m : Mo} (h : MoAt K as G o m) (g : Same G G') (p : ∀ (k : Nat) (a : Addr), as[k]? = some a → bs[k]? = some a) : MoAt K bs G' o m := by
  cases m with
  | lst ds => obtain ⟨xs, e, h⟩ := h; exact ⟨xs, e, h.mono g p⟩
  | dic es => obtain ⟨kvs, e, h⟩ := h; exact ⟨kvs, e, h.mono g p⟩
  | ins C fs => obtain ⟨dx, vs, e, h⟩ := h; exact ⟨dx, vs, e, h.mono g p⟩
  | gone => trivial
  | cell n c oc d => obtain ⟨i, v, u, e, e2, r, h⟩ := h; exact ⟨p _ _ i, v, u, e, e2, r, h.mono g p⟩
  | tab n P q =>
    obtain ⟨i, ps, e, t, h⟩ := h
    refine ⟨p _ _ i, ps, e, t, fun pos cv hc => ?_⟩
    obtain ⟨c, e1, e2⟩ := h pos cv hc
    exact ⟨c, e1, g _ _ e2⟩
structure Mem (K : PySem.W.Frag) (as : List Addr) (G H : Hp) (μ : Mu) : Prop where
  same : Same G H
  len : as.length = μ.length
  cell : ∀ (k : Nat) (m : Mo), μ[k]? = some m → m ≠ .gone → ∃ a o, as[k]? = some a ∧ H a = some o ∧ MoAt K as G o m ∧ G a = none
  nd : as.Nodup
  ne : ∀ a ∈ as, H a ≠ none
structure Step (as : List Addr) (G H : Hp) (as' : List Addr) (G' H' : Hp) : Prop where
  pre : ∃ r, as' = as ++ r
  gg : Same G G'
  hh : ∀ b o, H b = some o → b ∉ as → H' b = some o
  ho : ∀ b, H b ≠ none → H' b ≠ none
  fr : ∀ b o, G' b = some o → G b = some o ∨ H b = none ∨ b ∈ as
  nw : ∀ a ∈ as', a ∈ as ∨ H a = none
theorem Step.refl (as : List Addr) (G H : Hp) : Step as G H as G H := ⟨⟨[], by simp⟩, Same.refl _, fun _ _ h _ => h, fun _ h => h, fun _ _ h => .inl h, fun _ h => .inl h⟩
theorem Step.ix {as as' : List Addr} {G H G' H' : Hp} (s : Step as G H as' G' H') : ∀ (k : Nat) (a : Addr), as[k]? = some a → as'[k]? = some a := fun k a h => by
  obtain ⟨r, rfl⟩ := s.pre
  have := (List.getElem?_eq_some_iff.mp h).1
  rw [List.getElem?_append_left this]
  exact h
theorem Step.trans {as as1 as2 : List Addr} {G H G1 H1 G2 H2 : Hp} (s : Step as G H as1 G1 H1) (t : Step as1 G1 H1 as2 G2 H2) : Step as G H as2 G2 H2 where
  pre := by
    obtain ⟨r, h⟩ := s.pre
    obtain ⟨r2, h2⟩ := t.pre
    exact ⟨r ++ r2, by rw [h2, h, List.append_assoc]⟩
  gg := s.gg.trans t.gg
  hh := fun b o h n => t.hh b o (s.hh b o h n) (fun hb => by
    rcases s.nw b hb with z | z
    · exact n z
    · rw [h] at z; cases z)
  ho := fun b h => t.ho b (s.ho b h)
  fr := fun b o h => by
    rcases t.fr b o h with z | z | z
    · exact s.fr b o z
    · refine .inr (.inl ?_)
      cases q : H b with
      | none => rfl
      | some u => exact absurd z (s.ho b (by rw [q]; simp))
    · rcases s.nw b z with z | z
      · exact .inr (.inr z)
      · exact .inr (.inl z)
  nw := fun a h => by
    rcases t.nw a h with z | z
    · exact s.nw a z
    · refine .inr ?_
      cases q : H a with
      | none => rfl
      | some u => exact absurd z (s.ho a (by rw [q]; simp))

/-! ### slots -/
abbrev Env' := List (Option Dt)
structure Slots (K : PySem.W.Frag) (as : List Addr) (G : Hp) (σ : L2.St) (ρ : Env') : Prop where
  len : σ.length = ρ.length
  at_ : ∀ (i : Nat) (d : Dt), ρ[i]? = some (some d) → ∃ v, σ[i]? = some (some v) ∧ At K as G v d
theorem Slots.mono {K : PySem.W.Frag} {as as' : List Addr} {G H G' H' : Hp} {σ : L2.St} {ρ : Env'} (s : Slots K as G σ ρ) (t : Step as G H as' G' H') : Slots K as' G' σ ρ :=
  ⟨s.len, fun i d h => by
    obtain ⟨v, e, a⟩ := s.at_ i d h
    exact ⟨v, e, a.mono t.gg t.ix⟩⟩
theorem Slots.set {K : PySem.W.Frag} {as : List Addr} {G : Hp} {σ : L2.St} {ρ : Env'} {v : V} {d : Dt} (s : Slots K as G σ ρ) (i : Nat) (h : At K as G v d) : Slots K as G (σ.set i (some v)) (ρ.set i (some d)) := by
  refine ⟨by simp [s.len], fun j e hj => ?_⟩
  by_cases hi : i = j
  · subst hi
    have hl : i < ρ.length := by
      have := (List.getElem?_eq_some_iff.mp hj).1
      simpa using this
    rw [List.getElem?_set_self hl] at hj
    cases hj
    exact ⟨v, by rw [List.getElem?_set_self (by rw [s.len]; exact hl)], h⟩
  · rw [List.getElem?_set_ne hi] at hj
    obtain ⟨w, e1, a⟩ := s.at_ j e hj
    exact ⟨w, by rw [List.getElem?_set_ne hi]; exact e1, a⟩
theorem Slots.unset {K : PySem.W.Frag} {as : List Addr} {G : Hp} {σ : L2.St} {ρ : Env'} (s : Slots K as G σ ρ) (i : Nat) : Slots K as G (σ.set i none) (ρ.set i none) := by
  refine ⟨by simp [s.len], fun j e hj => ?_⟩
  by_cases hi : i = j
  · subst hi
    have hl : i < ρ.length := by
      have := (List.getElem?_eq_some_iff.mp hj).1
      simpa using this
    rw [List.getElem?_set_self hl] at hj
    cases hj
  · rw [List.getElem?_set_ne hi] at hj
    obtain ⟨w, e1, a⟩ := s.at_ j e hj
    exact ⟨w, by rw [List.getElem?_set_ne hi]; exact e1, a⟩
def wipeD (ρ : Env') : List Nat → Env'
  | [] => ρ
  | v :: vs => (wipeD ρ vs).set v none
theorem Slots.wipe {K : PySem.W.Frag} {as : List Addr} {G : Hp} {σ : L2.St} {ρ : Env'} (s : Slots K as G σ ρ) : ∀ vs : List Nat, Slots K as G (L2.wipe σ vs) (wipeD ρ vs)
  | [] => s
  | v :: vs => (Slots.wipe s vs).unset v

/-! ### the wishes of an exception -/
abbrev JX := Addr → List (Str × Dt) → Mu → Prop
abbrev J0 : JX := fun _ _ _ => False
/-- an exception of the class at C with its fields, as it flies -/
def WJ (K : PySem.W.Frag) (J : JX) (as : List Addr) (G H : Hp) : Value → Option Addr → Hp → Prop := fun cls d H' =>
  ∃ (C : Addr) (as' : List Addr) (G' : Hp) (μ' : Mu) (gs : List (Str × Dt)), cls = .ref C ∧ Step as G H as' G' H' ∧ Mem K as' G' H' μ' ∧
    ((d = none ∧ gs = []) ∨ ∃ (dd : Addr) (fs : List (Str × V)), d = some dd ∧ G' dd = some (.xd fs) ∧ Fts K as' G' fs gs) ∧ J C gs μ'
theorem WJ.back {K : PySem.W.Frag} {J : JX} {as as1 : List Addr} {G H G1 H1 : Hp} {cls : Value} {d : Option Addr} {H' : Hp} (s : Step as G H as1 G1 H1) (h : WJ K J as1 G1 H1 cls d H') : WJ K J as G H cls d H' := by
  obtain ⟨C, as', G', μ', gs, e, t, m, f, j⟩ := h
  exact ⟨C, as', G', μ', gs, e, s.trans t, m, f, j⟩
def TakesD (X : Cx) (J : JX) (as : List Addr) (G H : Hp) : Prop := Takes X fun cls d _ H' => WJ X.K J as G H cls d H'
theorem TakesD.step {X : Cx} {J : JX} {as as1 : List Addr} {G H G1 H1 : Hp} (t : TakesD X J as G H) (s : Step as G H as1 G1 H1) : TakesD X J as1 G1 H1 := Takes.imp t fun _ _ _ _ h => h.back s
theorem TakesD.imp {X : Cx} {J J' : JX} {as : List Addr} {G H : Hp} (t : TakesD X J as G H) (h : ∀ C fs μ, J' C fs μ → J C fs μ) : TakesD X J' as G H := Takes.imp t fun _ _ _ _ z => by
  obtain ⟨C, as', G', μ', gs, e, t, m, f, j⟩ := z
  exact ⟨C, as', G', μ', gs, e, t, m, f, h _ _ _ j⟩
theorem TakesD.none {X : Cx} {as : List Addr} {G H : Hp} : TakesD X J0 as G H := fun _ _ ⟨_, _, _, _, _, _, _, _, _, _, _, _, _, _, _, _, w⟩ => by
  obtain ⟨_, _, _, _, _, _, _, _, _, j⟩ := w
  exact j.elim

/-! ### the weakest readings -/
def wE (X : Cx) (e : Expr) : TE := fun σ H Q => ∀ pins s, Inv X pins σ H s → wpAny (model X.prog X.w) X.A (eval e X.env) (EP X pins σ Q) X.xe s
def wT (X : Cx) (e : Expr) : TT := fun σ H Q => ∀ pins s, Inv X pins σ H s → wpAny (model X.prog X.w) X.A (isTrue e X.env (eval e X.env)) (TP X pins σ Q) X.xe s
def wW (X : Cx) (e : Expr) : TT := fun σ H Q => ∀ whole pins s, Inv X pins σ H s → wpAny (model X.prog X.w) X.A (isTrue e X.env whole) (TP X pins σ Q) X.xe s
def wA (X : Cx) (es : List Expr) : TA := fun σ H Q => ∀ pos pins s, Inv X pins σ H s → wpAny (model X.prog X.w) X.A (spliced (backTo pos (starEach es X.env))) (AP X pins σ Q) X.xe s
def wS (X : Cx) (st : Stmt) : TS := fun D σ H => ∀ pins s, Inv X pins σ H s → wpAny (model X.prog X.w) X.A (exec st X.env) (SP X pins D) X.xe s
def wSs (X : Cx) (st : List Stmt) : TS := fun D σ H => ∀ pins s, Inv X pins σ H s → wpAny (model X.prog X.w) X.A (execs st X.env) (SP X pins D) X.xe s
theorem peW {X : Cx} {e : Expr} : PE X e (wE X e) := ⟨fun pins s _ _ _ I h => h pins s I⟩
theorem ptW {X : Cx} {e : Expr} : PT X e (wT X e) := ⟨fun pins s _ _ _ I h => h pins s I⟩
theorem pwW {X : Cx} {e : Expr} : PW X e (wW X e) := ⟨fun whole pins s _ _ _ I h => h whole pins s I⟩
theorem paW {X : Cx} {es : List Expr} : PA X es (wA X es) := ⟨fun pos pins s _ _ _ I h => h pos pins s I⟩
theorem psW {X : Cx} {st : Stmt} : PS X st (wS X st) := ⟨fun pins s _ _ _ I h => h pins s I⟩
theorem pssW {X : Cx} {st : List Stmt} : PSs X st (wSs X st) := ⟨fun pins s _ _ _ I h => h pins s I⟩
end DL
namespace L2
open PySem PySem.Spec PyProof.Rows DL
theorem PE.w {X : Cx} {e : Expr} {t : TE} (h : PE X e t) {σ : L2.St} {H : Hp} {Q : VK} (q : t σ H Q) : wE X e σ H Q := fun pins s I => h.run pins s σ H Q I q
theorem PT.w {X : Cx} {e : Expr} {t : TT} (h : PT X e t) {σ : L2.St} {H : Hp} {Q : Bool → Hp → Prop} (q : t σ H Q) : wT X e σ H Q := fun pins s I => h.run pins s σ H Q I q
theorem PW.w {X : Cx} {e : Expr} {t : TT} (h : PW X e t) {σ : L2.St} {H : Hp} {Q : Bool → Hp → Prop} (q : t σ H Q) : wW X e σ H Q := fun whole pins s I => h.run whole pins s σ H Q I q
theorem PA.w {X : Cx} {es : List Expr} {t : TA} (h : PA X es t) {σ : L2.St} {H : Hp} {Q : List V → Hp → Prop} (q : t σ H Q) : wA X es σ H Q := fun pos pins s I => h.run pos pins s σ H Q I q
theorem PS.w {X : Cx} {st : Stmt} {t : TS} (h : PS X st t) {σ : L2.St} {H : Hp} {D : Ends} (q : t D σ H) : wS X st D σ H := fun pins s I => h.run pins s σ H D I q
theorem PSs.w {X : Cx} {st : List Stmt} {t : TS} (h : PSs X st t) {σ : L2.St} {H : Hp} {D : Ends} (q : t D σ H) : wSs X st D σ H := fun pins s I => h.run pins s σ H D I q
end L2

/-! D1: judgements over data: expressions, tests, arguments. -/
namespace DL
open PySem PySem.Spec PyProof.Rows L2

/-! ### the memory's steps -/
section
variable {K : PySem.W.Frag} {as : List Addr} {G H : Hp} {μ : Mu}
theorem same_upd_none {H : Hp} {p : Addr} {o : HO} (h : H p = none) : Same H (upd H p o) := fun b u e => by
  rw [upd_ne (ne_of_none e h)]
  exact e
theorem same_upd2 {G H : Hp} {p : Addr} {o : HO} (s : Same G H) (h : H p = none) : Same (upd G p o) (upd H p o) := fun b u e => by
  by_cases hb : b = p
  · subst hb
    rw [upd_same] at e ⊢
    exact e
  · rw [upd_ne hb] at e ⊢
    exact s b u e
/-- a new object, frozen -/
theorem Mem.lay {p : Addr} {o : HO} (m : Mem K as G H μ) (hp : H p = none) : Mem K as (upd G p o) (upd H p o) μ := by
  have gp : G p = none := m.same.free hp
  have np : ∀ a, a ∈ as → a ≠ p := fun a h z => m.ne a h (by rw [z]; exact hp)
  refine ⟨same_upd2 m.same hp, m.len, fun k mo hk hg => ?_, m.nd, fun a h => by rw [upd_ne (np a h)]; exact m.ne a h⟩
  obtain ⟨a, o', h1, h2, h3, h4⟩ := m.cell k mo hk hg
  have ha := np a (List.mem_of_getElem? h1)
  exact ⟨a, o', h1, by rw [upd_ne ha]; exact h2, h3.mono (same_upd_none gp) (fun _ _ h => h), by rw [upd_ne ha]; exact h4⟩
theorem Step.lay {p : Addr} {o : HO} (m : Mem K as G H μ) (hp : H p = none) : Step as G H as (upd G p o) (upd H p o) := by
  have gp : G p = none := m.same.free hp
  refine ⟨⟨[], by simp⟩, same_upd_none gp, fun b u e _ => same_upd_none hp b u e, fun b e => ?_, fun b u e => ?_, fun a h => .inl h⟩
  · by_cases hb : b = p
    · subst hb; rw [upd_same]; simp
    · rw [upd_ne hb]; exact e
  · by_cases hb : b = p
    · subst hb; exact .inr (.inl hp)
    · rw [upd_ne hb] at e; exact .inl e
/-- a new object, not frozen, not a mutable one of ours either (an aid's own) -/
theorem Mem.aside {p : Addr} {o : HO} (m : Mem K as G H μ) (hp : H p = none) : Mem K as G (upd H p o) μ := by
  have np : ∀ a, a ∈ as → a ≠ p := fun a h z => m.ne a h (by rw [z]; exact hp)
  refine ⟨m.same.trans (same_upd_none hp), m.len, fun k mo hk hg => ?_, m.nd, fun a h => by rw [upd_ne (np a h)]; exact m.ne a h⟩
  obtain ⟨a, o', h1, h2, h3, h4⟩ := m.cell k mo hk hg
  have ha := np a (List.mem_of_getElem? h1)
  exact ⟨a, o', h1, by rw [upd_ne ha]; exact h2, h3, h4⟩
theorem Step.aside {p : Addr} {o : HO} (m : Mem K as G H μ) (hp : H p = none) : Step as G H as G (upd H p o) := by
  refine ⟨⟨[], by simp⟩, Same.refl _, fun b u e _ => same_upd_none hp b u e, fun b e => ?_, fun b u e => .inl e, fun a h => .inl h⟩
  by_cases hb : b = p
  · subst hb; rw [upd_same]; simp
  · rw [upd_ne hb]; exact e
/-- a new mutable object -/
theorem Mem.layM {p : Addr} {o : HO} {mo : Mo} (m : Mem K as G H μ) (hp : H p = none) (h : MoAt K as G o mo) : Mem K (as ++ [p]) G (upd H p o) (μ ++ [mo]) := by
  have gp : G p = none := m.same.free hp
  have np : ∀ a, a ∈ as → a ≠ p := fun a h z => m.ne a h (by rw [z]; exact hp)
  have ix : ∀ (k : Nat) (a : Addr), as[k]? = some a → (as ++ [p])[k]? = some a := fun k a h => by
    rw [List.getElem?_append_left (List.getElem?_eq_some_iff.mp h).1]; exact h
  refine ⟨m.same.trans (same_upd_none hp), by simp [m.len], fun k mo' hk hg => ?_, ?_, fun a ha => ?_⟩
  · by_cases hl : k < μ.length
    · rw [List.getElem?_append_left hl] at hk
      obtain ⟨a, o', h1, h2, h3, h4⟩ := m.cell k mo' hk hg
      have ha := np a (List.mem_of_getElem? h1)
      exact ⟨a, o', ix _ _ h1, by rw [upd_ne ha]; exact h2, h3.mono (Same.refl _) ix, h4⟩
    · have hk2 := (List.getElem?_eq_some_iff.mp hk).1
      simp at hk2
      have e : k = μ.length := by omega
      subst e
      simp at hk
      subst hk
      exact ⟨p, o, by rw [← m.len]; simp, upd_same, h.mono (Same.refl _) ix, gp⟩
  · rw [List.nodup_append]
    refine ⟨m.nd, by simp, fun a ha b hb => ?_⟩
    have : b = p := by simpa using hb
    subst this
    exact np a ha
  · rcases List.mem_append.mp ha with h | h
    · rw [upd_ne (np a h)]; exact m.ne a h
    · have : a = p := by simpa using h
      subst this
      rw [upd_same]; simp
theorem Step.layM {p : Addr} {o : HO} (m : Mem K as G H μ) (hp : H p = none) : Step as G H (as ++ [p]) G (upd H p o) := by
  refine ⟨⟨[p], rfl⟩, Same.refl _, fun b u e _ => same_upd_none hp b u e, fun b e => ?_, fun b u e => .inl e, fun a h => ?_⟩
  · by_cases hb : b = p
    · subst hb; rw [upd_same]; simp
    · rw [upd_ne hb]; exact e
  · rcases List.mem_append.mp h with h | h
    · exact .inl h
    · have : a = p := by simpa using h
      subst this
      exact .inr hp
/-- a mutable object changed -/
theorem Mem.put {k : Nat} {a : Addr} {o : HO} {mo m0 : Mo} (m : Mem K as G H μ) (hk : as[k]? = some a) (h0 : μ[k]? = some m0) (hg0 : m0 ≠ .gone) (h : MoAt K as G o mo) : Mem K as G (upd H a o) (μ.set k mo) := by
  obtain ⟨a0, o0, e1, e2, _, e4⟩ := m.cell k m0 h0 hg0
  rw [hk] at e1; cases e1
  refine ⟨fun b u e => ?_, by simp [m.len], fun j mo' hj hg => ?_, m.nd, fun b hb => ?_⟩
  · have : b ≠ a := fun z => by rw [z, e4] at e; cases e
    rw [upd_ne this]; exact m.same b u e
  · by_cases hjk : k = j
    · subst hjk
      have hl := (List.getElem?_eq_some_iff.mp h0).1
      rw [List.getElem?_set_self hl] at hj
      cases hj
      exact ⟨a, o, hk, upd_same, h, e4⟩
    · rw [List.getElem?_set_ne hjk] at hj
      obtain ⟨b, o', h1, h2, h3, h4⟩ := m.cell j mo' hj hg
      have : b ≠ a := fun z => hjk (by
        subst z
        obtain ⟨l1, f1⟩ := List.getElem?_eq_some_iff.mp hk
        obtain ⟨l2, f2⟩ := List.getElem?_eq_some_iff.mp h1
        exact (List.getElem_inj m.nd).mp (f1.trans f2.symm))
      exact ⟨b, o', h1, by rw [upd_ne this]; exact h2, h3, h4⟩
  · by_cases hb' : b = a
    · subst hb'; rw [upd_same]; simp
    · rw [upd_ne hb']; exact m.ne b hb
theorem Step.put {k : Nat} {a : Addr} {o : HO} (m : Mem K as G H μ) (hk : as[k]? = some a) : Step as G H as G (upd H a o) := by
  refine ⟨⟨[], by simp⟩, Same.refl _, fun b u e n => ?_, fun b e => ?_, fun b u e => .inl e, fun a h => .inl h⟩
  · rw [upd_ne (fun z => n (by rw [z]; exact List.mem_of_getElem? hk))]; exact e
  · by_cases hb : b = a
    · subst hb; rw [upd_same]; simp
    · rw [upd_ne hb]; exact e
/-- a mutable object is frozen -/
theorem Mem.freeze {k : Nat} {a : Addr} {o : HO} (m : Mem K as G H μ) (hk : as[k]? = some a) (ho : H a = some o) (hg : G a = none) : Mem K as (upd G a o) H (μ.set k .gone) := by
  refine ⟨fun b u e => ?_, by simp [m.len], fun j mo hj hgo => ?_, m.nd, m.ne⟩
  · by_cases hb : b = a
    · subst hb; rw [upd_same] at e; cases e; exact ho
    · rw [upd_ne hb] at e; exact m.same b u e
  · by_cases hjk : k = j
    · subst hjk
      have hl : k < μ.length := by rw [← m.len]; exact (List.getElem?_eq_some_iff.mp hk).1
      rw [List.getElem?_set_self hl] at hj
      cases hj
      exact absurd rfl hgo
    · rw [List.getElem?_set_ne hjk] at hj
      obtain ⟨b, o', h1, h2, h3, h4⟩ := m.cell j mo hj hgo
      have : b ≠ a := fun z => hjk (by
        subst z
        obtain ⟨l1, f1⟩ := List.getElem?_eq_some_iff.mp hk
        obtain ⟨l2, f2⟩ := List.getElem?_eq_some_iff.mp h1
        exact (List.getElem_inj m.nd).mp (f1.trans f2.symm))
      exact ⟨b, o', h1, h2, h3.mono (same_upd_none hg) (fun _ _ h => h), by rw [upd_ne this]; exact h4⟩
theorem Step.freeze {k : Nat} {a : Addr} {o : HO} (m : Mem K as G H μ) (hk : as[k]? = some a) (hg : G a = none) : Step as G H as (upd G a o) H := by
  refine ⟨⟨[], by simp⟩, same_upd_none hg, fun b u e _ => e, fun b e => e, fun b u e => ?_, fun a h => .inl h⟩
  by_cases hb : b = a
  · subst hb; exact .inr (.inr (List.mem_of_getElem? hk))
  · rw [upd_ne hb] at e; exact .inl e
end

/-! ### the judgements -/
structure Sx (X : Cx) (J : JX) (as : List Addr) (G H : Hp) (σ : L2.St) (ρ : Env') (μ : Mu) : Prop where
  mem : Mem X.K as G H μ
  sl : Slots X.K as G σ ρ
  tk : TakesD X J as G H
theorem Sx.step {X : Cx} {J : JX} {as as' : List Addr} {G H G' H' : Hp} {σ : L2.St} {ρ : Env'} {μ μ' : Mu} (S : Sx X J as G H σ ρ μ) (s : Step as G H as' G' H') (m : Mem X.K as' G' H' μ') : Sx X J as' G' H' σ ρ μ' := ⟨m, S.sl.mono s, S.tk.step s⟩
/-- what stands behind an expression -/
def AfE (K : PySem.W.Frag) (as : List Addr) (G H : Hp) (Q : Dt → Mu → Prop) : VK := fun v H' => ∃ d μ' as' G', Step as G H as' G' H' ∧ Mem K as' G' H' μ' ∧ At K as' G' v d ∧ Q d μ'
def AfT (K : PySem.W.Frag) (as : List Addr) (G H : Hp) (Q : Bool → Mu → Prop) : Bool → Hp → Prop := fun b H' => ∃ μ' as' G', Step as G H as' G' H' ∧ Mem K as' G' H' μ' ∧ Q b μ'
def AfA (K : PySem.W.Frag) (as : List Addr) (G H : Hp) (Q : List Dt → Mu → Prop) : List V → Hp → Prop := fun vs H' => ∃ ds μ' as' G', Step as G H as' G' H' ∧ Mem K as' G' H' μ' ∧ Ats K as' G' vs ds ∧ Q ds μ'
structure dE (X : Cx) (J : JX) (e : Expr) (ρ : Env') (μ : Mu) (Q : Dt → Mu → Prop) : Prop where
  go : ∀ as G H σ, Sx X J as G H σ ρ μ → wE X e σ H (AfE X.K as G H Q)
instance {X : Cx} {J : JX} {e : Expr} {ρ : Env'} {μ : Mu} {Q : Dt → Mu → Prop} : CoeFun (dE X J e ρ μ Q) (fun _ => ∀ as G H σ, Sx X J as G H σ ρ μ → wE X e σ H (AfE X.K as G H Q)) := ⟨dE.go⟩
structure dT (X : Cx) (J : JX) (e : Expr) (ρ : Env') (μ : Mu) (Q : Bool → Mu → Prop) : Prop where
  go : ∀ as G H σ, Sx X J as G H σ ρ μ → wT X e σ H (AfT X.K as G H Q)
instance {X : Cx} {J : JX} {e : Expr} {ρ : Env'} {μ : Mu} {Q : Bool → Mu → Prop} : CoeFun (dT X J e ρ μ Q) (fun _ => ∀ as G H σ, Sx X J as G H σ ρ μ → wT X e σ H (AfT X.K as G H Q)) := ⟨dT.go⟩
structure dW (X : Cx) (J : JX) (e : Expr) (ρ : Env') (μ : Mu) (Q : Bool → Mu → Prop) : Prop where
  go : ∀ as G H σ, Sx X J as G H σ ρ μ → wW X e σ H (AfT X.K as G H Q)
instance {X : Cx} {J : JX} {e : Expr} {ρ : Env'} {μ : Mu} {Q : Bool → Mu → Prop} : CoeFun (dW X J e ρ μ Q) (fun _ => ∀ as G H σ, Sx X J as G H σ ρ μ → wW X e σ H (AfT X.K as G H Q)) := ⟨dW.go⟩
structure dA (X : Cx) (J : JX) (es : List Expr) (ρ : Env') (μ : Mu) (Q : List Dt → Mu → Prop) : Prop where
  go : ∀ as G H σ, Sx X J as G H σ ρ μ → wA X es σ H (AfA X.K as G H Q)
instance {X : Cx} {J : JX} {es : List Expr} {ρ : Env'} {μ : Mu} {Q : List Dt → Mu → Prop} : CoeFun (dA X J es ρ μ Q) (fun _ => ∀ as G H σ, Sx X J as G H σ ρ μ → wA X es σ H (AfA X.K as G H Q)) := ⟨dA.go⟩
section
variable {X : Cx} {J : JX} {e a b c : Expr} {es : List Expr} {ρ : Env'} {μ : Mu} {σ : L2.St} {H : Hp} {pos : Pos}
theorem wE_mono {Q Q' : VK} (h : wE X e σ H Q) (f : ∀ v H', Q v H' → Q' v H') : wE X e σ H Q' := fun pins s I => thn (h pins s I) fun _ _ ⟨v, H', I', r, q⟩ => ⟨v, H', I', r, f v H' q⟩
theorem wT_mono {Q Q' : Bool → Hp → Prop} (h : wT X e σ H Q) (f : ∀ v H', Q v H' → Q' v H') : wT X e σ H Q' := fun pins s I => thn (h pins s I) fun b _ ⟨H', I', q⟩ => ⟨H', I', f b H' q⟩
theorem wW_mono {Q Q' : Bool → Hp → Prop} (h : wW X e σ H Q) (f : ∀ v H', Q v H' → Q' v H') : wW X e σ H Q' := fun w pins s I => thn (h w pins s I) fun b _ ⟨H', I', q⟩ => ⟨H', I', f b H' q⟩
theorem wA_mono {Q Q' : List V → Hp → Prop} (h : wA X es σ H Q) (f : ∀ v H', Q v H' → Q' v H') : wA X es σ H Q' := fun p pins s I => thn (h p pins s I) fun _ _ ⟨v, H', I', r, q⟩ => ⟨v, H', I', r, f v H' q⟩
theorem AfE.back {K : PySem.W.Frag} {as as1 : List Addr} {G H G1 H1 : Hp} {Q : Dt → Mu → Prop} {v : V} {H' : Hp} (s : Step as G H as1 G1 H1) (h : AfE K as1 G1 H1 Q v H') : AfE K as G H Q v H' := by
  obtain ⟨d, μ', as', G', t, m, a, q⟩ := h
  exact ⟨d, μ', as', G', s.trans t, m, a, q⟩
theorem AfT.back {K : PySem.W.Frag} {as as1 : List Addr} {G H G1 H1 : Hp} {Q : Bool → Mu → Prop} {v : Bool} {H' : Hp} (s : Step as G H as1 G1 H1) (h : AfT K as1 G1 H1 Q v H') : AfT K as G H Q v H' := by
  obtain ⟨μ', as', G', t, m, q⟩ := h
  exact ⟨μ', as', G', s.trans t, m, q⟩
theorem AfA.back {K : PySem.W.Frag} {as as1 : List Addr} {G H G1 H1 : Hp} {Q : List Dt → Mu → Prop} {v : List V} {H' : Hp} (s : Step as G H as1 G1 H1) (h : AfA K as1 G1 H1 Q v H') : AfA K as G H Q v H' := by
  obtain ⟨d, μ', as', G', t, m, a, q⟩ := h
  exact ⟨d, μ', as', G', s.trans t, m, a, q⟩
theorem dE.imp {Q Q' : Dt → Mu → Prop} (h : dE X J e ρ μ Q) (f : ∀ d μ', Q d μ' → Q' d μ') : dE X J e ρ μ Q' := .mk fun as G H σ S => wE_mono (h as G H σ S) fun _ _ ⟨d, μ', as', G', t, m, a, q⟩ => ⟨d, μ', as', G', t, m, a, f _ _ q⟩
theorem dT.imp {Q Q' : Bool → Mu → Prop} (h : dT X J e ρ μ Q) (f : ∀ d μ', Q d μ' → Q' d μ') : dT X J e ρ μ Q' := .mk fun as G H σ S => wT_mono (h as G H σ S) fun _ _ ⟨μ', as', G', t, m, q⟩ => ⟨μ', as', G', t, m, f _ _ q⟩
theorem dA.imp {Q Q' : List Dt → Mu → Prop} (h : dA X J es ρ μ Q) (f : ∀ d μ', Q d μ' → Q' d μ') : dA X J es ρ μ Q' := .mk fun as G H σ S => wA_mono (h as G H σ S) fun _ _ ⟨d, μ', as', G', t, m, a, q⟩ => ⟨d, μ', as', G', t, m, a, f _ _ q⟩
/-- a value that is there at once -/
theorem AfE.now {K : PySem.W.Frag} {as : List Addr} {G H : Hp} {Q : Dt → Mu → Prop} {v : V} {d : Dt} (m : Mem K as G H μ) (a : At K as G v d) (q : Q d μ) : AfE K as G H Q v H := ⟨d, μ, as, G, .refl _ _ _, m, a, q⟩

theorem dE_var (i : Nat) {x : Str} {d : Dt} {Q : Dt → Mu → Prop} (hN : X.N[i]? = some x) (he : ρ[i]? = some (some d)) (q : Q d μ)
    (hv : Vis X.env.scope x := by first | exact Or.inl rfl | exact Or.inr (Or.inl rfl) | exact Or.inr (Or.inr rfl)) (hd : (x == ("__debug__" : Str)) = false := by decide) (hcd : (x == ("__classdict__" : Str)) = false := by decide) : dE X J (.Name x pos) ρ μ Q := .mk fun as G H σ S => by
  obtain ⟨v, e1, a1⟩ := S.sl.at_ i d he
  exact (pe_var hN hv hd hcd).w ⟨v, e1, .now S.mem a1 q⟩
theorem dE_int {i : Int} {j} {Q : Dt → Mu → Prop} (q : Q (.int i) μ) : dE X J (.Constant (.int i) j pos) ρ μ Q := .mk fun _ _ _ _ S => pe_int.w (AfE.now S.mem (.int i) q)
theorem dE_bl {b : Bool} {j} {Q : Dt → Mu → Prop} (q : Q (.bl b) μ) : dE X J (.Constant (.bool b) j pos) ρ μ Q := .mk fun _ _ _ _ S => pe_bl.w (AfE.now S.mem (.bl b) q)
theorem dE_non {j} {Q : Dt → Mu → Prop} (q : Q .non μ) : dE X J (.Constant .none j pos) ρ μ Q := .mk fun _ _ _ _ S => pe_non.w (AfE.now S.mem .non q)
theorem dE_str {x : Str} {j} {Q : Dt → Mu → Prop} (q : Q (.str x) μ) : dE X J (.Constant (.str x) j pos) ρ μ Q := .mk fun _ _ _ _ S => pe_str.w (AfE.now S.mem (.str x) q)
/-- a constant of the module -/
theorem dE_glob {x : Str} {v : V} {u : Value} {Q : Dt → Mu → Prop} (hm : X.mg x = some u) (r : RelV v u) (q : Q (.val v) μ) (hg : Gl X x := by rfl) (hd : (x == ("__debug__" : Str)) = false := by decide) : dE X J (.Name x pos) ρ μ Q := .mk fun _ _ _ _ S =>
  (pe_glob hg hm r hd).w (AfE.now S.mem (.val v) q)
theorem dE_globI {x : Str} {i : Int} {t : Tok} {Q : Dt → Mu → Prop} (hm : X.mg x = some (.int i t)) (q : Q (.int i) μ) (hg : Gl X x := by rfl) (hd : (x == ("__debug__" : Str)) = false := by decide) : dE X J (.Name x pos) ρ μ Q := .mk fun _ _ _ _ S =>
  (pe_glob (v := .int i) hg hm ⟨_, rfl⟩ hd).w (AfE.now S.mem (.int i) q)

/-! ### operators -/
/-- a reading of values told by data -/
def RRel (K : PySem.W.Frag) (r : R2) (RD : Dt → Dt → Mu → (Dt → Mu → Prop) → Prop) : Prop :=
  ∀ (as : List Addr) (G H : Hp) (μ : Mu) (x y : V) (d e : Dt) (Q : Dt → Mu → Prop) (Q' : VK), Mem K as G H μ → At K as G x d → At K as G y e → RD d e μ Q → (∀ v H', AfE K as G H Q v H' → Q' v H') → r x y H Q'
structure OpD (X : Cx) (f : Value → Value → Sem Value) (RD : Dt → Dt → Mu → (Dt → Mu → Prop) → Prop) : Prop where
  ex : ∃ r, OpR X f r ∧ RRel X.K r RD
theorem two {Q : Dt → Dt → Mu → Prop} {as : List Addr} {G : Hp} (S : Sx X J as G H σ ρ μ) (h : dE X J a ρ μ fun d μ1 => dE X J b ρ μ1 fun e μ2 => Q d e μ2) {R : V → V → Hp → Prop}
    (f : ∀ x y d e μ2 as2 G2 H2, Step as G H as2 G2 H2 → Mem X.K as2 G2 H2 μ2 → At X.K as2 G2 x d → At X.K as2 G2 y e → Q d e μ2 → R x y H2) : wE X a σ H fun x H1 => wE X b σ H1 fun y H2 => R x y H2 :=
  wE_mono (h as G H σ S) fun x H1 ⟨d, μ1, as1, G1, s1, m1, a1, q1⟩ => wE_mono (q1 as1 G1 H1 σ (S.step s1 m1)) fun y H2 ⟨e, μ2, as2, G2, s2, m2, a2, q2⟩ =>
    f x y d e μ2 as2 G2 H2 (s1.trans s2) m2 (a1.mono s2.gg s2.ix) a2 q2
theorem dE_bin {op : Operator} {RD : Dt → Dt → Mu → (Dt → Mu → Prop) → Prop} {Q : Dt → Mu → Prop} (ho : OpD X (binaryOp op) RD) (h : dE X J a ρ μ fun d μ1 => dE X J b ρ μ1 fun e μ2 => RD d e μ2 Q) : dE X J (.BinOp a op b pos) ρ μ Q := .mk fun as G H σ S => by
  obtain ⟨r, h1, h2⟩ := ho.ex
  refine (pe_op h1 peW peW).w ?_
  show wE X a σ H fun x H1 => wE X b σ H1 fun y H2 => r x y H2 _
  exact two S h fun x y d e μ2 as2 G2 H2 s m a1 a2 q => h2 as2 G2 H2 μ2 x y d e _ _ m a1 a2 q fun v H' z => z.back s
theorem dE_cmp {op : CmpOp} {RD : Dt → Dt → Mu → (Dt → Mu → Prop) → Prop} {Q : Dt → Mu → Prop} (ho : OpD X (compareOp op) RD) (h : dE X J a ρ μ fun d μ1 => dE X J b ρ μ1 fun e μ2 => RD d e μ2 Q) (hm : behindInMarks op b = false := by first | exact nomark _ | rfl) :
    dE X J (.Compare a [op] [b] pos) ρ μ Q := .mk fun as G H σ S => by
  obtain ⟨r, h1, h2⟩ := ho.ex
  refine (pe_cmpR h1 peW peW hm).w ?_
  show wE X a σ H fun x H1 => wE X b σ H1 fun y H2 => r x y H2 _
  exact two S h fun x y d e μ2 as2 G2 H2 s m a1 a2 q => h2 as2 G2 H2 μ2 x y d e _ _ m a1 a2 q fun v H' z => z.back s
/-- a bool's way -/
def QB (Q : Bool → Mu → Prop) : Dt → Mu → Prop := fun d μ => ∃ k, d = .bl k ∧ Q k μ
theorem AfE.bool {K : PySem.W.Frag} {as : List Addr} {G H : Hp} {Q : Bool → Mu → Prop} {v : V} {H' : Hp} (h : AfE K as G H (QB Q) v H') : ∃ k, v = .bl k ∧ AfT K as G H Q k H' := by
  obtain ⟨d, μ', as', G', s, m, a, k, rfl, q⟩ := h
  cases a
  exact ⟨k, rfl, μ', as', G', s, m, q⟩
theorem dT_cmp {op : CmpOp} {RD : Dt → Dt → Mu → (Dt → Mu → Prop) → Prop} {Q : Bool → Mu → Prop} (ho : OpD X (compareOp op) RD) (h : dE X J a ρ μ fun d μ1 => dE X J b ρ μ1 fun e μ2 => RD d e μ2 (QB Q)) (hm : behindInMarks op b = false := by first | exact nomark _ | rfl) :
    dT X J (.Compare a [op] [b] pos) ρ μ Q := .mk fun as G H σ S => by
  obtain ⟨r, h1, h2⟩ := ho.ex
  refine (pt_cmpR h1 peW peW hm).w ?_
  show wE X a σ H fun x H1 => wE X b σ H1 fun y H2 => r x y H2 _
  exact two S h fun x y d e μ2 as2 G2 H2 s m a1 a2 q => h2 as2 G2 H2 μ2 x y d e _ _ m a1 a2 q fun v H' z => by
    obtain ⟨k, e, t⟩ := z.bool
    exact ⟨k, e, t.back s⟩
theorem dE_chain {op op' : CmpOp} {RD RD' : Dt → Dt → Mu → (Dt → Mu → Prop) → Prop} {Q : Dt → Mu → Prop} (ho : OpD X (compareOp op) RD) (ho' : OpD X (compareOp op') RD')
    (h : dE X J a ρ μ fun d μ1 => dE X J b ρ μ1 fun e μ2 => RD d e μ2 (QB fun k μ3 => if k = true then dE X J c ρ μ3 fun f μ4 => RD' e f μ4 Q else Q (.bl false) μ3)) (hm : lastMarks [op, op'] [b, c] = false := by with_unfolding_all rfl) :
    dE X J (.Compare a [op, op'] [b, c] pos) ρ μ Q := .mk fun as G H σ S => by
  obtain ⟨r, h1, h2⟩ := ho.ex
  obtain ⟨r', h1', h2'⟩ := ho'.ex
  refine (pe_chain h1 h1' peW peW peW hm).w ?_
  show wE X a σ H fun x H1 => wE X b σ H1 fun y H2 => r x y H2 fun z H3 => ∃ k, z = .bl k ∧ (if k = true then wE X c σ H3 fun w' H4 => r' y w' H4 _ else _)
  refine two S h fun x y d e μ2 as2 G2 H2 s m a1 a2 q => h2 as2 G2 H2 μ2 x y d e _ _ m a1 a2 q fun v H' z => ?_
  obtain ⟨k, e1, μ3, as3, G3, s3, m3, q3⟩ := z.bool
  refine ⟨k, e1, ?_⟩
  cases k with
  | false =>
    rw [if_neg Bool.false_ne_true] at q3 ⊢
    exact ⟨.bl false, μ3, as3, G3, s.trans s3, m3, .bl false, q3⟩
  | true =>
    rw [if_pos rfl] at q3 ⊢
    refine wE_mono (q3 as3 G3 H' σ (S.step (s.trans s3) m3)) fun w H4 ⟨f, μ4, as4, G4, s4, m4, a4, q4⟩ => h2' as4 G4 H4 μ4 y w e f _ _ m4 ((a2.mono s3.gg s3.ix).mono s4.gg s4.ix) a4 q4 fun v H5 z5 => z5.back ((s.trans s3).trans s4)
theorem dT_chain {op op' : CmpOp} {RD RD' : Dt → Dt → Mu → (Dt → Mu → Prop) → Prop} {Q : Bool → Mu → Prop} (ho : OpD X (compareOp op) RD) (ho' : OpD X (compareOp op') RD')
    (h : dE X J a ρ μ fun d μ1 => dE X J b ρ μ1 fun e μ2 => RD d e μ2 (QB fun k μ3 => if k = true then dE X J c ρ μ3 fun f μ4 => RD' e f μ4 (QB Q) else Q false μ3)) (hm : lastMarks [op, op'] [b, c] = false := by with_unfolding_all rfl) :
    dT X J (.Compare a [op, op'] [b, c] pos) ρ μ Q := .mk fun as G H σ S => by
  obtain ⟨r, h1, h2⟩ := ho.ex
  obtain ⟨r', h1', h2'⟩ := ho'.ex
  refine (pt_chain h1 h1' peW peW peW hm).w ?_
  show wE X a σ H fun x H1 => wE X b σ H1 fun y H2 => r x y H2 fun z H3 => ∃ k, z = .bl k ∧ (if k = true then wE X c σ H3 fun w' H4 => r' y w' H4 _ else _)
  refine two S h fun x y d e μ2 as2 G2 H2 s m a1 a2 q => h2 as2 G2 H2 μ2 x y d e _ _ m a1 a2 q fun v H' z => ?_
  obtain ⟨k, e1, μ3, as3, G3, s3, m3, q3⟩ := z.bool
  refine ⟨k, e1, ?_⟩
  cases k with
  | false =>
    rw [if_neg Bool.false_ne_true] at q3 ⊢
    exact ⟨false, rfl, μ3, as3, G3, s.trans s3, m3, q3⟩
  | true =>
    rw [if_pos rfl] at q3 ⊢
    refine wE_mono (q3 as3 G3 H' σ (S.step (s.trans s3) m3)) fun w H4 ⟨f, μ4, as4, G4, s4, m4, a4, q4⟩ => h2' as4 G4 H4 μ4 y w e f _ _ m4 ((a2.mono s3.gg s3.ix).mono s4.gg s4.ix) a4 q4 fun v H5 z5 => ?_
    obtain ⟨k', e', t⟩ := z5.bool
    exact ⟨k', e', t.back ((s.trans s3).trans s4)⟩
def rdI (C : Int → Int → Prop) (g : Int → Int → Dt) : Dt → Dt → Mu → (Dt → Mu → Prop) → Prop := fun d e μ Q => ∃ i j, d = .int i ∧ e = .int j ∧ C i j ∧ Q (g i j) μ
def rdI0 (g : Int → Int → Dt) : Dt → Dt → Mu → (Dt → Mu → Prop) → Prop := fun d e μ Q => ∃ i j, d = .int i ∧ e = .int j ∧ Q (g i j) μ
theorem rrI {K : PySem.W.Frag} {C : Int → Int → Prop} {g : Int → Int → Int} : RRel K (rI C fun i j => .int (g i j)) (rdI C fun i j => .int (g i j)) := by
  intro as G H μ x y d e Q Q' m a1 a2 h f
  obtain ⟨i, j, rfl, rfl, hc, q⟩ := h
  cases a1
  cases a2
  exact ⟨i, j, rfl, rfl, hc, f _ _ (.now m (.int _) q)⟩
theorem rrI0 {K : PySem.W.Frag} {g : Int → Int → Int} : RRel K (rI0 fun i j => .int (g i j)) (rdI0 fun i j => .int (g i j)) := by
  intro as G H μ x y d e Q Q' m a1 a2 h f
  obtain ⟨i, j, rfl, rfl, q⟩ := h
  cases a1
  cases a2
  exact ⟨i, j, rfl, rfl, f _ _ (.now m (.int _) q)⟩
theorem rrB0 {K : PySem.W.Frag} {g : Int → Int → Bool} : RRel K (rI0 fun i j => .bl (g i j)) (rdI0 fun i j => .bl (g i j)) := by
  intro as G H μ x y d e Q Q' m a1 a2 h f
  obtain ⟨i, j, rfl, rfl, q⟩ := h
  cases a1
  cases a2
  exact ⟨i, j, rfl, rfl, f _ _ (.now m (.bl _) q)⟩
theorem od_add : OpD X (binaryOp .Add) (rdI0 fun i j => .int (i + j)) := ⟨_, op_add, rrI0⟩
theorem od_sub : OpD X (binaryOp .Sub) (rdI0 fun i j => .int (i - j)) := ⟨_, op_sub, rrI0⟩
theorem od_mul : OpD X (binaryOp .Mult) (rdI CMul fun i j => .int (i * j)) := ⟨_, op_mul, rrI⟩
theorem od_fdiv : OpD X (binaryOp .FloorDiv) (rdI CDiv fun i j => .int (i / j)) := ⟨_, op_fdiv, rrI⟩
theorem od_fdivN : OpD X (binaryOp .FloorDiv) (rdI CDivN fun i j => .int (i.fdiv j)) := ⟨_, op_fdivN, rrI⟩
theorem od_mod : OpD X (binaryOp .Mod) (rdI (fun _ j => 0 < j) fun i j => .int (i % j)) := ⟨_, op_mod, rrI⟩
theorem od_modN : OpD X (binaryOp .Mod) (rdI (fun _ j => j ≠ 0) fun i j => .int (i.fmod j)) := ⟨_, op_modN, rrI⟩
theorem od_pow : OpD X (binaryOp .Pow) (rdI CPow fun i j => .int (i ^ j.toNat)) := ⟨_, op_pow, rrI⟩
theorem od_shl : OpD X (binaryOp .LShift) (rdI CPow fun i j => .int (i * 2 ^ j.toNat)) := ⟨_, op_shl, rrI⟩
theorem od_shr : OpD X (binaryOp .RShift) (rdI (fun _ j => 0 ≤ j) fun i j => .int (i / 2 ^ j.toNat)) := ⟨_, op_shr, rrI⟩
theorem od_and : OpD X (binaryOp .BitAnd) (rdI0 fun i j => .int (Builtin.bitAnd i j)) := ⟨_, op_and, rrI0⟩
theorem od_lt : OpD X (compareOp .Lt) (rdI0 fun i j => .bl (decide (i < j))) := ⟨_, op_lt, rrB0⟩
theorem od_le : OpD X (compareOp .LtE) (rdI0 fun i j => .bl (decide (i ≤ j))) := ⟨_, op_le, rrB0⟩
theorem od_gt : OpD X (compareOp .Gt) (rdI0 fun i j => .bl (decide (j < i))) := ⟨_, op_gt, rrB0⟩
theorem od_ge : OpD X (compareOp .GtE) (rdI0 fun i j => .bl (decide (j ≤ i))) := ⟨_, op_ge, rrB0⟩
/-- == of scalars of one kind -/
def flatEq : Dt → Dt → Option Bool
  | .int i, .int j => some (i == j)
  | .bl i, .bl j => some (i == j)
  | .str i, .str j => some (i == j)
  | .non, .non => some true
  | .non, .int _ | .int _, .non | .non, .bl _ | .bl _, .non | .non, .str _ | .str _, .non | .int _, .str _ | .str _, .int _ | .bl _, .str _ | .str _, .bl _ => some false
  | _, _ => none
theorem od_eqF : OpD X (compareOp .Eq) (fun d e μ Q => ∃ b, flatEq d e = some b ∧ Q (.bl b) μ) := by
  refine ⟨_, op_eq, ?_⟩
  intro as G H μ x y d e Q Q' m a1 a2 h f
  obtain ⟨b, hb, q⟩ := h
  cases a1 <;> cases a2 <;> simp [flatEq] at hb <;> subst hb <;> refine ⟨rfl, f _ _ ?_⟩ <;> first
    | (rw [dec_int]; exact .now m (.bl _) q)
    | (rw [dec_bl]; exact .now m (.bl _) q)
    | (rw [dec_str]; exact .now m (.bl _) q)
    | exact .now m (.bl _) q
theorem od_neF : OpD X (compareOp .NotEq) (fun d e μ Q => ∃ b, flatEq d e = some b ∧ Q (.bl (!b)) μ) := by
  refine ⟨_, op_ne, ?_⟩
  intro as G H μ x y d e Q Q' m a1 a2 h f
  obtain ⟨b, hb, q⟩ := h
  cases a1 <;> cases a2 <;> simp [flatEq] at hb <;> subst hb <;> refine ⟨rfl, f _ _ ?_⟩ <;> first
    | (rw [dec_int]; exact .now m (.bl _) q)
    | (rw [dec_bl]; exact .now m (.bl _) q)
    | (rw [dec_str]; exact .now m (.bl _) q)
    | exact .now m (.bl _) q
/-- is None -/
def isNon : Dt → Bool
  | .non => true
  | _ => false
theorem od_isN : OpD X (compareOp .Is) (fun d e μ Q => e = .non ∧ (∀ v, d ≠ .val v) ∧ Q (.bl (isNon d)) μ) := by
  refine ⟨_, op_isN, ?_⟩
  intro as G H μ x y d e Q Q' m a1 a2 h f
  obtain ⟨rfl, hv, q⟩ := h
  cases a2
  refine ⟨rfl, f _ _ ?_⟩
  cases a1 <;> first
    | exact absurd rfl (hv _)
    | exact .now m (.bl _) q
theorem od_notN : OpD X (compareOp .IsNot) (fun d e μ Q => e = .non ∧ (∀ v, d ≠ .val v) ∧ Q (.bl (!isNon d)) μ) := by
  refine ⟨_, op_notN, ?_⟩
  intro as G H μ x y d e Q Q' m a1 a2 h f
  obtain ⟨rfl, hv, q⟩ := h
  cases a2
  refine ⟨rfl, f _ _ ?_⟩
  cases a1 <;> first
    | exact absurd rfl (hv _)
    | exact .now m (.bl _) q
theorem dE_neg {Q : Dt → Mu → Prop} (h : dE X J a ρ μ fun d μ1 => ∃ i, d = .int i ∧ Q (.int (-i)) μ1) : dE X J (.UnaryOp .USub a pos) ρ μ Q := .mk fun as G H σ S => by
  refine (pe_un un_neg peW).w ?_
  show wE X a σ H fun x H1 => rU _ x H1 _
  refine wE_mono (h as G H σ S) fun x H1 ⟨d, μ1, as1, G1, s1, m1, a1, i, e, q⟩ => ?_
  subst e
  cases a1
  exact ⟨i, rfl, .int (-i), μ1, as1, G1, s1, m1, .int _, q⟩

/-! ### tests and truth -/
theorem dT_val {Q : Bool → Mu → Prop} (h : dE X J e ρ μ (QB Q)) (he : ∀ whole, isTrue e X.env whole = (do let v ← whole; standAt e.pos; holding [v] (truthy v)) := by intro _; rfl) : dT X J e ρ μ Q := .mk fun as G H σ S => by
  refine (pt_val peW he).w ?_
  show wE X e σ H fun x H1 => ∃ c, x = .bl c ∧ _
  exact wE_mono (h as G H σ S) fun x H1 z => z.bool
/-- a value's truth -/
def truD : Dt → Option Bool
  | .non => some false
  | .bl b => some b
  | .int i => some (i != 0)
  | .lst xs => some (!xs.isEmpty)
  | .tup xs => some (!xs.isEmpty)
  | _ => none
theorem Ats.empty {K : PySem.W.Frag} {as : List Addr} {G : Hp} {xs : List V} {ds : List Dt} (h : Ats K as G xs ds) : xs.isEmpty = ds.isEmpty := by cases h <;> rfl
theorem dT_truth {Q : Bool → Mu → Prop} (h : dE X J e ρ μ fun d μ1 => ∃ b, truD d = some b ∧ Q b μ1) (he : ∀ whole, isTrue e X.env whole = (do let v ← whole; standAt e.pos; holding [v] (truthy v)) := by intro _; rfl) : dT X J e ρ μ Q := .mk fun as G H σ S => by
  refine (pt_truth peW he).w ?_
  show wE X e σ H fun x H1 => ∃ k, TruV X.K x H1 k ∧ _
  refine wE_mono (h as G H σ S) fun x H1 ⟨d, μ1, as1, G1, s1, m1, a1, b, e, q⟩ => ?_
  refine ⟨b, ?_, μ1, as1, G1, s1, m1, q⟩
  cases a1 <;> (try simp only [truD, reduceCtorEq] at e) <;> (try (simp only [truD, Option.some.injEq] at e; subst e))
  · rfl
  · rfl
  · rfl
  · rename_i h1 h2 _
    exact .inl ⟨_, m1.same.seq h1, by rw [h2.empty]⟩
  · rename_i h1 h2 _
    exact .inr (.inl ⟨_, Same.tup m1.same h1, by rw [h2.empty]⟩)
theorem dT_not {Q : Bool → Mu → Prop} (h : dT X J a ρ μ fun b μ1 => Q (!b) μ1) : dT X J (.UnaryOp .Not a pos) ρ μ Q := .mk fun as G H σ S => by
  refine (pt_not ptW).w ?_
  show wT X a σ H fun c H1 => _
  exact wT_mono (h as G H σ S) fun c H1 z => z
theorem dE_not {Q : Dt → Mu → Prop} (h : dE X J a ρ μ (QB fun b μ1 => Q (.bl (!b)) μ1)) : dE X J (.UnaryOp .Not a pos) ρ μ Q := .mk fun as G H σ S => by
  refine (pe_not peW).w ?_
  show wE X a σ H fun x H1 => ∃ c, x = .bl c ∧ _
  refine wE_mono (h as G H σ S) fun x H1 z => ?_
  obtain ⟨k, e, μ', as', G', s, m, q⟩ := z.bool
  exact ⟨k, e, .bl (!k), μ', as', G', s, m, .bl _, q⟩
/-- and, or as values, all but the last bools -/
theorem dE_one {op} {Q : Dt → Mu → Prop} (h : dE X J a ρ μ Q) : dE X J (.BoolOp op [a] pos) ρ μ Q := .mk fun as G H σ S => (pe_one peW).w (h as G H σ S)
theorem dE_and {r : List Expr} {Q : Dt → Mu → Prop} (h : dE X J a ρ μ (QB fun k μ1 => if k = true then dE X J (.BoolOp .And (b :: r) pos) ρ μ1 Q else Q (.bl false) μ1)) : dE X J (.BoolOp .And (a :: b :: r) pos) ρ μ Q := .mk fun as G H σ S => by
  refine (pe_and peW peW).w ?_
  show wE X a σ H fun x H1 => ∃ c, x = .bl c ∧ if c = true then wE X _ σ H1 _ else _
  refine wE_mono (h as G H σ S) fun x H1 z => ?_
  obtain ⟨k, e, μ', as', G', s, m, q⟩ := z.bool
  refine ⟨k, e, ?_⟩
  cases k with
  | false =>
    rw [if_neg Bool.false_ne_true] at q ⊢
    exact ⟨.bl false, μ', as', G', s, m, .bl _, q⟩
  | true =>
    rw [if_pos rfl] at q ⊢
    exact wE_mono (q as' G' H1 σ (S.step s m)) fun v H2 z => z.back s
theorem dE_or {r : List Expr} {Q : Dt → Mu → Prop} (h : dE X J a ρ μ (QB fun k μ1 => if k = true then Q (.bl true) μ1 else dE X J (.BoolOp .Or (b :: r) pos) ρ μ1 Q)) : dE X J (.BoolOp .Or (a :: b :: r) pos) ρ μ Q := .mk fun as G H σ S => by
  refine (pe_or peW peW).w ?_
  show wE X a σ H fun x H1 => ∃ c, x = .bl c ∧ if c = true then _ else wE X _ σ H1 _
  refine wE_mono (h as G H σ S) fun x H1 z => ?_
  obtain ⟨k, e, μ', as', G', s, m, q⟩ := z.bool
  refine ⟨k, e, ?_⟩
  cases k with
  | true =>
    rw [if_pos rfl] at q ⊢
    exact ⟨.bl true, μ', as', G', s, m, .bl _, q⟩
  | false =>
    rw [if_neg Bool.false_ne_true] at q ⊢
    exact wE_mono (q as' G' H1 σ (S.step s m)) fun v H2 z => z.back s
theorem dT_bool {Q : Bool → Mu → Prop} (h : dW X J e ρ μ Q) : dT X J e ρ μ Q := .mk fun as G H σ S => (pwW (X := X) (e := e)).pt.w (h as G H σ S)
theorem dW_and1 {Q : Bool → Mu → Prop} (h : dT X J a ρ μ Q) : dW X J (.BoolOp .And [a] pos) ρ μ Q := .mk fun as G H σ S => (pw_and1 ptW).w (h as G H σ S)
theorem dW_or1 {Q : Bool → Mu → Prop} (h : dT X J a ρ μ Q) : dW X J (.BoolOp .Or [a] pos) ρ μ Q := .mk fun as G H σ S => (pw_or1 ptW).w (h as G H σ S)
theorem dW_and {r : List Expr} {Q : Bool → Mu → Prop} (h : dT X J a ρ μ fun k μ1 => if k = true then dW X J (.BoolOp .And (b :: r) pos) ρ μ1 Q else Q false μ1) : dW X J (.BoolOp .And (a :: b :: r) pos) ρ μ Q := .mk fun as G H σ S => by
  refine (pw_and ptW pwW).w ?_
  show wT X a σ H fun c H1 => if c = true then wW X _ σ H1 _ else _
  refine wT_mono (h as G H σ S) fun k H1 ⟨μ', as', G', s, m, q⟩ => ?_
  cases k with
  | false =>
    rw [if_neg Bool.false_ne_true] at q ⊢
    exact ⟨μ', as', G', s, m, q⟩
  | true =>
    rw [if_pos rfl] at q ⊢
    exact wW_mono (q as' G' H1 σ (S.step s m)) fun v H2 z => z.back s
theorem dW_or {r : List Expr} {Q : Bool → Mu → Prop} (h : dT X J a ρ μ fun k μ1 => if k = true then Q true μ1 else dW X J (.BoolOp .Or (b :: r) pos) ρ μ1 Q) : dW X J (.BoolOp .Or (a :: b :: r) pos) ρ μ Q := .mk fun as G H σ S => by
  refine (pw_or ptW pwW).w ?_
  show wT X a σ H fun c H1 => if c = true then _ else wW X _ σ H1 _
  refine wT_mono (h as G H σ S) fun k H1 ⟨μ', as', G', s, m, q⟩ => ?_
  cases k with
  | true =>
    rw [if_pos rfl] at q ⊢
    exact ⟨μ', as', G', s, m, q⟩
  | false =>
    rw [if_neg Bool.false_ne_true] at q ⊢
    exact wW_mono (q as' G' H1 σ (S.step s m)) fun v H2 z => z.back s
theorem dE_ifExp {Q : Dt → Mu → Prop} (h : dT X J c ρ μ fun k μ1 => if k = true then dE X J a ρ μ1 Q else dE X J b ρ μ1 Q) : dE X J (.IfExp c a b pos) ρ μ Q := .mk fun as G H σ S => by
  refine (pe_ifExp ptW peW peW).w ?_
  show wT X c σ H fun k H1 => if k = true then wE X a σ H1 _ else wE X b σ H1 _
  refine wT_mono (h as G H σ S) fun k H1 ⟨μ', as', G', s, m, q⟩ => ?_
  cases k with
  | true =>
    rw [if_pos rfl] at q ⊢
    exact wE_mono (q as' G' H1 σ (S.step s m)) fun v H2 z => z.back s
  | false =>
    rw [if_neg Bool.false_ne_true] at q ⊢
    exact wE_mono (q as' G' H1 σ (S.step s m)) fun v H2 z => z.back s

/-! ### arguments, displays -/
theorem dA_nil {Q : List Dt → Mu → Prop} (q : Q [] μ) : dA X J [] ρ μ Q := .mk fun as G H σ S => pa_nil.w ⟨[], μ, as, G, .refl _ _ _, S.mem, .nil, q⟩
theorem dA_cons {Q : List Dt → Mu → Prop} (h : dE X J e ρ μ fun d μ1 => dA X J es ρ μ1 fun ds μ2 => Q (d :: ds) μ2) (hs : starEach (e :: es) X.env = (false, eval e X.env) :: starEach es X.env := by rfl) : dA X J (e :: es) ρ μ Q := .mk fun as G H σ S => by
  refine (pa_cons peW paW hs).w ?_
  show wE X e σ H fun x H1 => wA X es σ H1 fun xs H2 => _
  exact wE_mono (h as G H σ S) fun x H1 ⟨d, μ1, as1, G1, s1, m1, a1, q1⟩ => wA_mono (q1 as1 G1 H1 σ (S.step s1 m1)) fun xs H2 ⟨ds, μ2, as2, G2, s2, m2, a2, q2⟩ =>
    ⟨d :: ds, μ2, as2, G2, s1.trans s2, m2, .cons (a1.mono s2.gg s2.ix) a2, q2⟩
/-- a new tuple, a new list (frozen), a new list that will change -/
theorem dE_tup {x1} {Q : Dt → Mu → Prop} (h : dA X J es ρ μ fun ds μ1 => ds.length ≤ sizeLine ∧ Q (.tup ds) μ1) : dE X J (.Tuple es x1 pos) ρ μ Q := .mk fun as G H σ S => by
  refine (pe_tup paW).w ?_
  show wA X es σ H fun xs H1 => _
  refine wA_mono (h as G H σ S) fun xs H1 ⟨ds, μ1, as1, G1, s1, m1, a1, hl, q⟩ => ⟨by rw [a1.length]; exact hl, fun p hp => ?_⟩
  exact ⟨.tup ds, μ1, as1, upd G1 p (.tup xs), s1.trans (.lay m1 hp), m1.lay hp, .tup (.of upd_same) (a1.mono (same_upd_none (m1.same.free hp)) fun _ _ h => h), q⟩
theorem dE_lst {Q : Dt → Mu → Prop} (h : dA X J es ρ μ fun ds μ1 => ds.length ≤ sizeLine ∧ Q (.lst ds) μ1) : dE X J (.List es pos) ρ μ Q := .mk fun as G H σ S => by
  refine (pe_lst paW).w ?_
  show wA X es σ H fun xs H1 => _
  refine wA_mono (h as G H σ S) fun xs H1 ⟨ds, μ1, as1, G1, s1, m1, a1, hl, q⟩ => ⟨by rw [a1.length]; exact hl, fun p hp => ?_⟩
  exact ⟨.lst ds, μ1, as1, upd G1 p (.lst xs), s1.trans (.lay m1 hp), m1.lay hp, .lst (.of upd_same) (a1.mono (same_upd_none (m1.same.free hp)) fun _ _ h => h), q⟩
theorem dE_lstM {Q : Dt → Mu → Prop} (h : dA X J es ρ μ fun ds μ1 => ds.length ≤ sizeLine ∧ Q (.mut μ1.length) (μ1 ++ [.lst ds])) : dE X J (.List es pos) ρ μ Q := .mk fun as G H σ S => by
  refine (pe_lst paW).w ?_
  show wA X es σ H fun xs H1 => _
  refine wA_mono (h as G H σ S) fun xs H1 ⟨ds, μ1, as1, G1, s1, m1, a1, hl, q⟩ => ⟨by rw [a1.length]; exact hl, fun p hp => ?_⟩
  exact ⟨.mut μ1.length, μ1 ++ [.lst ds], as1 ++ [p], G1, s1.trans (.layM m1 hp), m1.layM (mo := .lst ds) hp ⟨xs, rfl, a1⟩, .mut (by rw [← m1.len]; simp), q⟩
end
end DL

/-! D2: items, fields, calls of built-ins, dicts, what is walked, comprehensions. -/
namespace DL
open PySem PySem.Spec PyProof.Rows L2
section
variable {X : Cx} {J : JX} {e a b c o i : Expr} {es : List Expr} {ρ : Env'} {μ : Mu} {σ : L2.St} {H : Hp} {pos : Pos}

/-- data as a sequence, a mutable list too -/
def seqM (μ : Mu) : Dt → Option (List Dt)
  | .lst xs => some xs
  | .tup xs => some xs
  | .mut k => match μ[k]? with
    | some (.lst xs) => some xs
    | _ => none
  | _ => none
/-- .. as it stands in the heap -/
theorem seq_at {K : PySem.W.Frag} {as : List Addr} {G H : Hp} {μ : Mu} {v : V} {d : Dt} {ds : List Dt} (m : Mem K as G H μ) (a : At K as G v d) (h : seqM μ d = some ds) :
    ∃ p xs, v = .ref p ∧ Ats K as G xs ds ∧ ((SqL K H p xs ∧ ∀ zs, d ≠ .tup zs) ∨ (SqT K H p xs ∧ ∃ zs, d = .tup zs)) := by
  cases a <;> simp only [seqM, reduceCtorEq] at h
  · cases h
    rename_i h1 h2
    exact ⟨_, _, rfl, h2, .inl ⟨m.same.seq h1, fun _ z => by cases z⟩⟩
  · cases h
    rename_i h1 h2
    exact ⟨_, _, rfl, h2, .inr ⟨Same.tup m.same h1, _, rfl⟩⟩
  · rename_i k p h1
    cases e : μ[k]? with
    | none => rw [e] at h; simp at h
    | some mo =>
      rw [e] at h
      cases mo with
      | lst xs =>
        simp at h
        subst h
        obtain ⟨p', o', e1, e2, e3, e4⟩ := m.cell k _ e (by simp)
        rw [h1] at e1; cases e1
        obtain ⟨ys, rfl, e5⟩ := e3
        exact ⟨p, ys, rfl, e5, .inl ⟨.of e2, fun _ z => by cases z⟩⟩
      | dic es => simp at h
      | ins C fs => simp at h
      | gone => simp at h
      | cell n c oc d => simp at h
      | tab n P q => simp at h
theorem Ats.atI {K : PySem.W.Frag} {as : List Addr} {G : Hp} {xs : List V} {ds : List Dt} {i : Int} {x : Dt} (h : Ats K as G xs ds) (e : atI ds i = some x) : ∃ v, L2.atI xs i = some v ∧ At K as G v x := by
  unfold L2.atI at e ⊢
  rw [h.length]
  cases q : ixN ds.length i with
  | none => rw [q] at e; simp at e
  | some j =>
    rw [q] at e
    simp only [Option.bind_some] at e ⊢
    exact h.got e
/-- a[b] of a list, a tuple -/
theorem dE_idx {Q : Dt → Mu → Prop} (h : dE X J a ρ μ fun d μ1 => dE X J b ρ μ1 fun e μ2 => ∃ i ds x, e = .int i ∧ seqM μ2 d = some ds ∧ atI ds i = some x ∧ Q x μ2) (hs : PlainIx b := by exact fun _ _ => rfl) : dE X J (.Subscript a b pos) ρ μ Q := .mk fun as G H σ S => by
  refine (pe_ix ix_seq peW peW hs).w ?_
  show wE X a σ H fun x H1 => wE X b σ H1 fun y H2 => rIx X.K x y H2 _
  refine two S h fun x y d e μ2 as2 G2 H2 s m a1 a2 ⟨i, ds, z, e1, e2, e3, q⟩ => ?_
  subst e1
  cases a2
  obtain ⟨p, xs, rfl, hx, hq⟩ := seq_at m a1 e2
  obtain ⟨v, h1, h2⟩ := hx.atI e3
  have fin : AfE X.K as G H Q v H2 := ⟨z, μ2, as2, G2, s, m, h2, q⟩
  rcases hq with ⟨hq, _⟩ | ⟨hq, _⟩
  · exact .inl ⟨p, xs, i, v, rfl, rfl, hq, h1, fin⟩
  · exact .inr (.inl ⟨p, xs, i, v, rfl, rfl, hq, h1, fin⟩)
/-- s[i] of a text -/
theorem dE_idxS {Q : Dt → Mu → Prop} (h : dE X J a ρ μ fun d μ1 => dE X J b ρ μ1 fun e μ2 => ∃ z i c, d = .str z ∧ e = .int i ∧ z.length ≤ sizeLine ∧ atI z.cps.toList i = some c ∧ Q (.str ⟨#[c]⟩) μ2) (hs : PlainIx b := by exact fun _ _ => rfl) : dE X J (.Subscript a b pos) ρ μ Q := .mk fun as G H σ S => by
  refine (pe_ix ix_seq peW peW hs).w ?_
  show wE X a σ H fun x H1 => wE X b σ H1 fun y H2 => rIx X.K x y H2 _
  refine two S h fun x y d e μ2 as2 G2 H2 s m a1 a2 ⟨z, i, c, e1, e2, e3, e4, q⟩ => ?_
  subst e1 e2
  cases a1
  cases a2
  exact .inr (.inr ⟨z, i, c, rfl, rfl, e3, e4, .str _, μ2, as2, G2, s, m, .str _, q⟩)
theorem Fts.look {K : PySem.W.Frag} {as : List Addr} {G : Hp} {f : Str} : ∀ {fs : List (Str × V)} {gs : List (Str × Dt)} {x : Dt}, Fts K as G fs gs → gs.lookup f = some x → ∃ v, fs.lookup f = some v ∧ At K as G v x
  | _, _, _, .nil, h => by simp at h
  | _, _, x, .cons (f := g) a t, h => by
    by_cases e : f = g
    · subst e
      simp [List.lookup] at h ⊢
      subst h
      exact a
    · have e' : (f == g) = false := by simpa using e
      simp [List.lookup, e'] at h ⊢
      exact Fts.look t h
/-- a.f of an instance -/
theorem dE_fld {C : Addr} {f : Str} {Q : Dt → Mu → Prop} (cl : Cls X.K C) (hn : NoAttr X.K C f) (h : dE X J a ρ μ fun d μ1 => ∃ gs x, d = .obj C gs ∧ gs.lookup f = some x ∧ Q x μ1) (hb : attributeBase a f X.env (eval a X.env) = eval a X.env := by rfl) : dE X J (.Attribute a f pos) ρ μ Q := .mk fun as G H σ S => by
  refine (pe_fld peW hb).w ?_
  show wE X a σ H fun x H1 => ∃ p C dx fs v, x = .ref p ∧ H1 p = some (.ins C dx fs) ∧ Cls X.K C ∧ NoAttr X.K C f ∧ fs.lookup f = some v ∧ _
  refine wE_mono (h as G H σ S) fun x H1 ⟨d, μ1, as1, G1, s1, m1, a1, gs, x', e1, e2, q⟩ => ?_
  subst e1
  cases a1 with
  | obj h1 h2 =>
    obtain ⟨v, h3, h4⟩ := h2.look e2
    exact ⟨_, C, _, _, v, rfl, m1.same _ _ h1, cl, hn, h3, x', μ1, as1, G1, s1, m1, h4, q⟩

/-! ### calls of built-ins -/
def CRel (K : PySem.W.Frag) (r : List V → Hp → VK → Prop) (RD : List Dt → Mu → (Dt → Mu → Prop) → Prop) : Prop :=
  ∀ (as : List Addr) (G H : Hp) (μ : Mu) (xs : List V) (ds : List Dt) (Q : Dt → Mu → Prop) (Q' : VK), Mem K as G H μ → Ats K as G xs ds → RD ds μ Q → (∀ v H', AfE K as G H Q v H' → Q' v H') → r xs H Q'
structure CallD (X : Cx) (f : Value) (RD : List Dt → Mu → (Dt → Mu → Prop) → Prop) : Prop where
  ex : ∃ r, CallR X f r ∧ CRel X.K r RD
theorem dE_callB {x : Str} {p : Pos} {id : String} {RD : List Dt → Mu → (Dt → Mu → Prop) → Prop} {Q : Dt → Mu → Prop} (hc : CallD X (.builtin id) RD) (hm : X.mg x = none) (h : dA X J (e :: es) ρ μ fun ds μ1 => RD ds μ1 Q) (hv : bootBuiltins x = some (.builtin id) := by decide +kernel)
    (hg : Gl X x := by rfl) (hn : x ≠ "__name__" := by decide) (hdb : (x == ("__debug__" : Str)) = false := by decide)
    (he : starEach (e :: es) X.env = (false, eval e X.env) :: starEach es X.env := by rfl) (hpl : (backTo pos (starEach es X.env)).any (·.1) = false := by rfl) : dE X J (.Call (.Name x p) (e :: es) [] pos) ρ μ Q := .mk fun as G H σ S => by
  obtain ⟨r, h1, h2⟩ := hc.ex
  refine (pe_callB h1 hg hm hv paW hn hdb he hpl).w ?_
  show wA X _ σ H fun vs H1 => r vs H1 _
  exact wA_mono (h as G H σ S) fun xs H1 ⟨ds, μ1, as1, G1, s1, m1, a1, q⟩ => h2 as1 G1 H1 μ1 xs ds _ _ m1 a1 q fun v H' z => z.back s1
theorem dE_callTy {x : Str} {p : Pos} {T : String} {RD : List Dt → Mu → (Dt → Mu → Prop) → Prop} {Q : Dt → Mu → Prop} (hc : CallD X (.type T) RD) (hm : X.mg x = none) (h : dA X J (e :: es) ρ μ fun ds μ1 => RD ds μ1 Q) (hv : bootBuiltins x = some (.type T) := by decide +kernel)
    (hg : Gl X x := by rfl) (hn : x ≠ "__name__" := by decide) (hdb : (x == ("__debug__" : Str)) = false := by decide)
    (he : starEach (e :: es) X.env = (false, eval e X.env) :: starEach es X.env := by rfl) (hpl : (backTo pos (starEach es X.env)).any (·.1) = false := by rfl) : dE X J (.Call (.Name x p) (e :: es) [] pos) ρ μ Q := .mk fun as G H σ S => by
  obtain ⟨r, h1, h2⟩ := hc.ex
  refine (pe_callTy h1 hg hm hv paW hn hdb he hpl).w ?_
  show wA X _ σ H fun vs H1 => r vs H1 _
  exact wA_mono (h as G H σ S) fun xs H1 ⟨ds, μ1, as1, G1, s1, m1, a1, q⟩ => h2 as1 G1 H1 μ1 xs ds _ _ m1 a1 q fun v H' z => z.back s1
theorem dE_callTy0 {x : Str} {p : Pos} {T : String} {RD : List Dt → Mu → (Dt → Mu → Prop) → Prop} {Q : Dt → Mu → Prop} (hc : CallD X (.type T) RD) (hm : X.mg x = none) (h : RD [] μ Q) (hv : bootBuiltins x = some (.type T) := by decide +kernel)
    (hg : Gl X x := by rfl) (hn : x ≠ "__name__" := by decide) (hdb : (x == ("__debug__" : Str)) = false := by decide) : dE X J (.Call (.Name x p) [] [] pos) ρ μ Q := .mk fun as G H σ S => by
  obtain ⟨r, h1, h2⟩ := hc.ex
  refine (pe_callTy0 h1 hg hm hv hn hdb).w ?_
  exact h2 as G H μ [] [] _ _ S.mem .nil h fun v H' z => z
/-- a module's name for a built-in -/
theorem dE_callBf {x : Str} {p : Pos} {id : String} {RD : List Dt → Mu → (Dt → Mu → Prop) → Prop} {Q : Dt → Mu → Prop} (hc : CallD X (.builtin id) RD) (hm : X.mg x = some (.builtin id)) (h : dA X J (e :: es) ρ μ fun ds μ1 => RD ds μ1 Q)
    (hg : Gl X x := by rfl) (hdb : (x == ("__debug__" : Str)) = false := by decide)
    (he : starEach (e :: es) X.env = (false, eval e X.env) :: starEach es X.env := by rfl) (hpl : (backTo pos (starEach es X.env)).any (·.1) = false := by rfl) : dE X J (.Call (.Name x p) (e :: es) [] pos) ρ μ Q := .mk fun as G H σ S => by
  obtain ⟨r, h1, h2⟩ := hc.ex
  refine (pe_callBfun h1 hg hm paW hdb he hpl).w ?_
  show wA X _ σ H fun vs H1 => r vs H1 _
  exact wA_mono (h as G H σ S) fun xs H1 ⟨ds, μ1, as1, G1, s1, m1, a1, q⟩ => h2 as1 G1 H1 μ1 xs ds _ _ m1 a1 q fun v H' z => z.back s1
theorem Ats.one {K : PySem.W.Frag} {as : List Addr} {G : Hp} {xs : List V} {d : Dt} (h : Ats K as G xs [d]) : ∃ x, xs = [x] ∧ At K as G x d := by
  cases h with
  | cons a t => cases t; exact ⟨_, rfl, a⟩
theorem Ats.two {K : PySem.W.Frag} {as : List Addr} {G : Hp} {xs : List V} {d e : Dt} (h : Ats K as G xs [d, e]) : ∃ x y, xs = [x, y] ∧ At K as G x d ∧ At K as G y e := by
  cases h with
  | cons a t => obtain ⟨y, rfl, b⟩ := t.one; exact ⟨_, _, rfl, a, b⟩
/-- len -/
def lenM (μ : Mu) : Dt → Option Nat
  | .str z => if z.length ≤ sizeLine then some z.length else none
  | d => (seqM μ d).map (·.length)
theorem cd_len : CallD X (.builtin "len") (fun ds μ Q => ∃ d n, ds = [d] ∧ lenM μ d = some n ∧ Q (.int n) μ) := by
  refine ⟨_, call_len, ?_⟩
  intro as G H μ xs ds Q Q' m a1 h f
  obtain ⟨d, n, rfl, hn, q⟩ := h
  obtain ⟨x, rfl, a2⟩ := a1.one
  refine ⟨x, n, rfl, ?_, f _ _ (.now m (.int _) q)⟩
  by_cases hs : ∃ z, d = .str z
  · obtain ⟨z, rfl⟩ := hs
    cases a2
    simp only [lenM] at hn
    split at hn
    · cases hn
      exact ⟨by assumption, rfl⟩
    · cases hn
  · have hn' : (seqM μ d).map (·.length) = some n := by
      cases d <;> first | exact absurd ⟨_, rfl⟩ hs | exact hn
    cases e : seqM μ d with
    | none => rw [e] at hn'; simp at hn'
    | some ds =>
      rw [e] at hn'
      simp at hn'
      subst hn'
      obtain ⟨p, ys, rfl, hx, hq⟩ := seq_at m a2 e
      rcases hq with ⟨hq, _⟩ | ⟨hq, _⟩
      · exact .inl ⟨ys, hq, hx.length.symm⟩
      · exact .inr ⟨ys, hq, hx.length.symm⟩
theorem cd_int : CallD X (.type "int") (fun ds μ Q => (∃ i, ds = [.int i] ∧ Q (.int i) μ) ∨ ∃ k, ds = [.bl k] ∧ Q (.int (if k then 1 else 0)) μ) := by
  refine ⟨_, call_int1, ?_⟩
  intro as G H μ xs ds Q Q' m a1 h f
  rcases h with ⟨i, rfl, q⟩ | ⟨k, rfl, q⟩
  · obtain ⟨x, rfl, a2⟩ := a1.one
    cases a2
    exact .inl ⟨i, rfl, f _ _ (.now m (.int _) q)⟩
  · obtain ⟨x, rfl, a2⟩ := a1.one
    cases a2
    exact .inr ⟨k, rfl, f _ _ (.now m (.int _) q)⟩
theorem cd_abs : CallD X (.builtin "abs") (fun ds μ Q => ∃ i, ds = [.int i] ∧ Q (.int (if i < 0 then -i else i)) μ) := by
  refine ⟨_, call_abs, ?_⟩
  intro as G H μ xs ds Q Q' m a1 h f
  obtain ⟨i, rfl, q⟩ := h
  obtain ⟨x, rfl, a2⟩ := a1.one
  cases a2
  exact ⟨i, rfl, f _ _ (.now m (.int _) q)⟩
theorem cd_max2 (hc : X.calm = true) : CallD X (.builtin "max") (fun ds μ Q => ∃ i j, ds = [.int i, .int j] ∧ Q (.int (if j > i then j else i)) μ) := by
  refine ⟨_, call_max2 hc, ?_⟩
  intro as G H μ xs ds Q Q' m a1 h f
  obtain ⟨i, j, rfl, q⟩ := h
  obtain ⟨x, y, rfl, a2, a3⟩ := a1.two
  cases a2
  cases a3
  exact ⟨i, j, rfl, f _ _ (.now m (.int _) q)⟩
theorem cd_min2 (hc : X.calm = true) : CallD X (.builtin "min") (fun ds μ Q => ∃ i j, ds = [.int i, .int j] ∧ Q (.int (if j < i then j else i)) μ) := by
  refine ⟨_, call_min2 hc, ?_⟩
  intro as G H μ xs ds Q Q' m a1 h f
  obtain ⟨i, j, rfl, q⟩ := h
  obtain ⟨x, y, rfl, a2, a3⟩ := a1.two
  cases a2
  cases a3
  exact ⟨i, j, rfl, f _ _ (.now m (.int _) q)⟩
theorem cd_gcd : CallD X (.builtin "math.gcd") (fun ds μ Q => ∃ i j, ds = [.int i, .int j] ∧ Q (.int (Int.gcd i j)) μ) := by
  refine ⟨_, cr_gcd, ?_⟩
  intro as G H μ xs ds Q Q' m a1 h f
  obtain ⟨i, j, rfl, q⟩ := h
  obtain ⟨x, y, rfl, a2, a3⟩ := a1.two
  cases a2
  cases a3
  exact ⟨i, j, rfl, f _ _ (.now m (.int _) q)⟩
/-- a new object at the end: frozen -/
theorem AfE.lay {K : PySem.W.Frag} {as : List Addr} {G H : Hp} {μ : Mu} {Q : Dt → Mu → Prop} {d : Dt} {o : HO} {p : Addr} (m : Mem K as G H μ) (hp : H p = none) (a : At K as (upd G p o) (.ref p) d) (q : Q d μ) : AfE K as G H Q (.ref p) (upd H p o) :=
  ⟨d, μ, as, _, .lay m hp, m.lay hp, a, q⟩
theorem AfE.layM {K : PySem.W.Frag} {as : List Addr} {G H : Hp} {μ : Mu} {Q : Dt → Mu → Prop} {mo : Mo} {o : HO} {p : Addr} (m : Mem K as G H μ) (hp : H p = none) (a : MoAt K as G o mo) (q : Q (.mut μ.length) (μ ++ [mo])) : AfE K as G H Q (.ref p) (upd H p o) :=
  ⟨.mut μ.length, μ ++ [mo], as ++ [p], G, .layM m hp, m.layM hp a, .mut (by rw [← m.len]; simp), q⟩
/-- list(xs), new: frozen, or to be changed -/
theorem cd_list : CallD X (.type "list") (fun ds μ Q => ∃ d xs, ds = [d] ∧ seqM μ d = some xs ∧ Q (.lst xs) μ) := by
  refine ⟨_, call_list_of, ?_⟩
  intro as G H μ xs ds Q Q' m a1 h f
  obtain ⟨d, ys, rfl, hs, q⟩ := h
  obtain ⟨x, rfl, a2⟩ := a1.one
  obtain ⟨p, zs, rfl, hx, hq⟩ := seq_at m a2 hs
  exact ⟨p, zs, rfl, hq.imp (·.1) (·.1), fun l hl => f _ _ (.lay m hl (.lst (.of upd_same) (hx.mono (same_upd_none (m.same.free hl)) fun _ _ h => h)) q)⟩
theorem cd_listM : CallD X (.type "list") (fun ds μ Q => ∃ d xs, ds = [d] ∧ seqM μ d = some xs ∧ Q (.mut μ.length) (μ ++ [.lst xs])) := by
  refine ⟨_, call_list_of, ?_⟩
  intro as G H μ xs ds Q Q' m a1 h f
  obtain ⟨d, ys, rfl, hs, q⟩ := h
  obtain ⟨x, rfl, a2⟩ := a1.one
  obtain ⟨p, zs, rfl, hx, hq⟩ := seq_at m a2 hs
  exact ⟨p, zs, rfl, hq.imp (·.1) (·.1), fun l hl => f _ _ (.layM (mo := .lst ys) m hl ⟨zs, rfl, hx⟩ q)⟩
theorem cd_tuple : CallD X (.type "tuple") (fun ds μ Q => ∃ d xs, ds = [d] ∧ seqM μ d = some xs ∧ Q (.tup xs) μ) := by
  refine ⟨_, call_tuple_of, ?_⟩
  intro as G H μ xs ds Q Q' m a1 h f
  obtain ⟨d, ys, rfl, hs, q⟩ := h
  obtain ⟨x, rfl, a2⟩ := a1.one
  obtain ⟨p, zs, rfl, hx, hq⟩ := seq_at m a2 hs
  rcases hq with ⟨hq, _⟩ | ⟨hq, ws, rfl⟩
  · exact ⟨p, zs, rfl, .inl ⟨hq, fun l hl => f _ _ (.lay m hl (.tup (.of upd_same) (hx.mono (same_upd_none (m.same.free hl)) fun _ _ h => h)) q)⟩⟩
  · simp only [seqM, Option.some.injEq] at hs
    subst hs
    exact ⟨p, zs, rfl, .inr ⟨hq, f _ _ (.now m a2 q)⟩⟩

/-! ### methods of a list that changes -/
def MRel (K : PySem.W.Frag) (r : V → List V → Hp → VK → Prop) (RD : Dt → List Dt → Mu → (Dt → Mu → Prop) → Prop) : Prop :=
  ∀ (as : List Addr) (G H : Hp) (μ : Mu) (x : V) (d : Dt) (xs : List V) (ds : List Dt) (Q : Dt → Mu → Prop) (Q' : VK), Mem K as G H μ → At K as G x d → Ats K as G xs ds → RD d ds μ Q → (∀ v H', AfE K as G H Q v H' → Q' v H') → r x xs H Q'
structure MtD (X : Cx) (id : String) (RD : Dt → List Dt → Mu → (Dt → Mu → Prop) → Prop) : Prop where
  ex : ∃ r, MtR X id r ∧ MRel X.K r RD
/-- a list -/
def isL (μ : Mu) (d : Dt) : Prop := (∃ xs, seqM μ d = some xs) ∧ ∀ zs, d ≠ .tup zs
theorem isL_ty {K : PySem.W.Frag} {as : List Addr} {G H : Hp} {μ : Mu} {v : V} {d : Dt} (m : Mem K as G H μ) (a : At K as G v d) (h : isL μ d) : tyV K "list" v H := by
  obtain ⟨⟨xs, hs⟩, ht⟩ := h
  obtain ⟨p, zs, rfl, hx, hq⟩ := seq_at m a hs
  rcases hq with ⟨hq, _⟩ | ⟨hq, ws, e⟩
  · exact .inl ⟨rfl, _, hq⟩
  · exact absurd e (ht ws)
theorem dE_lm {name : Str} {apos cpos : Pos} {id : String} {RD : Dt → List Dt → Mu → (Dt → Mu → Prop) → Prop} {Q : Dt → Mu → Prop} (slot : Slot "list" name id) (hty : typeOf (.builtin id) = pure (.type "method_descriptor")) (hm : MtD X id RD)
    (h : dE X J o ρ μ fun d μ1 => isL μ1 d ∧ dA X J (e :: es) ρ μ1 fun ds μ2 => RD d ds μ2 Q)
    (hbase : attributeBase o name X.env (eval o X.env) = eval o X.env := by rfl)
    (hfew : ((backTo cpos (starEach (e :: es) X.env)).all (fun x => !x.1) && (backToKw cpos (keywordEach [] X.env)).all (fun x => x.1.isSome)
      && decide ((e :: es).length + ([] : List Keyword).length + (if ([] : List Keyword).isEmpty then 0 else 1) < 30)) = true := by rfl)
    (hline : (apos.endLine == cpos.line) = true := by rfl) (hs : starEach (e :: es) X.env = (false, eval e X.env) :: starEach es X.env := by rfl) (hplain : (backTo cpos (starEach es X.env)).any (·.1) = false := by rfl) :
    dE X J (.Call (.Attribute o name apos) (e :: es) [] cpos) ρ μ Q := .mk fun as G H σ S => by
  obtain ⟨r, h1, h2⟩ := hm.ex
  refine (pe_bm PySem.F.plainAttrs_list slot hty h1 peW paW hbase hfew hline hs hplain).w ?_
  show wE X o σ H fun x H1 => tyV X.K "list" x H1 ∧ wA X (e :: es) σ H1 fun xs H2 => r x xs H2 _
  refine wE_mono (h as G H σ S) fun x H1 ⟨d, μ1, as1, G1, s1, m1, a1, hl, q1⟩ => ⟨isL_ty m1 a1 hl, ?_⟩
  exact wA_mono (q1 as1 G1 H1 σ (S.step s1 m1)) fun xs H2 ⟨ds, μ2, as2, G2, s2, m2, a2, q2⟩ => h2 as2 G2 H2 μ2 x d xs ds _ _ m2 (a1.mono s2.gg s2.ix) a2 q2 fun v H' z => z.back (s1.trans s2)
theorem dE_lm0 {name : Str} {apos cpos : Pos} {id : String} {RD : Dt → List Dt → Mu → (Dt → Mu → Prop) → Prop} {Q : Dt → Mu → Prop} (slot : Slot "list" name id) (hty : typeOf (.builtin id) = pure (.type "method_descriptor")) (hm : MtD X id RD)
    (h : dE X J o ρ μ fun d μ1 => isL μ1 d ∧ RD d [] μ1 Q)
    (hbase : attributeBase o name X.env (eval o X.env) = eval o X.env := by rfl) (hline : (apos.endLine == cpos.line) = true := by rfl) :
    dE X J (.Call (.Attribute o name apos) [] [] cpos) ρ μ Q := .mk fun as G H σ S => by
  obtain ⟨r, h1, h2⟩ := hm.ex
  refine (pe_bm0 PySem.F.plainAttrs_list slot hty h1 peW hbase hline).w ?_
  show wE X o σ H fun x H1 => tyV X.K "list" x H1 ∧ r x [] H1 _
  exact wE_mono (h as G H σ S) fun x H1 ⟨d, μ1, as1, G1, s1, m1, a1, hl, q1⟩ => ⟨isL_ty m1 a1 hl, h2 as1 G1 H1 μ1 x d [] [] _ _ m1 a1 .nil q1 fun v H' z => z.back s1⟩
/-- the mutable list number k as it stands -/
theorem mut_at {K : PySem.W.Frag} {as : List Addr} {G H : Hp} {μ : Mu} {v : V} {k : Nat} {ds : List Dt} (m : Mem K as G H μ) (a : At K as G v (.mut k)) (h : μ[k]? = some (.lst ds)) :
    ∃ p xs, v = .ref p ∧ as[k]? = some p ∧ H p = some (.lst xs) ∧ Ats K as G xs ds := by
  cases a with
  | «mut» h1 =>
    obtain ⟨p', o', e1, e2, e3, e4⟩ := m.cell k _ h (by simp)
    rw [h1] at e1; cases e1
    obtain ⟨ys, rfl, e5⟩ := e3
    exact ⟨_, ys, rfl, h1, e2, e5⟩
theorem AfE.put {K : PySem.W.Frag} {as : List Addr} {G H : Hp} {μ : Mu} {Q : Dt → Mu → Prop} {k : Nat} {p : Addr} {o : HO} {mo m0 : Mo} {v : V} {d : Dt} (m : Mem K as G H μ) (hk : as[k]? = some p) (h0 : μ[k]? = some m0) (hg : m0 ≠ .gone) (h : MoAt K as G o mo)
    (a : At K as G v d) (q : Q d (μ.set k mo)) : AfE K as G H Q v (upd H p o) := ⟨d, μ.set k mo, as, G, .put m hk, m.put hk h0 hg h, a, q⟩
theorem md_append : MtD X "list.append" (fun d es μ Q => ∃ k ds y, d = .mut k ∧ es = [y] ∧ μ[k]? = some (.lst ds) ∧ ds.length < sizeLine ∧ Q .non (μ.set k (.lst (ds ++ [y])))) := by
  refine ⟨_, mt_append, ?_⟩
  intro as G H μ x d xs es Q Q' m a1 a2 h f
  obtain ⟨k, ds, y, rfl, rfl, hk, hl, q⟩ := h
  obtain ⟨p, zs, rfl, hp, hH, hz⟩ := mut_at m a1 hk
  obtain ⟨w, rfl, aw⟩ := a2.one
  exact ⟨p, zs, w, rfl, rfl, hH, by rw [hz.length]; exact hl, f _ _ (.put (mo := .lst (ds ++ [y])) m hp hk (by simp) ⟨_, rfl, hz.append (.cons aw .nil)⟩ .non q)⟩
theorem Ats.dropLast {K : PySem.W.Frag} {as : List Addr} {G : Hp} {xs : List V} {ds : List Dt} (h : Ats K as G xs ds) : Ats K as G xs.dropLast ds.dropLast := by
  rw [List.dropLast_eq_take, List.dropLast_eq_take, h.length]
  exact h.take _
theorem md_pop : MtD X "list.pop" (fun d es μ Q => ∃ k ds y, d = .mut k ∧ es = [] ∧ μ[k]? = some (.lst ds) ∧ ds[ds.length - 1]? = some y ∧ Q y (μ.set k (.lst ds.dropLast))) := by
  refine ⟨_, mt_pop, ?_⟩
  intro as G H μ x d xs es Q Q' m a1 a2 h f
  obtain ⟨k, ds, y, rfl, rfl, hk, hy, q⟩ := h
  obtain ⟨p, zs, rfl, hp, hH, hz⟩ := mut_at m a1 hk
  cases a2
  obtain ⟨w, hw, aw⟩ := hz.got hy
  rw [← hz.length] at hw
  exact ⟨p, zs, w, rfl, rfl, hH, hw, f _ _ (.put (mo := .lst ds.dropLast) m hp hk (by simp) ⟨_, rfl, hz.dropLast⟩ aw q)⟩
theorem Ats.eraseIdx {K : PySem.W.Frag} {as : List Addr} {G : Hp} : ∀ {xs : List V} {ds : List Dt} (i : Nat), Ats K as G xs ds → Ats K as G (xs.eraseIdx i) (ds.eraseIdx i)
  | _, _, _, .nil => by simpa using Ats.nil
  | _, _, 0, .cons _ t => t
  | _, _, i + 1, .cons h t => .cons h (Ats.eraseIdx i t)
theorem md_popAt : MtD X "list.pop" (fun d es μ Q => ∃ k ds i j y, d = .mut k ∧ es = [.int i] ∧ μ[k]? = some (.lst ds) ∧ -(2 ^ 63) ≤ i ∧ i < 2 ^ 63 ∧ seqIndex? i ds.length = some j ∧ ds[j]? = some y ∧ Q y (μ.set k (.lst (ds.eraseIdx j)))) := by
  refine ⟨_, mt_popAt, ?_⟩
  intro as G H μ x d xs es Q Q' m a1 a2 h f
  obtain ⟨k, ds, i, j, y, rfl, rfl, hk, h1, h2, hj, hy, q⟩ := h
  obtain ⟨p, zs, rfl, hp, hH, hz⟩ := mut_at m a1 hk
  obtain ⟨w0, rfl, aw0⟩ := a2.one
  cases aw0
  obtain ⟨w, hw, aw⟩ := hz.got hy
  rw [← hz.length] at hj
  exact ⟨p, zs, i, j, w, rfl, rfl, hH, h1, h2, hj, hw, f _ _ (.put (mo := .lst (ds.eraseIdx j)) m hp hk (by simp) ⟨_, rfl, hz.eraseIdx j⟩ aw q)⟩

/-! ### dicts -/
def valD (es : List (Key × Dt)) (k : Key) : Option Dt := (es.find? fun kv => decide (kv.1 = k)).map (·.2)
def putD (es : List (Key × Dt)) (k : Key) (d : Dt) : List (Key × Dt) :=
  if (es.any fun kv => decide (kv.1 = k)) = true then es.map (fun kv => if kv.1 = k then (kv.1, d) else kv) else es ++ [(k, d)]
def keyD : Key → Dt
  | .inl i => .int i
  | .inr x => .str x
theorem Kts.val {K : PySem.W.Frag} {as : List Addr} {G : Hp} {k : Key} : ∀ {kvs : List (Key × V)} {es : List (Key × Dt)}, Kts K as G kvs es → (valD es k = none ∧ valV kvs k = none) ∨ ∃ d v, valD es k = some d ∧ valV kvs k = some v ∧ At K as G v d
  | _, _, .nil => .inl ⟨rfl, rfl⟩
  | _, _, .cons (f := g) a t => by
    by_cases e : g = k
    · exact .inr ⟨_, _, by simp [valD, List.find?_cons, e], valV_pos e, a⟩
    · rcases Kts.val (k := k) t with ⟨h1, h2⟩ | ⟨d, v, h1, h2, h3⟩
      · exact .inl ⟨by simpa [valD, List.find?_cons, e] using h1, by rw [valV_neg e]; exact h2⟩
      · exact .inr ⟨d, v, by simpa [valD, List.find?_cons, e] using h1, by rw [valV_neg e]; exact h2, h3⟩
theorem Kts.any {K : PySem.W.Frag} {as : List Addr} {G : Hp} {k : Key} : ∀ {kvs : List (Key × V)} {es : List (Key × Dt)}, Kts K as G kvs es → (kvs.any fun kv => decide (kv.1 = k)) = (es.any fun kv => decide (kv.1 = k))
  | _, _, .nil => rfl
  | _, _, .cons a t => by simp [List.any_cons, Kts.any t]
theorem Kts.map {K : PySem.W.Frag} {as : List Addr} {G : Hp} {k : Key} {x : V} {d : Dt} (hx : At K as G x d) : ∀ {kvs : List (Key × V)} {es : List (Key × Dt)}, Kts K as G kvs es →
    Kts K as G (kvs.map fun kv => if kv.1 = k then (kv.1, x) else kv) (es.map fun kv => if kv.1 = k then (kv.1, d) else kv)
  | _, _, .nil => .nil
  | _, _, .cons (f := g) a t => by
    by_cases e : g = k
    · simp only [List.map_cons, if_pos e]
      exact .cons hx (Kts.map hx t)
    · simp only [List.map_cons, if_neg e]
      exact .cons a (Kts.map hx t)
theorem Kts.append {K : PySem.W.Frag} {as : List Addr} {G : Hp} : ∀ {kvs ws : List (Key × V)} {es fs : List (Key × Dt)}, Kts K as G kvs es → Kts K as G ws fs → Kts K as G (kvs ++ ws) (es ++ fs)
  | _, _, _, _, .nil, r => r
  | _, _, _, _, .cons a t, r => .cons a (Kts.append t r)
theorem Kts.put {K : PySem.W.Frag} {as : List Addr} {G : Hp} {k : Key} {x : V} {d : Dt} {kvs : List (Key × V)} {es : List (Key × Dt)} (h : Kts K as G kvs es) (hx : At K as G x d) : Kts K as G (putK kvs k x) (putD es k d) := by
  unfold putK putD
  rw [h.any]
  by_cases e : (es.any fun kv => decide (kv.1 = k)) = true
  · rw [if_pos e, if_pos e]
    exact h.map hx
  · rw [if_neg e, if_neg e]
    exact h.append (.cons hx .nil)
theorem Kts.length {K : PySem.W.Frag} {as : List Addr} {G : Hp} : ∀ {kvs : List (Key × V)} {es : List (Key × Dt)}, Kts K as G kvs es → kvs.length = es.length
  | _, _, .nil => rfl
  | _, _, .cons _ t => by simp [Kts.length t]
/-- the pairs of a dict, frozen or changing -/
def dicM (μ : Mu) : Dt → Option (List (Key × Dt))
  | .dic es => some es
  | .mut k => match μ[k]? with
    | some (.dic es) => some es
    | _ => none
  | _ => none
theorem dic_at {K : PySem.W.Frag} {as : List Addr} {G H : Hp} {μ : Mu} {v : V} {d : Dt} {es : List (Key × Dt)} (m : Mem K as G H μ) (a : At K as G v d) (h : dicM μ d = some es) :
    ∃ p kvs, v = .ref p ∧ H p = some (.dK kvs) ∧ Kts K as G kvs es := by
  cases a <;> simp only [dicM, reduceCtorEq] at h
  · cases h
    rename_i h1 h2
    exact ⟨_, _, rfl, m.same _ _ h1, h2⟩
  · rename_i k p h1
    cases e : μ[k]? with
    | none => rw [e] at h; simp at h
    | some mo =>
      rw [e] at h
      cases mo with
      | dic xs =>
        simp at h
        subst h
        obtain ⟨p', o', e1, e2, e3, e4⟩ := m.cell k _ e (by simp)
        rw [h1] at e1; cases e1
        obtain ⟨ys, rfl, e5⟩ := e3
        exact ⟨p, ys, rfl, e2, e5⟩
      | lst es => simp at h
      | ins C fs => simp at h
      | gone => simp at h
      | cell n c oc d => simp at h
      | tab n P q => simp at h
theorem key_at {K : PySem.W.Frag} {as : List Addr} {G : Hp} {v : V} {k : Key} (a : At K as G v (keyD k)) : v = kV k := by
  cases k with
  | inl i => cases a; rfl
  | inr x => cases a; rfl
/-- d[k], there -/
theorem dE_dget {Q : Dt → Mu → Prop} (hu : X.A.units + 1 < cLine) (h : dE X J a ρ μ fun d μ1 => dE X J b ρ μ1 fun e μ2 => ∃ es k x, dicM μ2 d = some es ∧ e = keyD k ∧ valD es k = some x ∧ Q x μ2) (hs : NoSl b := by exact fun _ _ => rfl) : dE X J (.Subscript a b pos) ρ μ Q := .mk fun as G H σ S => by
  refine (pe_dget hu peW peW hs).w ?_
  show wE X a σ H fun x H1 => wE X b σ H1 fun y H2 => ∃ p v, x = .ref p ∧ DGet H2 p y (some v) ∧ _
  refine two S h fun x y d e μ2 as2 G2 H2 s m a1 a2 ⟨es, k, z, e1, e2, e3, q⟩ => ?_
  subst e2
  obtain ⟨p, kvs, rfl, hp, hk⟩ := dic_at m a1 e1
  obtain rfl := key_at a2
  rcases hk.val (k := k) with ⟨h1, _⟩ | ⟨d', v, h1, h2, h3⟩
  · rw [h1] at e3; cases e3
  · rw [h1] at e3; cases e3
    exact ⟨p, v, rfl, by rw [← h2]; exact .k hp, z, μ2, as2, G2, s, m, h3, q⟩
/-- k in d, k not in d -/
theorem dE_din {Q : Dt → Mu → Prop} (hu : X.A.units + 1 < cLine) (h : dE X J a ρ μ fun e μ1 => dE X J b ρ μ1 fun d μ2 => ∃ es k, dicM μ2 d = some es ∧ e = keyD k ∧ Q (.bl (valD es k).isSome) μ2) (hm : behindInMarks .In b = false := by rfl) : dE X J (.Compare a [.In] [b] pos) ρ μ Q := .mk fun as G H σ S => by
  refine (pe_cmp (pc_din hu peW peW) hm).w ?_
  show wE X a σ H fun y H1 => wE X b σ H1 fun x H2 => ∃ p o, x = .ref p ∧ DGet H2 p y o ∧ _
  refine two S h fun y x e d μ2 as2 G2 H2 s m a2 a1 ⟨es, k, e1, e2, q⟩ => ?_
  subst e2
  obtain ⟨p, kvs, rfl, hp, hk⟩ := dic_at m a1 e1
  obtain rfl := key_at a2
  refine ⟨p, _, rfl, .k hp, .bl (valD es k).isSome, μ2, as2, G2, s, m, ?_, q⟩
  rcases hk.val (k := k) with ⟨h1, h2⟩ | ⟨d', v, h1, h2, h3⟩
  · rw [h1, h2]; exact .bl _
  · rw [h1, h2]; exact .bl _
theorem dE_dnotin {Q : Dt → Mu → Prop} (hu : X.A.units + 1 < cLine) (h : dE X J a ρ μ fun e μ1 => dE X J b ρ μ1 fun d μ2 => ∃ es k, dicM μ2 d = some es ∧ e = keyD k ∧ Q (.bl (!(valD es k).isSome)) μ2) (hm : behindInMarks .NotIn b = false := by rfl) : dE X J (.Compare a [.NotIn] [b] pos) ρ μ Q := .mk fun as G H σ S => by
  refine (pe_cmp (pc_dnotin hu peW peW) hm).w ?_
  show wE X a σ H fun y H1 => wE X b σ H1 fun x H2 => ∃ p o, x = .ref p ∧ DGet H2 p y o ∧ _
  refine two S h fun y x e d μ2 as2 G2 H2 s m a2 a1 ⟨es, k, e1, e2, q⟩ => ?_
  subst e2
  obtain ⟨p, kvs, rfl, hp, hk⟩ := dic_at m a1 e1
  obtain rfl := key_at a2
  refine ⟨p, _, rfl, .k hp, .bl (!(valD es k).isSome), μ2, as2, G2, s, m, ?_, q⟩
  rcases hk.val (k := k) with ⟨h1, h2⟩ | ⟨d', v, h1, h2, h3⟩
  · rw [h1, h2]; exact .bl _
  · rw [h1, h2]; exact .bl _
/-- the pairs of a display -/
def wP (X : Cx) (pos : Pos) (keys : List (Option Expr)) (values : List Expr) : L2.St → Hp → (List (V × V) → Hp → Prop) → Prop := fun σ H Q => ∀ pins s, Inv X pins σ H s →
  wpAny (model X.prog X.w) X.A (evalPairs (pairTrees keys values X.env pos)) (fun vs s' => ∃ ps H', Inv X pins σ H' s' ∧ VV ps vs ∧ Q ps H') X.xe s
inductive Pts (K : PySem.W.Frag) (as : List Addr) (G : Hp) : List (V × V) → List (Dt × Dt) → Prop
  | nil : Pts K as G [] []
  | cons {x y : V} {ps : List (V × V)} {d e : Dt} {ds : List (Dt × Dt)} : At K as G x d → At K as G y e → Pts K as G ps ds → Pts K as G ((x, y) :: ps) ((d, e) :: ds)
structure dP (X : Cx) (J : JX) (pos : Pos) (keys : List (Option Expr)) (values : List Expr) (ρ : Env') (μ : Mu) (Q : List (Dt × Dt) → Mu → Prop) : Prop where
  go : ∀ as G H σ, Sx X J as G H σ ρ μ → wP X pos keys values σ H fun ps H' => ∃ ds μ' as' G', Step as G H as' G' H' ∧ Mem X.K as' G' H' μ' ∧ Pts X.K as' G' ps ds ∧ Q ds μ'
instance {X : Cx} {J : JX} {pos : Pos} {keys : List (Option Expr)} {values : List Expr} {ρ : Env'} {μ : Mu} {Q : List (Dt × Dt) → Mu → Prop} : CoeFun (dP X J pos keys values ρ μ Q) (fun _ => ∀ as G H σ, Sx X J as G H σ ρ μ → wP X pos keys values σ H fun ps H' => ∃ ds μ' as' G', Step as G H as' G' H' ∧ Mem X.K as' G' H' μ' ∧ Pts X.K as' G' ps ds ∧ Q ds μ') := ⟨dP.go⟩
theorem dP_nil {Q : List (Dt × Dt) → Mu → Prop} (q : Q [] μ) : dP X J pos [] [] ρ μ Q := .mk fun as G H σ S pins s I => pairTrees_nil_walk ⟨[], H, I, .nil, [], μ, as, G, .refl _ _ _, S.mem, .nil, q⟩
theorem dP_cons {k v : Expr} {ks : List (Option Expr)} {vs : List Expr} {Q : List (Dt × Dt) → Mu → Prop} (h : dE X J k ρ μ fun d μ1 => dE X J v ρ μ1 fun e μ2 => dP X J pos ks vs ρ μ2 fun ds μ3 => Q ((d, e) :: ds) μ3) :
    dP X J pos (some k :: ks) (v :: vs) ρ μ Q := .mk fun as G H σ S pins s I => by
  refine pairTrees_cons_walk (thn (h as G H σ S pins s I) fun u s1 ⟨x, H1, I1, rx, d, μ1, as1, G1, t1, m1, a1, q1⟩ => thn (q1 as1 G1 H1 σ (S.step t1 m1) pins s1 I1) fun w2 s2 ⟨y, H2, I2, ry, e, μ2, as2, G2, t2, m2, a2, q2⟩ =>
    thn (q2 as2 G2 H2 σ ((S.step t1 m1).step t2 m2) pins s2 I2) fun ws s3 ⟨ps, H3, I3, rel, ds, μ3, as3, G3, t3, m3, a3, q3⟩ => ?_)
  exact ⟨(x, y) :: ps, H3, I3, .cons ⟨rx, ry⟩ rel, (d, e) :: ds, μ3, as3, G3, (t1.trans t2).trans t3, m3, .cons ((a1.mono t2.gg t2.ix).mono t3.gg t3.ix) (a2.mono t3.gg t3.ix) a3, q3⟩
def mergeD (es more : List (Key × Dt)) : List (Key × Dt) := more.foldl (fun acc kv => putD acc kv.1 kv.2) es
theorem Kts.merge {K : PySem.W.Frag} {as : List Addr} {G : Hp} : ∀ {more : List (Key × V)} {fs : List (Key × Dt)} {kvs : List (Key × V)} {es : List (Key × Dt)}, Kts K as G kvs es → Kts K as G more fs → Kts K as G (mergeK kvs more) (mergeD es fs)
  | _, _, _, _, h, .nil => h
  | _, _, kvs, es, h, .cons (f := k) (v := v) (d := d) (vs := vs) (ds := ds) a t => by
    show Kts K as G (mergeK (putK kvs k v) vs) (mergeD (putD es k d) ds)
    exact Kts.merge (h.put a) t
theorem Pts.keys {K : PySem.W.Frag} {as : List Addr} {G : Hp} : ∀ {es : List (Key × Dt)} {ps : List (V × V)}, Pts K as G ps (es.map fun kv => (keyD kv.1, kv.2)) → ∃ kvs : List (Key × V), ps = kvs.map (fun kv => (kV kv.1, kv.2)) ∧ Kts K as G kvs es
  | [], _, .nil => ⟨[], rfl, .nil⟩
  | (k, d) :: es, _, .cons a b t => by
    obtain ⟨kvs, e, h⟩ := Pts.keys t
    obtain rfl := key_at a
    exact ⟨(k, _) :: kvs, by rw [e]; rfl, .cons b h⟩
/-- {k: v, ..}, keys ints and texts: frozen, or to be changed -/
theorem disp_core {keys : List (Option Expr)} {values : List Expr} {R : List (Key × Dt) → Mu → Prop} {as : List Addr} {G : Hp} (S : Sx X J as G H σ ρ μ) (h : dP X J pos keys values ρ μ fun ps μ1 => ∃ es : List (Key × Dt), ps = es.map (fun kv => (keyD kv.1, kv.2)) ∧ es.length ≤ 15 ∧ R es μ1)
    (hall : keys.all (·.isSome) = true) (hl : keys.length = values.length) (h0 : keys ≠ []) (h15 : keys.length ≤ 15) {Q' : VK}
    (f : ∀ (p : Addr) (H2 : Hp) (es : List (Key × Dt)) (kvs : List (Key × V)) (μ1 : Mu) (as2 : List Addr) (G2 : Hp), Step as G H as2 G2 H2 → H p = none → Mem X.K as2 G2 H2 μ1 → H2 p = some (.dK []) → p ∉ as2 → G2 p = none → Kts X.K as2 G2 (mergeK [] kvs) (mergeD [] es) → R es μ1 → Q' (.ref p) (upd H2 p (.dK (mergeK [] kvs)))) :
    wE X (.Dict keys values pos) σ H Q' := fun pins s I => by
  have hn := I.hok.fresh (Nat.le_refl s.heap.objs.size)
  have I1 := I.laid (a := s.heap.objs.size) (o := .dK []) (h' := s.heap.push { cls := .type "dict", data := .dict #[] }) (t' := s.toks) (fun _ _ q => Heap.get?_push_of_some _ q) (Nat.le_refl _) (dk_empty s.heap I.big)
  have S1 : Sx X J as G (upd H s.heap.objs.size (.dK [])) σ ρ μ := ⟨S.mem.aside hn, S.sl, S.tk.step (.aside S.mem hn)⟩
  refine wpAny_Dict_walk (knd := mixKind X.prog X.w) hall hl h0 h15 (thn (h as G _ σ S1 pins _ I1) fun ws s2 hh => ?_)
  obtain ⟨ps, H2, I2, rel, ds, μ2, as2, G2, t2, m2, p2, es, ep, lk, q2⟩ := hh
  subst ep
  obtain ⟨kvs, ep, hk⟩ := p2.keys
  subst ep
  have np : s.heap.objs.size ∉ as := fun z => S.mem.ne _ z hn
  have e : H2 s.heap.objs.size = some (.dK []) := t2.hh _ _ upd_same np
  have np2 : s.heap.objs.size ∉ as2 := fun z => by
    rcases t2.nw _ z with z | z
    · exact np z
    · rw [upd_same] at z; cases z
  have g2 : G2 s.heap.objs.size = none := by
    cases q : G2 s.heap.objs.size with
    | none => rfl
    | some o =>
      rcases t2.fr _ _ q with z | z | z
      · rw [S.mem.same.free hn] at z; cases z
      · rw [upd_same] at z; cases z
      · exact absurd z np
  obtain ⟨rs, c, rk⟩ := carries_of (P := X.prog) (w := X.w) rel
  obtain ⟨z, hd, vs0, r0, dd⟩ := dk_of I2.hok e
  cases r0
  refine ⟨rs, c, dd, fun h' dd' hs => ⟨.ref s.heap.objs.size, _, ?_, rfl, f _ H2 es kvs μ2 as2 G2 ((Step.aside S.mem hn).trans t2) hn m2 e np2 g2 (Kts.merge .nil hk) q2⟩⟩
  have hz : (mergeK [] kvs).length ≤ sizeLine := by
    have h1 := length_mergeK kvs []
    rw [List.length_nil] at h1
    have h2 := hk.length
    rw [sizeLine_eq]; omega
  have he : ∃ q, h'.get? s.heap.objs.size = some q := let ⟨q, _, _, hq, _⟩ := dd'; ⟨q, hq⟩
  exact d_write I2 (by rw [e]; exact True.intro) hs he (dk_new hz hd (rk.merge .nil) dd')
/-- an aid's own object is taken over: frozen -/
theorem Mem.take {K : PySem.W.Frag} {as : List Addr} {G H : Hp} {p : Addr} {o : HO} (m : Mem K as G H μ) (np : p ∉ as) (gp : G p = none) : Mem K as (upd G p o) (upd H p o) μ := by
  have ne : ∀ a, a ∈ as → a ≠ p := fun a h z => np (z ▸ h)
  refine ⟨fun b u e => ?_, m.len, fun k mo hk hg => ?_, m.nd, fun a h => by rw [upd_ne (ne a h)]; exact m.ne a h⟩
  · by_cases hb : b = p
    · subst hb; rw [upd_same] at e ⊢; exact e
    · rw [upd_ne hb] at e ⊢; exact m.same b u e
  · obtain ⟨a, o', h1, h2, h3, h4⟩ := m.cell k mo hk hg
    have ha := ne a (List.mem_of_getElem? h1)
    exact ⟨a, o', h1, by rw [upd_ne ha]; exact h2, h3.mono (same_upd_none gp) (fun _ _ h => h), by rw [upd_ne ha]; exact h4⟩
theorem Step.take {as as2 : List Addr} {G H G2 H2 : Hp} {p : Addr} {o : HO} (t : Step as G H as2 G2 H2) (hp : H p = none) (gp : G2 p = none) : Step as G H as2 (upd G2 p o) (upd H2 p o) := by
  refine ⟨t.pre, t.gg.trans (same_upd_none gp), fun b u e n => ?_, fun b e => ?_, fun b u e => ?_, t.nw⟩
  · rw [upd_ne (ne_of_none e hp)]; exact t.hh b u e n
  · by_cases hb : b = p
    · subst hb; rw [upd_same]; simp
    · rw [upd_ne hb]; exact t.ho b e
  · by_cases hb : b = p
    · subst hb; exact .inr (.inl hp)
    · rw [upd_ne hb] at e; exact t.fr b u e
theorem Mem.takeM {K : PySem.W.Frag} {as : List Addr} {G H : Hp} {p : Addr} {o : HO} {mo : Mo} (m : Mem K as G H μ) (np : p ∉ as) (gp : G p = none) (h : MoAt K as G o mo) : Mem K (as ++ [p]) G (upd H p o) (μ ++ [mo]) := by
  have ne : ∀ a, a ∈ as → a ≠ p := fun a h z => np (z ▸ h)
  have ix : ∀ (k : Nat) (a : Addr), as[k]? = some a → (as ++ [p])[k]? = some a := fun k a h => by
    rw [List.getElem?_append_left (List.getElem?_eq_some_iff.mp h).1]; exact h
  refine ⟨fun b u e => ?_, by simp [m.len], fun k mo' hk hg => ?_, ?_, fun a ha => ?_⟩
  · have : b ≠ p := fun z => by rw [z, gp] at e; cases e
    rw [upd_ne this]; exact m.same b u e
  · by_cases hl : k < μ.length
    · rw [List.getElem?_append_left hl] at hk
      obtain ⟨a, o', h1, h2, h3, h4⟩ := m.cell k mo' hk hg
      have ha := ne a (List.mem_of_getElem? h1)
      exact ⟨a, o', ix _ _ h1, by rw [upd_ne ha]; exact h2, h3.mono (Same.refl _) ix, h4⟩
    · have hk2 := (List.getElem?_eq_some_iff.mp hk).1
      simp at hk2
      have e : k = μ.length := by omega
      subst e
      simp at hk
      subst hk
      exact ⟨p, o, by rw [← m.len]; simp, upd_same, h.mono (Same.refl _) ix, gp⟩
  · rw [List.nodup_append]
    refine ⟨m.nd, by simp, fun a ha b hb => ?_⟩
    have : b = p := by simpa using hb
    subst this
    exact ne a ha
  · rcases List.mem_append.mp ha with h | h
    · rw [upd_ne (ne a h)]; exact m.ne a h
    · have : a = p := by simpa using h
      subst this
      rw [upd_same]; simp
theorem Step.takeM {as as2 : List Addr} {G H G2 H2 : Hp} {p : Addr} {o : HO} (t : Step as G H as2 G2 H2) (hp : H p = none) : Step as G H (as2 ++ [p]) G2 (upd H2 p o) := by
  refine ⟨?_, t.gg, fun b u e n => ?_, fun b e => ?_, t.fr, fun a h => ?_⟩
  · obtain ⟨r, e⟩ := t.pre
    exact ⟨r ++ [p], by rw [e, List.append_assoc]⟩
  · rw [upd_ne (ne_of_none e hp)]; exact t.hh b u e n
  · by_cases hb : b = p
    · subst hb; rw [upd_same]; simp
    · rw [upd_ne hb]; exact t.ho b e
  · rcases List.mem_append.mp h with h | h
    · exact t.nw a h
    · have : a = p := by simpa using h
      subst this
      exact .inr hp
theorem dE_dic {keys : List (Option Expr)} {values : List Expr} {Q : Dt → Mu → Prop} (h : dP X J pos keys values ρ μ fun ps μ1 => ∃ es : List (Key × Dt), ps = es.map (fun kv => (keyD kv.1, kv.2)) ∧ es.length ≤ 15 ∧ Q (.dic (mergeD [] es)) μ1)
    (hall : keys.all (·.isSome) = true := by rfl) (hl : keys.length = values.length := by rfl) (h0 : keys ≠ [] := by exact fun z => by cases z) (h15 : keys.length ≤ 15 := by decide) : dE X J (.Dict keys values pos) ρ μ Q := .mk fun as G H σ S =>
  disp_core (R := fun es μ1 => Q (.dic (mergeD [] es)) μ1) S h hall hl h0 h15 fun p H2 es kvs μ1 as2 G2 t hp m e np gp hk q => ⟨_, μ1, as2, _, t.take hp gp, m.take np gp, .dic upd_same (hk.mono (same_upd_none gp) fun _ _ h => h), q⟩
theorem dE_dicM {keys : List (Option Expr)} {values : List Expr} {Q : Dt → Mu → Prop} (h : dP X J pos keys values ρ μ fun ps μ1 => ∃ es : List (Key × Dt), ps = es.map (fun kv => (keyD kv.1, kv.2)) ∧ es.length ≤ 15 ∧ Q (.mut μ1.length) (μ1 ++ [.dic (mergeD [] es)]))
    (hall : keys.all (·.isSome) = true := by rfl) (hl : keys.length = values.length := by rfl) (h0 : keys ≠ [] := by exact fun z => by cases z) (h15 : keys.length ≤ 15 := by decide) : dE X J (.Dict keys values pos) ρ μ Q := .mk fun as G H σ S =>
  disp_core (R := fun es μ1 => Q (.mut μ1.length) (μ1 ++ [.dic (mergeD [] es)])) S h hall hl h0 h15 fun p H2 es kvs μ1 as2 G2 t hp m e np gp hk q => ⟨_, _, as2 ++ [p], G2, t.takeM hp, m.takeM (mo := .dic (mergeD [] es)) np gp ⟨_, rfl, hk⟩, .mut (by rw [← m.len]; simp), q⟩
theorem dE_dnew {Q : Dt → Mu → Prop} (q : Q (.dic []) μ) : dE X J (.Dict [] [] pos) ρ μ Q := .mk fun as G H σ S => pe_dnewK.w fun p hp => .lay S.mem hp (.dic upd_same .nil) q
theorem dE_dnewM {Q : Dt → Mu → Prop} (q : Q (.mut μ.length) (μ ++ [.dic []])) : dE X J (.Dict [] [] pos) ρ μ Q := .mk fun as G H σ S => pe_dnewK.w fun p hp => .layM (mo := .dic []) S.mem hp ⟨[], rfl, .nil⟩ q
end
end DL

/-! D3: what is walked, targets, comprehensions, statements. -/
namespace DL
open PySem PySem.Spec PyProof.Rows L2

/-! ### what is walked -/
/-- an iterator that yields the data xs, while ok holds of the mutable objects -/
structure Src (K : PySem.W.Frag) (J : It) (as0 : List Addr) (G0 : Hp) (ok : Mu → Prop) (xs : List Dt) : Prop where
  item : ∀ (as : List Addr) (G H : Hp) (μ : Mu), Same G0 G → (∀ (k : Nat) (a : Addr), as0[k]? = some a → as[k]? = some a) → Mem K as G H μ → ok μ → ∀ (i : Nat) (x : Dt), xs[i]? = some x →
    J.go i H ∧ ∀ v H', J.yld i H v H' → ∃ G', Step as G H as G' H' ∧ Mem K as G' H' μ ∧ At K as G' v x
  stop : ∀ (as : List Addr) (G H : Hp) (μ : Mu), Same G0 G → (∀ (k : Nat) (a : Addr), as0[k]? = some a → as[k]? = some a) → Mem K as G H μ → ok μ → J.stop xs.length H
def wI (X : Cx) (tg iter : Expr) : TI := fun σ H R => ∀ pins s, Inv X pins σ H s → wpAny (model X.prog X.w) X.A (eval iter X.env) (fun v s1 => wpAny (model X.prog X.w) X.A (pyIter v) (PIE X pins σ tg R) X.xe s1) X.xe s
theorem piW {X : Cx} {tg iter : Expr} : PI X tg iter (wI X tg iter) := ⟨fun pins s _ _ _ I h => h pins s I⟩
structure dI (X : Cx) (J : JX) (tg iter : Expr) (ρ : Env') (μ : Mu) (Q : List Dt → (Mu → Prop) → Mu → Prop) : Prop where
  go : ∀ as G H σ, Sx X J as G H σ ρ μ → wI X tg iter σ H fun It H1 => ∃ xs ok μ1 as1 G1, Step as G H as1 G1 H1 ∧ Mem X.K as1 G1 H1 μ1 ∧ Src X.K It as1 G1 ok xs ∧ Q xs ok μ1
instance {X : Cx} {J : JX} {tg iter : Expr} {ρ : Env'} {μ : Mu} {Q : List Dt → (Mu → Prop) → Mu → Prop} : CoeFun (dI X J tg iter ρ μ Q) (fun _ => ∀ as G H σ, Sx X J as G H σ ρ μ → wI X tg iter σ H fun It H1 => ∃ xs ok μ1 as1 G1, Step as G H as1 G1 H1 ∧ Mem X.K as1 G1 H1 μ1 ∧ Src X.K It as1 G1 ok xs ∧ Q xs ok μ1) := ⟨dI.go⟩
theorem src_list {K : PySem.W.Frag} {as0 : List Addr} {G0 : Hp} {p : Addr} {vs : List V} {ds : List Dt} (h : SqL K G0 p vs) (t : Ats K as0 G0 vs ds) : Src K (Itl K p) as0 G0 (fun _ => True) ds where
  item := fun as G H μ g ix m _ i x hx => by
    have hq : SqL K H p vs := m.same.seq (g.seq h)
    obtain ⟨v, hv, av⟩ := t.got hx
    refine ⟨⟨vs, v, hq, hv⟩, fun w H' ⟨e, y⟩ => ?_⟩
    subst e
    have := y vs hq
    rw [hv] at this
    cases this
    exact ⟨G, .refl _ _ _, m, av.mono g ix⟩
  stop := fun as G H μ g ix m _ => ⟨vs, m.same.seq (g.seq h), Nat.le_of_eq t.length⟩
theorem src_tup {K : PySem.W.Frag} {as0 : List Addr} {G0 : Hp} {p : Addr} {vs : List V} {ds : List Dt} (h : SqT K G0 p vs) (t : Ats K as0 G0 vs ds) : Src K (Itt K p) as0 G0 (fun _ => True) ds where
  item := fun as G H μ g ix m _ i x hx => by
    have hq : SqT K H p vs := Same.tup m.same (Same.tup g h)
    obtain ⟨v, hv, av⟩ := t.got hx
    refine ⟨⟨vs, v, hq, hv⟩, fun w H' ⟨e, y⟩ => ?_⟩
    subst e
    have := y vs hq
    rw [hv] at this
    cases this
    exact ⟨G, .refl _ _ _, m, av.mono g ix⟩
  stop := fun as G H μ g ix m _ => ⟨vs, Same.tup m.same (Same.tup g h), Nat.le_of_eq t.length⟩
theorem src_mut {K : PySem.W.Frag} {as0 : List Addr} {G0 : Hp} {p : Addr} {k : Nat} {ds : List Dt} (h : as0[k]? = some p) : Src K (Itl K p) as0 G0 (fun μ => μ[k]? = some (.lst ds)) ds where
  item := fun as G H μ g ix m ok i x hx => by
    obtain ⟨p', vs, e, hp, hH, t⟩ := mut_at m (.mut (ix _ _ h)) ok
    cases e
    have hq : SqL K H p vs := .of hH
    obtain ⟨v, hv, av⟩ := t.got hx
    refine ⟨⟨vs, v, hq, hv⟩, fun w H' ⟨e, y⟩ => ?_⟩
    subst e
    have := y vs hq
    rw [hv] at this
    cases this
    exact ⟨G, .refl _ _ _, m, av⟩
  stop := fun as G H μ g ix m ok => by
    obtain ⟨p', vs, e, hp, hH, t⟩ := mut_at m (.mut (ix _ _ h)) ok
    cases e
    exact ⟨vs, .of hH, Nat.le_of_eq t.length⟩
def okSeq (d : Dt) (xs : List Dt) : Mu → Prop := fun μ => seqM μ d = some xs
section
variable {X : Cx} {J : JX} {e a b c o i tg : Expr} {es : List Expr} {ρ : Env'} {μ : Mu} {σ : L2.St} {H : Hp} {pos : Pos}
/-- a list or tuple -/
theorem dI_seq {l : Expr} {Q : List Dt → (Mu → Prop) → Mu → Prop} (h : dE X J l ρ μ fun d μ1 => ∃ xs, seqM μ1 d = some xs ∧ Q xs (okSeq d xs) μ1) : dI X J tg l ρ μ Q := .mk fun as G H σ S pins s I => by
  refine thn (h as G H σ S pins s I) fun v s1 ⟨x, H1, I1, r1, d, μ1, as1, G1, t1, m1, a1, xs, hs, q⟩ => ?_
  have core : ∀ It : It, Src X.K It as1 G1 (okSeq d xs) xs → ∃ xs ok μ1 as1 G1, Step as G H as1 G1 H1 ∧ Mem X.K as1 G1 H1 μ1 ∧ Src X.K It as1 G1 ok xs ∧ Q xs ok μ1 := fun It z => ⟨xs, _, μ1, as1, G1, t1, m1, z, q⟩
  have imp : ∀ {It : It} {ok : Mu → Prop}, Src X.K It as1 G1 ok xs → (∀ μ, okSeq d xs μ → ok μ) → Src X.K It as1 G1 (okSeq d xs) xs := fun z f =>
    ⟨fun as G H μ g ix m k => z.item as G H μ g ix m (f μ k), fun as G H μ g ix m k => z.stop as G H μ g ix m (f μ k)⟩
  obtain ⟨p, vs, ev, hx, hq⟩ := seq_at m1 a1 hs
  subst ev
  cases r1
  rcases hq with ⟨hq, hn⟩ | ⟨hq, ws, ed⟩
  · obtain ⟨its, rv, pl, hz⟩ := I1.list hq
    refine wpAny_pyIter_list pl.isList ?_
    refine ⟨s1.heap.objs.size, [s1.heap.objs.size], _, Itl X.K p, H1, rfl, I1.kept (t' := s1.toks) fun b o e => Heap.get?_push_of_some _ e, turn_list p _, ⟨_, Heap.get?_push_size _ rfl, rfl, rfl⟩, fun b hb => ?_, core _ ?_⟩
    · have e : b = s1.heap.objs.size := by simpa using hb
      subst e
      exact I1.fpOk (Nat.le_refl _) (I1.hok.fresh (Nat.le_refl _))
    · cases a1 with
      | lst h1 h2 =>
        simp only [seqM, Option.some.injEq] at hs
        subst hs
        exact imp (src_list h1 h2) fun _ _ => trivial
      | tup h1 h2 => exact absurd rfl (hn _)
      | «mut» h1 =>
        refine imp (src_mut (ds := xs) h1) fun μ' z => ?_
        simp only [okSeq, seqM] at z
        split at z
        · cases z
          assumption
        · cases z
      | _ => simp [seqM] at hs
  · obtain ⟨its, rv, pl, hz⟩ := I1.tuple hq
    refine wpAny_pyIter_tuple (show s1.heap.IsTuple p its.toArray from pl) ?_
    refine ⟨s1.heap.objs.size, [s1.heap.objs.size], _, Itt X.K p, H1, rfl, I1.kept (t' := s1.toks) fun b o e => Heap.get?_push_of_some _ e, turn_tuple p _, ⟨_, Heap.get?_push_size _ rfl, rfl, rfl⟩, fun b hb => ?_, core _ ?_⟩
    · have e : b = s1.heap.objs.size := by simpa using hb
      subst e
      exact I1.fpOk (Nat.le_refl _) (I1.hok.fresh (Nat.le_refl _))
    · subst ed
      cases a1 with
      | tup h1 h2 =>
        simp only [seqM, Option.some.injEq] at hs
        subst hs
        exact imp (src_tup h1 h2) fun _ _ => trivial
theorem wI_of {wi : TI} (h : PI X tg e wi) {R : It → Hp → Prop} (q : wi σ H R) : wI X tg e σ H R := fun pins s I => h.run pins s σ H R I q
/-- lo, lo + 1, .. -/
def rng (lo : Int) (n : Nat) : List Dt := (List.range n).map fun (i : Nat) => Dt.int (lo + (i : Int))
theorem rng_length (lo : Int) (n : Nat) : (rng lo n).length = n := by simp [rng]
theorem rng_get {lo : Int} {n i : Nat} {x : Dt} (h : (rng lo n)[i]? = some x) : i < n ∧ x = .int (lo + i) := by
  have hl := (List.getElem?_eq_some_iff.mp h).1
  rw [rng_length] at hl
  refine ⟨hl, ?_⟩
  simp [rng, hl] at h
  exact h.symm
theorem src_rng {K : PySem.W.Frag} {as0 : List Addr} {G0 : Hp} {lo : Int} {n : Nat} : Src K (Itr lo n) as0 G0 (fun _ => True) (rng lo n) where
  item := fun as G H μ g ix m _ i x hx => by
    obtain ⟨hl, e⟩ := rng_get hx
    subst e
    refine ⟨hl, fun v H' ⟨e1, e2⟩ => ?_⟩
    subst e1 e2
    exact ⟨G, .refl _ _ _, m, .int _⟩
  stop := fun as G H μ g ix m _ => by rw [rng_length]; exact Nat.le_refl _
theorem dI_range1 {p : Pos} {Q : List Dt → (Mu → Prop) → Mu → Prop} (hm : X.mg "range" = none) (h : dA X J [a] ρ μ fun ds μ1 => ∃ n : Int, ds = [.int n] ∧ -(2 ^ 62) ≤ n ∧ n < 2 ^ 62 ∧ Q (rng 0 n.toNat) (fun _ => True) μ1) (hg : Gl X "range" := by rfl) (hs : starEach [a] X.env = [(false, eval a X.env)] := by rfl) :
    dI X J tg (.Call (.Name "range" p) [a] [] pos) ρ μ Q := .mk fun as G H σ S => by
  refine wI_of (pi_range1 hg hm paW hs) ?_
  show wA X [a] σ H fun vs H1 => ∃ j : Int, vs = [.int j] ∧ _
  refine wA_mono (h as G H σ S) fun vs H1 ⟨ds, μ1, as1, G1, t1, m1, a1, n, e, h1, h2, q⟩ => ?_
  subst e
  obtain ⟨x, rfl, ax⟩ := a1.one
  cases ax
  exact ⟨n, rfl, h1, h2, _, _, μ1, as1, G1, t1, m1, src_rng, q⟩
theorem dI_range2 {p : Pos} {Q : List Dt → (Mu → Prop) → Mu → Prop} (hm : X.mg "range" = none) (h : dA X J [a, b] ρ μ fun ds μ2 => ∃ i j : Int, ds = [.int i, .int j] ∧ (-(2 ^ 62) ≤ i ∧ i < 2 ^ 62 ∧ -(2 ^ 62) ≤ j ∧ j < 2 ^ 62) ∧ Q (rng i (j - i).toNat) (fun _ => True) μ2) (hg : Gl X "range" := by rfl) (hs : starEach [a, b] X.env = [(false, eval a X.env), (false, eval b X.env)] := by rfl) (hs2 : starEach [b] X.env = [(false, eval b X.env)] := by rfl) :
    dI X J tg (.Call (.Name "range" p) [a, b] [] pos) ρ μ Q := .mk fun as G H σ S => by
  refine wI_of (pi_range2 hg hm paW hs hs2) ?_
  show wA X [a, b] σ H fun vs H1 => ∃ i j : Int, vs = [.int i, .int j] ∧ _
  refine wA_mono (h as G H σ S) fun vs H1 ⟨ds, μ1, as1, G1, t1, m1, a1, i, j, e, h1, q⟩ => ?_
  subst e
  obtain ⟨x, y, rfl, ax, ay⟩ := a1.two
  cases ax
  cases ay
  exact ⟨i, j, rfl, h1, _, _, μ1, as1, G1, t1, m1, src_rng, q⟩

/-! ### targets -/
def wG (X : Cx) (tg : Expr) : TG := fun v σ H Q => ∀ pins s u, Inv X pins σ H s → RelV v u → wpAny (model X.prog X.w) X.A (assign tg X.env u) (fun _ s' => ∃ σ' H', Inv X pins σ' H' s' ∧ Q σ' H') X.xe s
def wGs (X : Cx) (ts : List Expr) : TGs := fun vs σ H Q => ∀ pins s us, Inv X pins σ H s → Vals vs us → wpAny (model X.prog X.w) X.A (assignInOrder ((assignEach ts X.env).map (·.2)) us) (fun _ s' => ∃ σ' H', Inv X pins σ' H' s' ∧ Q σ' H') X.xe s
theorem pgW : PG X tg (wG X tg) := ⟨fun pins s σ H v u Q I r h => h pins s u I r⟩
theorem pgsW {ts : List Expr} : PGs X ts (wGs X ts) := ⟨fun pins s σ H v u Q I r h => h pins s u I r⟩
/-- behind a statement's step: slots and memory -/
def AfS (K : PySem.W.Frag) (as : List Addr) (G H : Hp) (Q : Env' → Mu → Prop) : L2.St → Hp → Prop := fun σ' H' => ∃ ρ' μ' as' G', Step as G H as' G' H' ∧ Mem K as' G' H' μ' ∧ Slots K as' G' σ' ρ' ∧ Q ρ' μ'
theorem AfS.back {K : PySem.W.Frag} {as as1 : List Addr} {G H G1 H1 : Hp} {Q : Env' → Mu → Prop} {σ' : L2.St} {H' : Hp} (s : Step as G H as1 G1 H1) (h : AfS K as1 G1 H1 Q σ' H') : AfS K as G H Q σ' H' := by
  obtain ⟨ρ', μ', as', G', t, m, a, q⟩ := h
  exact ⟨ρ', μ', as', G', s.trans t, m, a, q⟩
theorem AfS.imp {K : PySem.W.Frag} {as : List Addr} {G H : Hp} {Q Q' : Env' → Mu → Prop} {σ' : L2.St} {H' : Hp} (h : AfS K as G H Q σ' H') (f : ∀ ρ μ, Q ρ μ → Q' ρ μ) : AfS K as G H Q' σ' H' := by
  obtain ⟨ρ', μ', as', G', t, m, a, q⟩ := h
  exact ⟨ρ', μ', as', G', t, m, a, f _ _ q⟩
structure dG (X : Cx) (J : JX) (tg : Expr) (d : Dt) (ρ : Env') (μ : Mu) (Q : Env' → Mu → Prop) : Prop where
  go : ∀ as G H σ v, Sx X J as G H σ ρ μ → At X.K as G v d → wG X tg v σ H (AfS X.K as G H Q)
instance {X : Cx} {J : JX} {tg : Expr} {d : Dt} {ρ : Env'} {μ : Mu} {Q : Env' → Mu → Prop} : CoeFun (dG X J tg d ρ μ Q) (fun _ => ∀ as G H σ v, Sx X J as G H σ ρ μ → At X.K as G v d → wG X tg v σ H (AfS X.K as G H Q)) := ⟨dG.go⟩
structure dGs (X : Cx) (J : JX) (ts : List Expr) (ds : List Dt) (ρ : Env') (μ : Mu) (Q : Env' → Mu → Prop) : Prop where
  go : ∀ as G H σ vs, Sx X J as G H σ ρ μ → Ats X.K as G vs ds → wGs X ts vs σ H (AfS X.K as G H Q)
instance {X : Cx} {J : JX} {ts : List Expr} {ds : List Dt} {ρ : Env'} {μ : Mu} {Q : Env' → Mu → Prop} : CoeFun (dGs X J ts ds ρ μ Q) (fun _ => ∀ as G H σ vs, Sx X J as G H σ ρ μ → Ats X.K as G vs ds → wGs X ts vs σ H (AfS X.K as G H Q)) := ⟨dGs.go⟩
theorem wG_mono {v : V} {Q Q' : L2.St → Hp → Prop} (h : wG X tg v σ H Q) (f : ∀ σ' H', Q σ' H' → Q' σ' H') : wG X tg v σ H Q' := fun pins s u I r => thn (h pins s u I r) fun _ _ ⟨σ', H', I', q⟩ => ⟨σ', H', I', f _ _ q⟩
theorem dG_name (i : Nat) {x : Str} {d : Dt} {Q : Env' → Mu → Prop} (hN : X.N.Nodup) (hi : X.N[i]? = some x) (q : Q (ρ.set i (some d)) μ) (hx : Loc X.env.scope x := by first | exact .inl rfl | exact .inr rfl)
    (hf : X.fn x = true ∨ X.env.scope.names.lookup x = some .local := by first | exact .inl rfl | exact .inr rfl | assumption) : dG X J (.Name x pos) d ρ μ Q := .mk fun as G H σ v S a pins s u I r =>
  (pg_name hN hi hx hf).run pins s σ H v u _ I r ⟨_, μ, as, G, .refl _ _ _, S.mem, S.sl.set i a, q⟩
theorem dGs_nil {Q : Env' → Mu → Prop} (q : Q ρ μ) : dGs X J [] [] ρ μ Q := .mk fun as G H σ vs S a pins s us I r => by
  cases a
  exact pgs_nil.run pins s σ H [] us _ I r ⟨rfl, ρ, μ, as, G, .refl _ _ _, S.mem, S.sl, q⟩
theorem dGs_cons {ts : List Expr} {d : Dt} {ds : List Dt} {Q : Env' → Mu → Prop} (h : dG X J e d ρ μ fun ρ1 μ1 => dGs X J ts ds ρ1 μ1 Q) (hs : (assignEach (e :: ts) X.env).map (·.2) = assign e X.env :: (assignEach ts X.env).map (·.2) := by rfl) : dGs X J (e :: ts) (d :: ds) ρ μ Q := .mk fun as G H σ vs S a pins s us I r => by
  cases a with
  | cons a1 ar =>
    rename_i v vr
    refine (pgs_cons pgW pgsW hs).run pins s σ H (v :: vr) us _ I r ⟨v, vr, rfl, ?_⟩
    show wG X e v σ H fun σ' H' => wGs X ts vr σ' H' _
    refine wG_mono (h as G H σ v S a1) fun σ1 H1 ⟨ρ1, μ1, as1, G1, t1, m1, s1, q1⟩ pins' s' us' I' r' => ?_
    exact thn (q1 as1 G1 H1 σ1 vr ⟨m1, s1, S.tk.step t1⟩ (ar.mono t1.gg t1.ix) pins' s' us' I' r') fun _ _ ⟨σ2, H2, I2, q2⟩ => ⟨σ2, H2, I2, q2.back t1⟩
theorem dG_tup {es : List Expr} {kk : Nat} {ds : List Dt} {Q : Env' → Mu → Prop} (hc : X.calm = true) (hl : (assignEach es X.env).length = ds.length) (h : dGs X J es ds ρ μ Q) (hst : (assignEach es X.env).findIdx? (·.1) = none := by rfl) : dG X J (.Tuple es kk pos) (.tup ds) ρ μ Q := .mk fun as G H σ v S a pins s u I r => by
  cases a with
  | tup h1 h2 =>
    rename_i p xs
    exact (pg_tup hc pgsW rfl hst).run pins s σ H (.ref p) u _ I r ⟨p, xs, rfl, Same.tup S.mem.same h1, by rw [h2.length, hl], h as G H σ xs S h2⟩
theorem dG_lst {es : List Expr} {kk : Nat} {d : Dt} {ds : List Dt} {Q : Env' → Mu → Prop} (hc : X.calm = true) (hd : isL μ d) (hsq : seqM μ d = some ds) (hl : (assignEach es X.env).length = ds.length) (h : dGs X J es ds ρ μ Q) (hst : (assignEach es X.env).findIdx? (·.1) = none := by rfl) : dG X J (.Tuple es kk pos) d ρ μ Q := .mk fun as G H σ v S a pins s u I r => by
  obtain ⟨p, xs, rfl, hx, hq⟩ := seq_at S.mem a hsq
  rcases hq with ⟨hq, _⟩ | ⟨hq, ws, e⟩
  · exact (pg_lst hc pgsW rfl hst).run pins s σ H (.ref p) u _ I r ⟨p, xs, rfl, hq, by rw [hx.length, hl], h as G H σ xs S hx⟩
  · exact absurd e (hd.2 ws)
end
end DL

/-! D4: comprehensions, statements, defs. -/
namespace DL
open PySem PySem.Spec PyProof.Rows L2

/-! ### statements -/
structure DEnds where
  nx : Env' → Mu → Prop
  rt : Dt → Mu → Prop
  bk : Env' → Mu → Prop := fun _ _ => False
  ct : Env' → Mu → Prop := fun _ _ => False
def EndsOf (K : PySem.W.Frag) (as : List Addr) (G H : Hp) (D : DEnds) : Ends := { nx := AfS K as G H D.nx, rt := AfE K as G H D.rt, bk := AfS K as G H D.bk, ct := AfS K as G H D.ct }
structure dS (X : Cx) (J : JX) (st : Stmt) (ρ : Env') (μ : Mu) (D : DEnds) : Prop where
  go : ∀ as G H σ, Sx X J as G H σ ρ μ → wS X st (EndsOf X.K as G H D) σ H
instance {X : Cx} {J : JX} {st : Stmt} {ρ : Env'} {μ : Mu} {D : DEnds} : CoeFun (dS X J st ρ μ D) (fun _ => ∀ as G H σ, Sx X J as G H σ ρ μ → wS X st (EndsOf X.K as G H D) σ H) := ⟨dS.go⟩
structure dSs (X : Cx) (J : JX) (st : List Stmt) (ρ : Env') (μ : Mu) (D : DEnds) : Prop where
  go : ∀ as G H σ, Sx X J as G H σ ρ μ → wSs X st (EndsOf X.K as G H D) σ H
instance {X : Cx} {J : JX} {st : List Stmt} {ρ : Env'} {μ : Mu} {D : DEnds} : CoeFun (dSs X J st ρ μ D) (fun _ => ∀ as G H σ, Sx X J as G H σ ρ μ → wSs X st (EndsOf X.K as G H D) σ H) := ⟨dSs.go⟩
structure ELe (D D' : Ends) : Prop where
  nx : ∀ σ H, D.nx σ H → D'.nx σ H
  rt : ∀ v H, D.rt v H → D'.rt v H
  bk : ∀ σ H, D.bk σ H → D'.bk σ H
  ct : ∀ σ H, D.ct σ H → D'.ct σ H
theorem SP.mono {X : Cx} {pins : List (Addr × Obj)} {D D' : Ends} {f : Flow} {s' : Shared} (l : ELe D D') (h : SP X pins D f s') : SP X pins D' f s' := by
  cases f with
  | next => obtain ⟨σ, H, I, q⟩ := h; exact ⟨σ, H, I, l.nx _ _ q⟩
  | brk => obtain ⟨σ, H, I, q⟩ := h; exact ⟨σ, H, I, l.bk _ _ q⟩
  | cont => obtain ⟨σ, H, I, q⟩ := h; exact ⟨σ, H, I, l.ct _ _ q⟩
  | ret u => obtain ⟨v, σ, H, I, r, q⟩ := h; exact ⟨v, σ, H, I, r, l.rt _ _ q⟩
theorem wS_mono {X : Cx} {st : Stmt} {D D' : Ends} {σ : L2.St} {H : Hp} (h : wS X st D σ H) (l : ELe D D') : wS X st D' σ H := fun pins s I => thn (h pins s I) fun _ _ z => SP.mono l z
theorem wSs_mono {X : Cx} {st : List Stmt} {D D' : Ends} {σ : L2.St} {H : Hp} (h : wSs X st D σ H) (l : ELe D D') : wSs X st D' σ H := fun pins s I => thn (h pins s I) fun _ _ z => SP.mono l z
theorem EndsOf.back {K : PySem.W.Frag} {as as1 : List Addr} {G H G1 H1 : Hp} (D : DEnds) (s : Step as G H as1 G1 H1) : ELe (EndsOf K as1 G1 H1 D) (EndsOf K as G H D) :=
  ⟨fun _ _ z => AfS.back s z, fun _ _ z => AfE.back s z, fun _ _ z => AfS.back s z, fun _ _ z => AfS.back s z⟩
/-- what follows, from where a step has led -/
theorem AfS.now {K : PySem.W.Frag} {as as1 : List Addr} {G H G1 H1 : Hp} {Q : Env' → Mu → Prop} {σ : L2.St} {ρ : Env'} {μ : Mu} (t : Step as G H as1 G1 H1) (m : Mem K as1 G1 H1 μ) (s : Slots K as1 G1 σ ρ) (q : Q ρ μ) : AfS K as G H Q σ H1 := ⟨ρ, μ, as1, G1, t, m, s, q⟩
section
variable {X : Cx} {J : JX} {e a b c o i tg : Expr} {es : List Expr} {ρ : Env'} {μ : Mu} {σ : L2.St} {H : Hp} {pos : Pos} {D : DEnds} {st : Stmt} {rest : List Stmt}
theorem dSs_nil (q : D.nx ρ μ) : dSs X J [] ρ μ D := .mk fun as G H σ S => (pss_nil (X := X)).w (.now (.refl _ _ _) S.mem S.sl q)
theorem dSs_cons (h : dS X J st ρ μ { D with nx := fun ρ' μ' => dSs X J rest ρ' μ' D }) : dSs X J (st :: rest) ρ μ D := .mk fun as G H σ S => by
  refine (pss_cons psW pssW).w ?_
  show wS X st { EndsOf X.K as G H D with nx := wSs X rest (EndsOf X.K as G H D) } σ H
  refine wS_mono (h as G H σ S) ⟨fun σ1 H1 ⟨ρ1, μ1, as1, G1, t, m, s, q⟩ => ?_, fun _ _ z => z, fun _ _ z => z, fun _ _ z => z⟩
  exact wSs_mono (q as1 G1 H1 σ1 ⟨m, s, S.tk.step t⟩) (EndsOf.back D t)
theorem dSs_one (h : dS X J st ρ μ D) : dSs X J [st] ρ μ D := .mk fun as G H σ S => (pss_one psW).w (h as G H σ S)
theorem dS_imp {D' : DEnds} (h : dS X J st ρ μ D) (h1 : ∀ ρ' μ', D.nx ρ' μ' → D'.nx ρ' μ') (h2 : ∀ d μ', D.rt d μ' → D'.rt d μ') (h3 : ∀ ρ' μ', D.bk ρ' μ' → D'.bk ρ' μ') (h4 : ∀ ρ' μ', D.ct ρ' μ' → D'.ct ρ' μ') : dS X J st ρ μ D' := .mk fun as G H σ S =>
  wS_mono (h as G H σ S) ⟨fun _ _ z => AfS.imp z h1, fun _ _ ⟨d, μ', as', G', t, m, a, q⟩ => ⟨d, μ', as', G', t, m, a, h2 _ _ q⟩, fun _ _ z => AfS.imp z h3, fun _ _ z => AfS.imp z h4⟩
theorem dSs_imp {D' : DEnds} {sts : List Stmt} (h : dSs X J sts ρ μ D) (h1 : ∀ ρ' μ', D.nx ρ' μ' → D'.nx ρ' μ') (h2 : ∀ d μ', D.rt d μ' → D'.rt d μ') (h3 : ∀ ρ' μ', D.bk ρ' μ' → D'.bk ρ' μ') (h4 : ∀ ρ' μ', D.ct ρ' μ' → D'.ct ρ' μ') : dSs X J sts ρ μ D' := .mk fun as G H σ S =>
  wSs_mono (h as G H σ S) ⟨fun _ _ z => AfS.imp z h1, fun _ _ ⟨d, μ', as', G', t, m, a, q⟩ => ⟨d, μ', as', G', t, m, a, h2 _ _ q⟩, fun _ _ z => AfS.imp z h3, fun _ _ z => AfS.imp z h4⟩
/-- behind an expression's step, with the slots as they are -/
theorem AfS.of {as as1 : List Addr} {G H G1 H1 : Hp} {Q : Env' → Mu → Prop} {μ1 : Mu} {J : JX} (S : Sx X J as G H σ ρ μ) (t : Step as G H as1 G1 H1) (m : Mem X.K as1 G1 H1 μ1) (q : Q ρ μ1) : AfS X.K as G H Q σ H1 := ⟨ρ, μ1, as1, G1, t, m, S.sl.mono t, q⟩
theorem dS_expr (h : dE X J e ρ μ fun _ μ1 => D.nx ρ μ1) (hs : swapsWith e none pos.line X.env = pure false := by rfl) : dS X J (.Expr e pos) ρ μ D := .mk fun as G H σ S => by
  refine (ps_expr peW hs).w ?_
  show wE X e σ H fun _ H1 => AfS X.K as G H D.nx σ H1
  exact wE_mono (h as G H σ S) fun _ H1 ⟨d, μ1, as1, G1, t, m, a, q⟩ => .of S t m q
theorem dS_pass (q : D.nx ρ μ) : dS X J (.Pass pos) ρ μ D := .mk fun as G H σ S => (ps_pass (X := X)).w (.now (.refl _ _ _) S.mem S.sl q)
theorem dS_break (q : D.bk ρ μ) : dS X J (.Break pos) ρ μ D := .mk fun as G H σ S => (ps_break (X := X)).w (.now (.refl _ _ _) S.mem S.sl q)
theorem dS_continue (q : D.ct ρ μ) : dS X J (.Continue pos) ρ μ D := .mk fun as G H σ S => (ps_continue (X := X)).w (.now (.refl _ _ _) S.mem S.sl q)
theorem dS_ret (h : dE X J e ρ μ D.rt) : dS X J (.Return (some e) pos) ρ μ D := .mk fun as G H σ S => by
  refine (ps_ret peW).w ?_
  exact h as G H σ S
theorem dS_retN (q : D.rt .non μ) : dS X J (.Return none pos) ρ μ D := .mk fun as G H σ S => (ps_retN (X := X)).w (AfE.now S.mem .non q)
theorem dS_if {ts us : List Stmt} (h : dT X J c ρ μ fun k μ1 => if k = true then dSs X J ts ρ μ1 D else dSs X J us ρ μ1 D) : dS X J (.If c ts us pos) ρ μ D := .mk fun as G H σ S => by
  refine (ps_if ptW pssW pssW).w ?_
  show wT X c σ H fun k H1 => if k = true then wSs X ts _ σ H1 else wSs X us _ σ H1
  refine wT_mono (h as G H σ S) fun k H1 ⟨μ1, as1, G1, t, m, q⟩ => ?_
  cases k with
  | true =>
    rw [if_pos rfl] at q ⊢
    exact wSs_mono (q as1 G1 H1 σ (S.step t m)) (EndsOf.back D t)
  | false =>
    rw [if_neg Bool.false_ne_true] at q ⊢
    exact wSs_mono (q as1 G1 H1 σ (S.step t m)) (EndsOf.back D t)
/-- x = e -/
theorem dS_set (i : Nat) {x : Str} {pos' : Pos} (hN : X.N.Nodup) (hi : X.N[i]? = some x) (h : dE X J e ρ μ fun d μ1 => D.nx (ρ.set i (some d)) μ1) (hx : Loc X.env.scope x := by first | exact .inl rfl | exact .inr rfl) (hs : swapsWith e (some (.Name x pos')) pos.line X.env = pure false := by rfl)
    (hf : X.fn x = true ∨ X.env.scope.names.lookup x = some .local := by first | exact .inl rfl | exact .inr rfl | assumption) : dS X J (.Assign [.Name x pos'] e pos) ρ μ D := .mk fun as G H σ S => by
  refine (ps_set hN hi hx peW hs hf).w ?_
  show wE X e σ H fun v H1 => AfS X.K as G H D.nx (σ.set i (some v)) H1
  exact wE_mono (h as G H σ S) fun v H1 ⟨d, μ1, as1, G1, t, m, a, q⟩ => ⟨_, μ1, as1, G1, t, m, (S.sl.mono t).set i a, q⟩
/-- tg = e -/
theorem dS_asg (h : dE X J e ρ μ fun d μ1 => dG X J tg d ρ μ1 D.nx) (hs : swapsWithSole [tg] e pos.line X.env = pure false := by rfl) (hw : swappedStores [tg] e X.env = pure none := by rfl)
    (h1 : (assignEach [tg] X.env).map (·.2) = [assign tg X.env] := by rfl) : dS X J (.Assign [tg] e pos) ρ μ D := .mk fun as G H σ S => by
  refine (ps_asg peW pgW hs hw h1).w ?_
  show wE X e σ H fun v H1 => wG X tg v σ H1 (AfS X.K as G H D.nx)
  exact wE_mono (h as G H σ S) fun v H1 ⟨d, μ1, as1, G1, t, m, a, q⟩ => wG_mono (q as1 G1 H1 σ v (S.step t m) a) fun _ _ z => z.back t
/-- x, y = a, b -/
theorem dS_par (i j : Nat) {x y : Str} {px py pt : Pos} {kt k2 pt2} (hc : X.calm = true) (hN : X.N.Nodup) (hi : X.N[i]? = some x) (hj : X.N[j]? = some y)
    (h : dA X J [a, b] ρ μ fun ds μ1 => ∃ d e, ds = [d, e] ∧ D.nx ((ρ.set i (some d)).set j (some e)) μ1) (hij : i ≠ j := by decide)
    (hx : X.env.scope.names.lookup x = some .local := by rfl) (hy : X.env.scope.names.lookup y = some .local := by rfl)
    (hw : swappedStores [.Tuple [.Name x px, .Name y py] kt pt] (.Tuple [a, b] k2 pt2) X.env = pure (some [x, y]) := by rfl)
    (hs : swapsWithSole [.Tuple [.Name x px, .Name y py] kt pt] (.Tuple [a, b] k2 pt2) pos.line X.env = pure false := by rfl) :
    dS X J (.Assign [.Tuple [.Name x px, .Name y py] kt pt] (.Tuple [a, b] k2 pt2) pos) ρ μ D := .mk fun as G H σ S => by
  refine (ps_par hc hN hi hj hij hx hy paW hw hs).w ?_
  show wA X [a, b] σ H fun vs H1 => ∃ v w, vs = [v, w] ∧ AfS X.K as G H D.nx ((σ.set i (some v)).set j (some w)) H1
  refine wA_mono (h as G H σ S) fun vs H1 ⟨ds, μ1, as1, G1, t, m, a, d, e, ed, q⟩ => ?_
  subst ed
  obtain ⟨v, w, rfl, av, aw⟩ := a.two
  exact ⟨v, w, rfl, _, μ1, as1, G1, t, m, ((S.sl.mono t).set i av).set j aw, q⟩
/-- x op= e of ints -/
theorem dS_augAdd (i : Nat) {x : Str} {pos' : Pos} (hN : X.N.Nodup) (hi : X.N[i]? = some x) (h : ∃ n : Int, ρ[i]? = some (some (.int n)) ∧ dE X J e ρ μ fun d μ1 => ∃ m : Int, d = .int m ∧ D.nx (ρ.set i (some (.int (n + m)))) μ1) (hx : Loc X.env.scope x := by first | exact .inl rfl | exact .inr rfl)
    (hf : X.fn x = true ∨ X.env.scope.names.lookup x = some .local := by first | exact .inl rfl | exact .inr rfl | assumption) : dS X J (.AugAssign (.Name x pos') .Add e pos) ρ μ D := .mk fun as G H σ S => by
  obtain ⟨n, hn, h⟩ := h
  refine (ps_aug hN hi hx peW ip_add hf).w ?_
  obtain ⟨v, e1, a1⟩ := S.sl.at_ i _ hn
  cases a1
  refine ⟨_, e1, ?_⟩
  show wE X e σ H fun y H1 => ∃ i' j, V.int n = .int i' ∧ y = .int j ∧ AfS X.K as G H D.nx (σ.set i (some (.int (i' + j)))) H1
  refine wE_mono (h as G H σ S) fun y H1 ⟨d, μ1, as1, G1, t, m, a, k, ed, q⟩ => ?_
  subst ed
  cases a
  exact ⟨n, k, rfl, rfl, _, μ1, as1, G1, t, m, (S.sl.mono t).set i (.int _), q⟩
/-- a mutable object at a name is done with: it is data from now on -/
theorem dS_freeze {sts : List Stmt} (i k : Nat) (ds : List Dt) (hi : ρ[i]? = some (some (.mut k))) (hk : μ[k]? = some (.lst ds)) (h : dSs X J sts (ρ.set i (some (.lst ds))) (μ.set k .gone) D) : dSs X J sts ρ μ D := .mk fun as G H σ S => by
  obtain ⟨v, e1, a1⟩ := S.sl.at_ i _ hi
  cases a1 with
  | «mut» h1 =>
    rename_i p
    obtain ⟨p', o, e2, e3, e4, e5⟩ := S.mem.cell k _ hk (by simp)
    rw [h1] at e2; cases e2
    obtain ⟨xs, rfl, ax⟩ := e4
    have t := Step.freeze (o := .lst xs) S.mem h1 e5
    have m := S.mem.freeze h1 e3 e5
    have sl : Slots X.K as (upd G p (.lst xs)) σ (ρ.set i (some (.lst ds))) := by
      have z := (S.sl.mono t).set i (At.lst (a := p) (.of upd_same) (ax.mono (same_upd_none e5) fun _ _ h => h))
      have es : σ.set i (some (V.ref p)) = σ := by
        have hl := (List.getElem?_eq_some_iff.mp e1).1
        apply List.ext_getElem?
        intro j
        by_cases hj : i = j
        · subst hj
          rw [List.getElem?_set_self hl, e1]
        · rw [List.getElem?_set_ne hj]
      rw [es] at z
      exact z
    exact wSs_mono (h as (upd G p (.lst xs)) H σ ⟨m, sl, S.tk.step t⟩) (EndsOf.back D t)
/-- d[k] = v of a dict that changes -/
theorem dS_dput {value : Expr} {pos' : Pos} (hu : X.A.units + 1 < cLine) (h : dE X J value ρ μ fun v μ1 => dE X J o ρ μ1 fun d μ2 => dE X J i ρ μ2 fun e μ3 => ∃ k es key, d = .mut k ∧ e = keyD key ∧ μ3[k]? = some (.dic es) ∧ es.length < sizeLine ∧ D.nx ρ (μ3.set k (.dic (putD es key v))))
    (hs : swapsWith value (some (.Subscript o i pos')) pos.line X.env = pure false := by rfl) : dS X J (.Assign [.Subscript o i pos'] value pos) ρ μ D := .mk fun as G H σ S => by
  refine (ps_dput hu peW peW peW hs).w ?_
  show wE X value σ H fun v H1 => wE X o σ H1 fun x H2 => wE X i σ H2 fun y H3 => ∃ p H4, x = .ref p ∧ DPut H3 p y v H4 ∧ AfS X.K as G H D.nx σ H4
  refine wE_mono (h as G H σ S) fun v H1 ⟨dv, μ1, as1, G1, t1, m1, a1, q1⟩ => wE_mono (q1 as1 G1 H1 σ (S.step t1 m1)) fun x H2 ⟨dx, μ2, as2, G2, t2, m2, a2, q2⟩ =>
    wE_mono (q2 as2 G2 H2 σ ((S.step t1 m1).step t2 m2)) fun y H3 ⟨dy, μ3, as3, G3, t3, m3, a3, k, es, key, e1, e2, hk, hl, q⟩ => ?_
  subst e1 e2
  obtain rfl := key_at a3
  cases a2 with
  | «mut» h1 =>
    obtain ⟨p, oo, f1, f2, f3, f4⟩ := m3.cell k _ hk (by simp)
    rw [t3.ix _ _ h1] at f1; cases f1
    obtain ⟨kvs, rfl, hx⟩ := f3
    have t := (t1.trans t2).trans t3
    have z := hx.put (k := key) ((a1.mono t2.gg t2.ix).mono t3.gg t3.ix)
    refine ⟨_, _, rfl, .k f2 (by rw [hx.length]; exact hl), ρ, _, as3, G3, t.trans (.put m3 (t3.ix _ _ h1)), m3.put (mo := .dic (putD es key dv)) (t3.ix _ _ h1) hk (by simp) ⟨_, rfl, z⟩, (S.sl.mono t), q⟩
/-- xs[i] = v of a list that changes -/
theorem dG_item {d : Dt} {Q : Env' → Mu → Prop} (h : dE X J o ρ μ fun x μ1 => dE X J i ρ μ1 fun y μ2 => ∃ k ds n j, x = .mut k ∧ y = .int n ∧ μ2[k]? = some (.lst ds) ∧ ixN ds.length n = some j ∧ Q ρ (μ2.set k (.lst (ds.set j d))))
    (ha : ∀ v, assign (.Subscript o i pos) X.env v = (do
      let ov ← holding [v] (eval o X.env)
      let iv ← holding [v, ov] (eval i X.env)
      standAt pos
      holding [v, ov, iv] (setItem ov iv v)
      release [v, ov, iv] []) := by intro _; rfl) : dG X J (.Subscript o i pos) d ρ μ Q := .mk fun as G H σ v S a pins s u I r => by
  refine (pg_sub peW peW set_list ha).run pins s σ H v u _ I r ?_
  show wE X o σ H fun x H1 => wE X i σ H1 fun y H2 => rSetL x y v H2 fun H3 => AfS X.K as G H Q σ H3
  refine wE_mono (h as G H σ S) fun x H1 ⟨dx, μ1, as1, G1, t1, m1, a1, q1⟩ => wE_mono (q1 as1 G1 H1 σ (S.step t1 m1)) fun y H2 ⟨dy, μ2, as2, G2, t2, m2, a2, k, ds, n, j, e1, e2, hk, hj, q⟩ => ?_
  subst e1 e2
  cases a2
  have a1' := a1.mono t2.gg t2.ix
  obtain ⟨p, xs, rfl, hp, hH, hx⟩ := mut_at m2 a1' hk
  have t := t1.trans t2
  exact ⟨p, xs, n, j, rfl, rfl, hH, by rw [hx.length]; exact hj, ρ, _, as2, G2, t.trans (.put m2 hp), m2.put (mo := .lst (ds.set j d)) hp hk (by simp) ⟨_, rfl, hx.set j (a.mono t.gg t.ix)⟩, S.sl.mono t, q⟩
/-- for -/
theorem dS_for {iter : Expr} {body : List Stmt} (hp : PassesOwn (model X.prog X.w) X.A X.env X.xe) (hc : X.calm = true)
    (h : dI X J tg iter ρ μ fun xs ok μ1 => ∃ Pv : Nat → Env' → Mu → Prop, Pv 0 ρ μ1 ∧ (∀ i ρ' μ', Pv i ρ' μ' → ok μ') ∧
      (∀ i x ρ' μ', xs[i]? = some x → Pv i ρ' μ' → dG X J tg x ρ' μ' fun ρ2 μ2 => dSs X J body ρ2 μ2 { D with nx := Pv (i + 1), ct := Pv (i + 1), bk := D.nx }) ∧ (∀ ρ' μ', Pv xs.length ρ' μ' → D.nx ρ' μ'))
    (hs : ∀ x, foldedSetIterable iter X.env x = pure x := by intro _; rfl) : dS X J (.For tg iter body [] pos) ρ μ D := .mk fun as G H σ S => by
  refine (ps_for hp hc piW pgW pssW hs).w ?_
  show wI X tg iter σ H fun It H1 => _
  refine wI_mono (h as G H σ S) fun It H1 ⟨xs, ok, μ1, as1, G1, t1, m1, src, Pv, p0, pok, turn, done⟩ => ?_
  refine ⟨fun i m σ' H' => m = xs.length - i ∧ i ≤ xs.length ∧ ∃ ρ' μ' as' G', Step as1 G1 H1 as' G' H' ∧ Mem X.K as' G' H' μ' ∧ Slots X.K as' G' σ' ρ' ∧ Pv i ρ' μ', ⟨xs.length, by simp, Nat.zero_le _, ρ, μ1, as1, G1, .refl _ _ _, m1, S.sl.mono t1, p0⟩, ?_⟩
  rintro i m σ' H' ⟨rfl, hi, ρ', μ', as', G', t', m', s', pv⟩
  by_cases hlt : i < xs.length
  · have hx : xs[i]? = some xs[i] := by simp [hlt]
    obtain ⟨go, yl⟩ := src.item as' G' H' μ' t'.gg t'.ix m' (pok i ρ' μ' pv) i _ hx
    refine .inr ⟨go, fun σ2 H2 => ∃ ρ' μ' as' G', Step as1 G1 H1 as' G' H2 ∧ Mem X.K as' G' H2 μ' ∧ Slots X.K as' G' σ2 ρ' ∧ Pv (i + 1) ρ' μ', fun σ2 H2 z => ⟨xs.length - (i + 1), by omega, rfl, hlt, z⟩, fun x H2 y => ?_⟩
    obtain ⟨G2, t2, m2, a2⟩ := yl x H2 y
    have S2 : Sx X J as' G2 H2 σ' ρ' μ' := ⟨m2, s'.mono t2, (S.tk.step t1).step (t'.trans t2)⟩
    refine wG_mono (turn i _ ρ' μ' hx pv as' G2 H2 σ' x S2 a2) fun σ3 H3 ⟨ρ3, μ3, as3, G3, t3, m3, s3, q3⟩ => ?_
    have T := (t'.trans t2).trans t3
    refine wSs_mono (q3 as3 G3 H3 σ3 ⟨m3, s3, (S.tk.step t1).step T⟩) ⟨?_, ?_, ?_, ?_⟩
    · rintro σ4 H4 ⟨ρ4, μ4, as4, G4, t4, m4, s4, q4⟩
      exact ⟨ρ4, μ4, as4, G4, T.trans t4, m4, s4, q4⟩
    · intro v H4 z
      exact z.back (t1.trans T)
    · intro σ4 H4 z
      exact z.back (t1.trans T)
    · rintro σ4 H4 ⟨ρ4, μ4, as4, G4, t4, m4, s4, q4⟩
      exact ⟨ρ4, μ4, as4, G4, T.trans t4, m4, s4, q4⟩
  · have e : i = xs.length := by omega
    subst e
    exact .inl ⟨src.stop as' G' H' μ' t'.gg t'.ix m' (pok _ ρ' μ' pv), ρ', μ', as', G', t1.trans t', m', s', done ρ' μ' pv⟩
where
  wI_mono {R R' : It → Hp → Prop} {X : Cx} {tg iter : Expr} {σ : L2.St} {H : Hp} (h : wI X tg iter σ H R) (f : ∀ J H', R J H' → R' J H') : wI X tg iter σ H R' := fun pins s I =>
    thn (h pins s I) fun _ _ z => thn z fun _ _ ⟨it, fp, tn, J, H', e, I', T, t0, fo, q⟩ => ⟨it, fp, tn, J, H', e, I', T, t0, fo, f _ _ q⟩
/-- while -/
theorem dS_while {body : List Stmt} (hp : PassesOwn (model X.prog X.w) X.A X.env X.xe) (Pv : Nat → Env' → Mu → Prop) (h0 : ∃ m, Pv m ρ μ)
    (h : ∀ m ρ' μ', Pv m ρ' μ' → dT X J c ρ' μ' fun k μ1 => if k = true then dSs X J body ρ' μ1 { D with nx := fun ρ2 μ2 => ∃ m', m' < m ∧ Pv m' ρ2 μ2, ct := fun ρ2 μ2 => ∃ m', m' < m ∧ Pv m' ρ2 μ2, bk := D.nx } else D.nx ρ' μ1) : dS X J (.While c body [] pos) ρ μ D := .mk fun as G H σ S => by
  refine (ps_while hp ptW pssW).w ?_
  obtain ⟨m0, h0⟩ := h0
  refine ⟨fun m σ' H' => ∃ ρ' μ' as' G', Step as G H as' G' H' ∧ Mem X.K as' G' H' μ' ∧ Slots X.K as' G' σ' ρ' ∧ Pv m ρ' μ', ⟨m0, ρ, μ, as, G, .refl _ _ _, S.mem, S.sl, h0⟩, ?_⟩
  rintro m σ' H' ⟨ρ', μ', as', G', t', m', s', pv⟩
  show wT X c σ' H' fun k H1 => _
  refine wT_mono (h m ρ' μ' pv as' G' H' σ' ⟨m', s', S.tk.step t'⟩) fun k H1 ⟨μ1, as1, G1, t1, m1, q⟩ => ?_
  have T := t'.trans t1
  cases k with
  | true =>
    rw [if_pos rfl] at q ⊢
    refine ⟨fun σ2 H2 => ∃ m', m' < m ∧ ∃ ρ' μ' as' G', Step as G H as' G' H2 ∧ Mem X.K as' G' H2 μ' ∧ Slots X.K as' G' σ2 ρ' ∧ Pv m' ρ' μ', fun σ2 H2 z => z, ?_⟩
    refine wSs_mono (q as1 G1 H1 σ' ⟨m1, s'.mono t1, S.tk.step T⟩) ⟨?_, fun v H4 z => z.back T, fun σ4 H4 z => z.back T, ?_⟩
    · rintro σ4 H4 ⟨ρ4, μ4, as4, G4, t4, m4, s4, k4, l4, q4⟩
      exact ⟨k4, l4, ρ4, μ4, as4, G4, T.trans t4, m4, s4, q4⟩
    · rintro σ4 H4 ⟨ρ4, μ4, as4, G4, t4, m4, s4, k4, l4, q4⟩
      exact ⟨k4, l4, ρ4, μ4, as4, G4, T.trans t4, m4, s4, q4⟩
  | false =>
    rw [if_neg Bool.false_ne_true] at q ⊢
    exact ⟨ρ', μ1, as1, G1, T, m1, s'.mono t1, q⟩

/-! ### comprehensions -/
def wTs (X : Cx) (ifs : List Expr) : TT := fun σ H Q => ∀ pins s, Inv X pins σ H s →
  wpAny (model X.prog X.w) X.A (forIn ifs true fun c r => if r = true then do let ok ← isTrue c X.env (eval c X.env); pure (ForInStep.yield ok) else pure (ForInStep.yield r)) (TP X pins σ Q) X.xe s
structure dTs (X : Cx) (J : JX) (ifs : List Expr) (ρ : Env') (μ : Mu) (Q : Bool → Mu → Prop) : Prop where
  go : ∀ as G H σ, Sx X J as G H σ ρ μ → wTs X ifs σ H (AfT X.K as G H Q)
instance {X : Cx} {J : JX} {ifs : List Expr} {ρ : Env'} {μ : Mu} {Q : Bool → Mu → Prop} : CoeFun (dTs X J ifs ρ μ Q) (fun _ => ∀ as G H σ, Sx X J as G H σ ρ μ → wTs X ifs σ H (AfT X.K as G H Q)) := ⟨dTs.go⟩
theorem dTs_nil {Q : Bool → Mu → Prop} (q : Q true μ) : dTs X J [] ρ μ Q := .mk fun as G H σ S pins s I => pts_nil.run pins s σ H _ I ⟨μ, as, G, .refl _ _ _, S.mem, q⟩
theorem dTs_one {Q : Bool → Mu → Prop} (h : dT X J c ρ μ Q) : dTs X J [c] ρ μ Q := .mk fun as G H σ S pins s I => (pts_one ptW).run pins s σ H _ I (h as G H σ S)
abbrev Blk (X : Cx) (scope : Scope) (s : Shared) (H : Hp) (C : Addr) (cl : List (Str × Addr)) (fp : List Addr) : Cx := X.blk s H scope (compEnvC scope cl C X.env) fp
theorem wipe_set {σ : L2.St} {i : Nat} {o : Option V} : ∀ {vs : List Nat}, i ∈ vs → L2.wipe (σ.set i o) vs = L2.wipe σ vs
  | [], h => by simp at h
  | v :: vs, h => by
    show (L2.wipe (σ.set i o) vs).set v none = (L2.wipe σ vs).set v none
    by_cases hv : i ∈ vs
    · rw [wipe_set hv]
    · have e : i = v := by simpa [hv] using h
      subst e
      have comm : ∀ (τ : L2.St) (ws : List Nat), (L2.wipe (τ.set i o) ws).set i none = (L2.wipe τ ws).set i none := by
        intro τ ws
        induction ws with
        | nil => show (τ.set i o).set i none = τ.set i none; rw [List.set_set]
        | cons w ws ih =>
          show ((L2.wipe (τ.set i o) ws).set w none).set i none = ((L2.wipe τ ws).set w none).set i none
          by_cases hw : w = i
          · subst hw
            rw [List.set_set, List.set_set]
            exact ih
          · rw [List.set_comm _ _ hw, ih, List.set_comm _ _ hw]
      exact comm σ vs
/-- a block's target: its own slots alone -/
structure dGv (X : Cx) (J : JX) (vs : List Nat) (tg : Expr) (d : Dt) (ρ : Env') (μ : Mu) (Q : Env' → Mu → Prop) : Prop where
  go : ∀ as G H σ v, Sx X J as G H σ ρ μ → At X.K as G v d → wG X tg v σ H fun σ' H' => AfS X.K as G H Q σ' H' ∧ L2.wipe σ' vs = L2.wipe σ vs
instance {X : Cx} {J : JX} {vs : List Nat} {tg : Expr} {d : Dt} {ρ : Env'} {μ : Mu} {Q : Env' → Mu → Prop} : CoeFun (dGv X J vs tg d ρ μ Q) (fun _ => ∀ as G H σ v, Sx X J as G H σ ρ μ → At X.K as G v d → wG X tg v σ H fun σ' H' => AfS X.K as G H Q σ' H' ∧ L2.wipe σ' vs = L2.wipe σ vs) := ⟨dGv.go⟩
structure dGsv (X : Cx) (J : JX) (vs : List Nat) (ts : List Expr) (ds : List Dt) (ρ : Env') (μ : Mu) (Q : Env' → Mu → Prop) : Prop where
  go : ∀ as G H σ ws, Sx X J as G H σ ρ μ → Ats X.K as G ws ds → wGs X ts ws σ H fun σ' H' => AfS X.K as G H Q σ' H' ∧ L2.wipe σ' vs = L2.wipe σ vs
instance {X : Cx} {J : JX} {vs : List Nat} {ts : List Expr} {ds : List Dt} {ρ : Env'} {μ : Mu} {Q : Env' → Mu → Prop} : CoeFun (dGsv X J vs ts ds ρ μ Q) (fun _ => ∀ as G H σ ws, Sx X J as G H σ ρ μ → Ats X.K as G ws ds → wGs X ts ws σ H fun σ' H' => AfS X.K as G H Q σ' H' ∧ L2.wipe σ' vs = L2.wipe σ vs) := ⟨dGsv.go⟩
theorem dGv_name (i : Nat) {x : Str} {d : Dt} {vs : List Nat} {Q : Env' → Mu → Prop} (hN : X.N.Nodup) (hi : X.N[i]? = some x) (q : Q (ρ.set i (some d)) μ) (hv : i ∈ vs := by decide) (hx : Loc X.env.scope x := by first | exact .inl rfl | exact .inr rfl)
    (hf : X.fn x = true ∨ X.env.scope.names.lookup x = some .local := by first | exact .inl rfl | exact .inr rfl | assumption) : dGv X J vs (.Name x pos) d ρ μ Q := .mk fun as G H σ v S a pins s u I r =>
  (pg_name hN hi hx hf).run pins s σ H v u _ I r ⟨⟨_, μ, as, G, .refl _ _ _, S.mem, S.sl.set i a, q⟩, wipe_set hv⟩
theorem dGsv_nil {vs : List Nat} {Q : Env' → Mu → Prop} (q : Q ρ μ) : dGsv X J vs [] [] ρ μ Q := .mk fun as G H σ ws S a pins s us I r => by
  cases a
  exact pgs_nil.run pins s σ H [] us _ I r ⟨rfl, ⟨ρ, μ, as, G, .refl _ _ _, S.mem, S.sl, q⟩, rfl⟩
theorem dGsv_cons {vs : List Nat} {ts : List Expr} {d : Dt} {ds : List Dt} {Q : Env' → Mu → Prop} (h : dGv X J vs e d ρ μ fun ρ1 μ1 => dGsv X J vs ts ds ρ1 μ1 Q) (hs : (assignEach (e :: ts) X.env).map (·.2) = assign e X.env :: (assignEach ts X.env).map (·.2) := by rfl) : dGsv X J vs (e :: ts) (d :: ds) ρ μ Q := .mk fun as G H σ ws S a pins s us I r => by
  cases a with
  | cons a1 ar =>
    rename_i v vr
    refine (pgs_cons pgW pgsW hs).run pins s σ H (v :: vr) us _ I r ⟨v, vr, rfl, ?_⟩
    show wG X e v σ H fun σ' H' => wGs X ts vr σ' H' _
    refine wG_mono (h as G H σ v S a1) fun σ1 H1 ⟨⟨ρ1, μ1, as1, G1, t1, m1, s1, q1⟩, w1⟩ pins' s' us' I' r' => ?_
    exact thn (q1 as1 G1 H1 σ1 vr ⟨m1, s1, S.tk.step t1⟩ (ar.mono t1.gg t1.ix) pins' s' us' I' r') fun _ _ ⟨σ2, H2, I2, q2, w2⟩ => ⟨σ2, H2, I2, q2.back t1, w2.trans w1⟩
theorem dGv_tup {vs : List Nat} {es : List Expr} {kk : Nat} {ds : List Dt} {Q : Env' → Mu → Prop} (hc : X.calm = true) (hl : (assignEach es X.env).length = ds.length) (h : dGsv X J vs es ds ρ μ Q) (hst : (assignEach es X.env).findIdx? (·.1) = none := by rfl) : dGv X J vs (.Tuple es kk pos) (.tup ds) ρ μ Q := .mk fun as G H σ v S a pins s u I r => by
  cases a with
  | tup h1 h2 =>
    rename_i p xs
    exact (pg_tup hc pgsW rfl hst).run pins s σ H (.ref p) u _ I r ⟨p, xs, rfl, Same.tup S.mem.same h1, by rw [h2.length, hl], h as G H σ xs S h2⟩
theorem dGv_lst {vs : List Nat} {es : List Expr} {kk : Nat} {d : Dt} {ds : List Dt} {Q : Env' → Mu → Prop} (hc : X.calm = true) (hd : isL μ d) (hsq : seqM μ d = some ds) (hl : (assignEach es X.env).length = ds.length) (h : dGsv X J vs es ds ρ μ Q) (hst : (assignEach es X.env).findIdx? (·.1) = none := by rfl) : dGv X J vs (.Tuple es kk pos) d ρ μ Q := .mk fun as G H σ v S a pins s u I r => by
  obtain ⟨p, xs, rfl, hx, hq⟩ := seq_at S.mem a hsq
  rcases hq with ⟨hq, _⟩ | ⟨hq, ws, e⟩
  · exact (pg_lst hc pgsW rfl hst).run pins s σ H (.ref p) u _ I r ⟨p, xs, rfl, hq, by rw [hx.length, hl], h as G H σ xs S hx⟩
  · exact absurd e (hd.2 ws)
/-- in every block -/
abbrev BE (X : Cx) (scope : Scope) (P : Cx → Prop) : Prop := ∀ (s : Shared) (H : Hp) (C : Addr) (cl : List (Str × Addr)) (fp : List Addr), P (Blk X scope s H C cl fp)
theorem Mem.set_aside {K : PySem.W.Frag} {as : List Addr} {G H : Hp} {p : Addr} {o : HO} (m : Mem K as G H μ) (np : p ∉ as) (gp : G p = none) : Mem K as G (upd H p o) μ := by
  have ne : ∀ a, a ∈ as → a ≠ p := fun a h z => np (z ▸ h)
  refine ⟨fun b u e => ?_, m.len, fun k mo hk hg => ?_, m.nd, fun a h => by rw [upd_ne (ne a h)]; exact m.ne a h⟩
  · have : b ≠ p := fun z => by rw [z, gp] at e; cases e
    rw [upd_ne this]; exact m.same b u e
  · obtain ⟨a, o', h1, h2, h3, h4⟩ := m.cell k mo hk hg
    exact ⟨a, o', h1, by rw [upd_ne (ne a (List.mem_of_getElem? h1))]; exact h2, h3, h4⟩
/-- the turns of a comprehension -/
def LcT (X : Cx) (scope : Scope) (vs : List Nat) (tg elt : Expr) (ifs : List Expr) (ρ : Env') (xs : List Dt) (Pv : Nat → List Dt → Mu → Prop) : Prop :=
  ∀ i x acc μ', xs[i]? = some x → Pv i acc μ' → BE X scope fun X1 => dGv X1 J0 vs tg x (wipeD ρ vs) μ' fun ρ2 μ2 => BE X scope fun X2 => dTs X2 J0 ifs ρ2 μ2 fun b μ3 =>
    if b = true then BE X scope fun X3 => dE X3 J0 elt ρ2 μ3 fun y μ4 => acc.length < sizeLine ∧ Pv (i + 1) (acc ++ [y]) μ4 else Pv (i + 1) acc μ3
/-- what is handed on by a comprehension, with its new list at Dl -/
def LcQ (X : Cx) (as : List Addr) (G H : Hp) (Q : List Dt → Mu → Prop) : VK := fun v H' => ∃ (p : Addr) (xs : List V) (acc : List Dt) (μ' : Mu) (as' : List Addr) (G' : Hp), v = .ref p ∧ Step as G H as' G' H' ∧ Mem X.K as' G' H' μ' ∧ H p = none ∧ p ∉ as' ∧ G' p = none ∧ H' p = some (.lst xs) ∧ Ats X.K as' G' xs acc ∧ Q acc μ'
theorem lc_go {iter elt : Expr} {ifs : List Expr} {scope : Scope} {vs : List Nat} {Q : List Dt → Mu → Prop} {as : List Addr} {G : Hp} (S : Sx X J as G H σ ρ μ)
    (h : dI X J tg iter ρ μ fun xs ok μ1 => ∃ Pv : Nat → List Dt → Mu → Prop, Pv 0 [] μ1 ∧ (∀ i acc μ', Pv i acc μ' → ok μ') ∧ LcT X scope vs tg elt ifs ρ xs Pv ∧ (∀ acc μ', Pv xs.length acc μ' → Q acc μ')) :
    tLc (wI X tg iter) (fun v σ H Q => BE X scope fun X1 => wG X1 tg v σ H Q) (fun σ H Q => BE X scope fun X1 => wTs X1 ifs σ H Q) (fun σ H Q => BE X scope fun X1 => wE X1 elt σ H Q) vs σ H (LcQ X as G H Q) := by
  show wI X tg iter σ H fun It H1 => _
  refine dS_for.wI_mono (h as G H σ S) fun It H1 ⟨xs, ok, μ1, as1, G1, t1, m1, src, Pv, p0, pok, turn, done⟩ Dl hD => ?_
  have hD0 : H Dl = none := by
    cases q : H Dl with
    | none => rfl
    | some u => exact absurd hD (t1.ho _ (by rw [q]; simp))
  have nD1 : Dl ∉ as1 := fun z => m1.ne _ z hD
  have gD1 : G1 Dl = none := m1.same.free hD
  have mA := m1.aside (o := .lst []) hD
  refine ⟨fun i m H' => m = xs.length - i ∧ i ≤ xs.length ∧ ∃ zs acc μ' as' G', Step as1 G1 H1 as' G' H' ∧ Mem X.K as' G' H' μ' ∧ H' Dl = some (.lst zs) ∧ Dl ∉ as' ∧ G' Dl = none ∧ Ats X.K as' G' zs acc ∧ Pv i acc μ',
    ⟨xs.length, by simp, Nat.zero_le _, [], [], μ1, as1, G1, .aside m1 hD, mA, upd_same, nD1, gD1, .nil, p0⟩, ?_⟩
  have tk : ∀ {X1 : Cx} {as2 : List Addr} {G2 H2 : Hp}, TakesD X1 J0 as2 G2 H2 := TakesD.none
  rintro i m H' ⟨rfl, hi, zs, acc, μ', as', G', t', m', hz, nD, gD, az, pv⟩
  by_cases hlt : i < xs.length
  · have hx : xs[i]? = some xs[i] := by simp [hlt]
    obtain ⟨go, yl⟩ := src.item as' G' H' μ' t'.gg t'.ix m' (pok i acc μ' pv) i _ hx
    refine .inr ⟨go, fun H2 => ∃ zs acc μ' as' G', Step as1 G1 H1 as' G' H2 ∧ Mem X.K as' G' H2 μ' ∧ H2 Dl = some (.lst zs) ∧ Dl ∉ as' ∧ G' Dl = none ∧ Ats X.K as' G' zs acc ∧ Pv (i + 1) acc μ', fun H2 z => ⟨xs.length - (i + 1), by omega, rfl, hlt, z⟩, fun x H2 y => ?_⟩
    obtain ⟨G2, t2, m2, a2⟩ := yl x H2 y
    intro s0 H0 C0 cl0 fp0
    have keepD : ∀ {as3 : List Addr} {G3 H3 : Hp}, Step as' G' H' as3 G3 H3 → H3 Dl = some (.lst zs) ∧ Dl ∉ as3 ∧ G3 Dl = none := fun {as3 G3 H3} t => by
      refine ⟨t.hh _ _ hz nD, fun z => ?_, ?_⟩
      · rcases t.nw _ z with z | z
        · exact nD z
        · rw [hz] at z; cases z
      · cases q : G3 Dl with
        | none => rfl
        | some o =>
          rcases t.fr _ _ q with z | z | z
          · rw [gD] at z; cases z
          · rw [hz] at z; cases z
          · exact absurd z nD
    have S2 : Sx (Blk X scope s0 H0 C0 cl0 fp0) J0 as' G2 H2 (L2.wipe σ vs) (wipeD ρ vs) μ' := ⟨m2, ((S.sl.mono t1).mono (t'.trans t2)).wipe vs, tk⟩
    refine wG_mono (turn i _ acc μ' hx pv s0 H0 C0 cl0 fp0 as' G2 H2 _ x S2 a2) fun σ3 H3 ⟨⟨ρ3, μ3, as3, G3, t3, m3, s3, q3⟩, w3⟩ => ⟨?_, ?_⟩
    · rw [w3]
      have ww : ∀ (τ : L2.St) (ws : List Nat), L2.wipe (L2.wipe τ ws) ws = L2.wipe τ ws := by
        intro τ ws
        have gen : ∀ (us : List Nat), (∀ u ∈ us, u ∈ ws) → ∀ τ : L2.St, L2.wipe (L2.wipe τ us) ws = L2.wipe τ ws := by
          intro us
          induction us with
          | nil => intro _ _; rfl
          | cons u us ih =>
            intro hu τ
            show L2.wipe ((L2.wipe τ us).set u none) ws = _
            rw [wipe_set (hu u List.mem_cons_self)]
            exact ih (fun v hv => hu v (List.mem_cons_of_mem _ hv)) τ
        exact gen ws (fun _ h => h) τ
      exact ww σ vs
    intro s1 H1' C1 cl1 fp1
    refine wTs_mono (q3 s1 H1' C1 cl1 fp1 as3 G3 H3 σ3 ⟨m3, s3, tk⟩) fun b H4 ⟨μ4, as4, G4, t4, m4, q4⟩ => ?_
    have T := (t2.trans t3).trans t4
    cases b with
    | false =>
      rw [if_neg Bool.false_ne_true] at q4 ⊢
      obtain ⟨k1, k2, k3⟩ := keepD T
      exact ⟨zs, acc, μ4, as4, G4, t'.trans T, m4, k1, k2, k3, az.mono T.gg T.ix, q4⟩
    | true =>
      rw [if_pos rfl] at q4 ⊢
      intro s2 H2' C2 cl2 fp2
      refine wE_mono (q4 s2 H2' C2 cl2 fp2 as4 G4 H4 σ3 ⟨m4, s3.mono t4, tk⟩) fun yv H5 ⟨y, μ5, as5, G5, t5, m5, a5, hl, q5⟩ => ?_
      have T5 := T.trans t5
      obtain ⟨k1, k2, k3⟩ := keepD T5
      have al := az.mono T5.gg T5.ix
      refine ⟨zs, k1, by rw [al.length]; exact hl, zs ++ [yv], acc ++ [y], μ5, as5, G5, ?_, ?_, upd_same, k2, k3, al.append (.cons a5 .nil), q5⟩
      · have TT := t'.trans T5
        refine ⟨TT.pre, TT.gg, fun b u e n => ?_, fun b e => ?_, TT.fr, TT.nw⟩
        · by_cases hb : b = Dl
          · rw [hb, hD] at e
            cases e
          · rw [upd_ne hb]; exact TT.hh b u e n
        · by_cases hb : b = Dl
          · subst hb; rw [upd_same]; simp
          · rw [upd_ne hb]; exact TT.ho b e
      · exact m5.set_aside k2 k3
  · have e : i = xs.length := by omega
    subst e
    refine .inl ⟨src.stop as' G' H' μ' t'.gg t'.ix m' (pok _ acc μ' pv), Dl, zs, acc, μ', as', G', rfl, ?_, m', hD0, nD, gD, hz, az, done acc μ' pv⟩
    exact t1.trans t'
where
  wTs_mono {X : Cx} {ifs : List Expr} {σ : L2.St} {H : Hp} {Q Q' : Bool → Hp → Prop} (h : wTs X ifs σ H Q) (f : ∀ v H', Q v H' → Q' v H') : wTs X ifs σ H Q' := fun pins s I => thn (h pins s I) fun b _ ⟨H', I', q⟩ => ⟨H', I', f b H' q⟩
/-- taken over as it stands -/
theorem Mem.keep {K : PySem.W.Frag} {as : List Addr} {G H : Hp} {p : Addr} {o : HO} (m : Mem K as G H μ) (np : p ∉ as) (gp : G p = none) (hp : H p = some o) : Mem K as (upd G p o) H μ := by
  have e : upd H p o = H := by
    funext b
    by_cases hb : b = p
    · rw [hb, upd_same, hp]
    · rw [upd_ne hb]
  have z := m.take (o := o) np gp
  rwa [e] at z
theorem Mem.keepM {K : PySem.W.Frag} {as : List Addr} {G H : Hp} {p : Addr} {o : HO} {mo : Mo} (m : Mem K as G H μ) (np : p ∉ as) (gp : G p = none) (hp : H p = some o) (h : MoAt K as G o mo) : Mem K (as ++ [p]) G H (μ ++ [mo]) := by
  have e : upd H p o = H := by
    funext b
    by_cases hb : b = p
    · rw [hb, upd_same, hp]
    · rw [upd_ne hb]
  have z := m.takeM np gp h
  rwa [e] at z
theorem upd_self {H : Hp} {p : Addr} {o : HO} (hp : H p = some o) : upd H p o = H := by
  funext b
  by_cases hb : b = p
  · rw [hb, upd_same, hp]
  · rw [upd_ne hb]
theorem LcQ.frz {as : List Addr} {G : Hp} {Q : Dt → Mu → Prop} {v : V} {H' : Hp} (h : LcQ X as G H (fun acc μ' => Q (.lst acc) μ') v H') : AfE X.K as G H Q v H' := by
  obtain ⟨p, xs, acc, μ', as', G', rfl, t, m, hp, np, gp, hz, ax, q⟩ := h
  have z := t.take (o := .lst xs) hp gp
  rw [upd_self hz] at z
  exact ⟨.lst acc, μ', as', upd G' p (.lst xs), z, m.keep np gp hz, .lst (.of upd_same) (ax.mono (same_upd_none gp) fun _ _ h => h), q⟩
theorem LcQ.mut {as : List Addr} {G : Hp} {Q : Dt → Mu → Prop} {v : V} {H' : Hp} (h : LcQ X as G H (fun acc μ' => Q (.mut μ'.length) (μ' ++ [.lst acc])) v H') : AfE X.K as G H Q v H' := by
  obtain ⟨p, xs, acc, μ', as', G', rfl, t, m, hp, np, gp, hz, ax, q⟩ := h
  have z := t.takeM (o := .lst xs) hp
  rw [upd_self hz] at z
  exact ⟨.mut μ'.length, _, as' ++ [p], G', z, m.keepM (mo := .lst acc) np gp hz ⟨xs, rfl, ax⟩, .mut (by rw [← m.len]; simp), q⟩
theorem tLc_mono {wi : TI} {g : TG} {tt : TT} {te : TE} {vs : List Nat} {Q Q' : VK} (f : ∀ v H', Q v H' → Q' v H') (mi : ∀ (R R' : It → Hp → Prop), (∀ J H', R J H' → R' J H') → wi σ H R → wi σ H R') (h : tLc wi g tt te vs σ H Q) : tLc wi g tt te vs σ H Q' := by
  refine mi _ _ (fun J H1 z D hD => ?_) h
  obtain ⟨W, w0, turn⟩ := z D hD
  refine ⟨W, w0, fun i m H' w => ?_⟩
  rcases turn i m H' w with ⟨s, q⟩ | r
  · exact .inl ⟨s, f _ _ q⟩
  · exact .inr r
/-- [elt for tg in iter if ..]: frozen, or to be changed -/
theorem dE_lcQ {iter elt : Expr} {ifs : List Expr} {scope : Scope} (own : List (Str × Nat)) {Q : List Dt → Mu → Prop} {Q2 : Dt → Mu → Prop} (f : ∀ as G H v H', LcQ X as G H Q v H' → AfE X.K as G H Q2 v H') (hc : X.calm = true) (hN : X.N.Nodup) (ok : BlkOk X.N X.env.scope scope own)
    (h : dI X J tg iter ρ μ fun xs ok μ1 => ∃ Pv : Nat → List Dt → Mu → Prop, Pv 0 [] μ1 ∧ (∀ i acc μ', Pv i acc μ' → ok μ') ∧ LcT X scope (own.map (·.2)) tg elt ifs ρ xs Pv ∧ (∀ acc μ', Pv xs.length acc μ' → Q acc μ'))
    (hs : ∀ x, foldedSetIterable iter X.env x = pure x := by intro _; rfl) : dE X J (.ListComp elt [⟨tg, iter, ifs, 0⟩] scope pos) ρ μ Q2 := .mk fun as G H σ S => by
  refine (pe_lc (g := fun v σ H Q => BE X scope fun X1 => wG X1 tg v σ H Q) (tt := fun σ H Q => BE X scope fun X1 => wTs X1 ifs σ H Q) (te := fun σ H Q => BE X scope fun X1 => wE X1 elt σ H Q) hc hN piW ok
    (fun s H C cl fp => ⟨fun pins s1 σ1 H1 v u Q I r z => z s H C cl fp pins s1 u I r⟩) (fun s H C cl fp => ⟨fun pins s1 σ1 H1 Q I z => z s H C cl fp pins s1 I⟩) (fun s H C cl fp => ⟨fun pins s1 σ1 H1 Q I z => z s H C cl fp pins s1 I⟩) hs).w ?_
  exact tLc_mono (fun v H' z => f as G H v H' z) (fun R R' k z => dS_for.wI_mono z k) (lc_go S h)
theorem dE_lc {iter elt : Expr} {ifs : List Expr} {scope : Scope} (own : List (Str × Nat)) {Q : Dt → Mu → Prop} (hc : X.calm = true) (hN : X.N.Nodup) (ok : BlkOk X.N X.env.scope scope own)
    (h : dI X J tg iter ρ μ fun xs ok μ1 => ∃ Pv : Nat → List Dt → Mu → Prop, Pv 0 [] μ1 ∧ (∀ i acc μ', Pv i acc μ' → ok μ') ∧ LcT X scope (own.map (·.2)) tg elt ifs ρ xs Pv ∧ (∀ acc μ', Pv xs.length acc μ' → Q (.lst acc) μ'))
    (hs : ∀ x, foldedSetIterable iter X.env x = pure x := by intro _; rfl) : dE X J (.ListComp elt [⟨tg, iter, ifs, 0⟩] scope pos) ρ μ Q := dE_lcQ own (fun _ _ _ _ _ z => z.frz) hc hN ok h hs
theorem dE_lcM {iter elt : Expr} {ifs : List Expr} {scope : Scope} (own : List (Str × Nat)) {Q : Dt → Mu → Prop} (hc : X.calm = true) (hN : X.N.Nodup) (ok : BlkOk X.N X.env.scope scope own)
    (h : dI X J tg iter ρ μ fun xs ok μ1 => ∃ Pv : Nat → List Dt → Mu → Prop, Pv 0 [] μ1 ∧ (∀ i acc μ', Pv i acc μ' → ok μ') ∧ LcT X scope (own.map (·.2)) tg elt ifs ρ xs Pv ∧ (∀ acc μ', Pv xs.length acc μ' → Q (.mut μ'.length) (μ' ++ [.lst acc])))
    (hs : ∀ x, foldedSetIterable iter X.env x = pure x := by intro _; rfl) : dE X J (.ListComp elt [⟨tg, iter, ifs, 0⟩] scope pos) ρ μ Q := dE_lcQ own (fun _ _ _ _ _ z => z.mut) hc hN ok h hs
/-- name = [..] -/
theorem dS_setLcQ (i : Nat) {y : Str} {py : Pos} {iter elt : Expr} {ifs : List Expr} {scope : Scope} {lpos : Pos} (own : List (Str × Nat)) {Q : List Dt → Mu → Prop} {Q2 : Dt → Mu → Prop} (f : ∀ as G H v H', LcQ X as G H Q v H' → AfE X.K as G H Q2 v H') (hc : X.calm = true) (hN : X.N.Nodup) (hy : X.N[i]? = some y) (hyl : X.env.scope.names.lookup y = some .local) (ok : BlkOk X.N X.env.scope scope own)
    (hsw : swapsWith (.ListComp elt [⟨tg, iter, ifs, 0⟩] scope lpos) (some (.Name y py)) pos.line X.env = pure true)
    (h : dI X J tg iter ρ μ fun xs ok μ1 => ∃ Pv : Nat → List Dt → Mu → Prop, Pv 0 [] μ1 ∧ (∀ i acc μ', Pv i acc μ' → ok μ') ∧ LcT X scope (own.map (·.2)) tg elt ifs ρ xs Pv ∧ (∀ acc μ', Pv xs.length acc μ' → Q acc μ'))
    (q : ∀ d μ', Q2 d μ' → D.nx (ρ.set i (some d)) μ')
    (hs : ∀ x, foldedSetIterable iter X.env x = pure x := by intro _; rfl) : dS X J (.Assign [.Name y py] (.ListComp elt [⟨tg, iter, ifs, 0⟩] scope lpos) pos) ρ μ D := .mk fun as G H σ S => by
  refine (ps_setLc (i := i) (g := fun v σ H Q => BE X scope fun X1 => wG X1 tg v σ H Q) (tt := fun σ H Q => BE X scope fun X1 => wTs X1 ifs σ H Q) (te := fun σ H Q => BE X scope fun X1 => wE X1 elt σ H Q) hc hN hy hyl hsw piW ok
    (fun s H C cl fp => ⟨fun pins s1 σ1 H1 v u Q I r z => z s H C cl fp pins s1 u I r⟩) (fun s H C cl fp => ⟨fun pins s1 σ1 H1 Q I z => z s H C cl fp pins s1 I⟩) (fun s H C cl fp => ⟨fun pins s1 σ1 H1 Q I z => z s H C cl fp pins s1 I⟩) hs).w ?_
  show tLc _ _ _ _ _ σ H fun v H1 => AfS X.K as G H D.nx (σ.set i (some v)) H1
  refine tLc_mono (fun v H' z => ?_) (fun R R' k z => dS_for.wI_mono z k) (lc_go S h)
  obtain ⟨d, μ1, as1, G1, t, m, a, q2⟩ := f as G H v H' z
  exact ⟨_, μ1, as1, G1, t, m, (S.sl.mono t).set i a, q d μ1 q2⟩
theorem dS_setLc (i : Nat) {y : Str} {py : Pos} {iter elt : Expr} {ifs : List Expr} {scope : Scope} {lpos : Pos} (own : List (Str × Nat)) (hc : X.calm = true) (hN : X.N.Nodup) (hy : X.N[i]? = some y) (hyl : X.env.scope.names.lookup y = some .local) (ok : BlkOk X.N X.env.scope scope own)
    (hsw : swapsWith (.ListComp elt [⟨tg, iter, ifs, 0⟩] scope lpos) (some (.Name y py)) pos.line X.env = pure true)
    (h : dI X J tg iter ρ μ fun xs ok μ1 => ∃ Pv : Nat → List Dt → Mu → Prop, Pv 0 [] μ1 ∧ (∀ i acc μ', Pv i acc μ' → ok μ') ∧ LcT X scope (own.map (·.2)) tg elt ifs ρ xs Pv ∧ (∀ acc μ', Pv xs.length acc μ' → D.nx (ρ.set i (some (.lst acc))) μ'))
    (hs : ∀ x, foldedSetIterable iter X.env x = pure x := by intro _; rfl) : dS X J (.Assign [.Name y py] (.ListComp elt [⟨tg, iter, ifs, 0⟩] scope lpos) pos) ρ μ D :=
  dS_setLcQ i own (Q2 := fun d μ' => D.nx (ρ.set i (some d)) μ') (fun _ _ _ _ _ z => z.frz) hc hN hy hyl ok hsw h (fun _ _ z => z) hs
theorem dS_setLcM (i : Nat) {y : Str} {py : Pos} {iter elt : Expr} {ifs : List Expr} {scope : Scope} {lpos : Pos} (own : List (Str × Nat)) (hc : X.calm = true) (hN : X.N.Nodup) (hy : X.N[i]? = some y) (hyl : X.env.scope.names.lookup y = some .local) (ok : BlkOk X.N X.env.scope scope own)
    (hsw : swapsWith (.ListComp elt [⟨tg, iter, ifs, 0⟩] scope lpos) (some (.Name y py)) pos.line X.env = pure true)
    (h : dI X J tg iter ρ μ fun xs ok μ1 => ∃ Pv : Nat → List Dt → Mu → Prop, Pv 0 [] μ1 ∧ (∀ i acc μ', Pv i acc μ' → ok μ') ∧ LcT X scope (own.map (·.2)) tg elt ifs ρ xs Pv ∧ (∀ acc μ', Pv xs.length acc μ' → D.nx (ρ.set i (some (.mut μ'.length))) (μ' ++ [.lst acc])))
    (hs : ∀ x, foldedSetIterable iter X.env x = pure x := by intro _; rfl) : dS X J (.Assign [.Name y py] (.ListComp elt [⟨tg, iter, ifs, 0⟩] scope lpos) pos) ρ μ D :=
  dS_setLcQ i own (Q2 := fun d μ' => D.nx (ρ.set i (some d)) μ') (fun _ _ _ _ _ z => z.mut) hc hN hy hyl ok hsw h (fun _ _ z => z) hs
end
end DL

/-! D5: defs over data: what they promise, how they are called. -/
namespace DL
open PySem PySem.Spec PyProof.Rows L2

/-! ### a def's promise over data -/
/-- the arguments' data, the mutable objects handed in, what is wanted of the result, of an exception -/
abbrev Spc := List Dt → Mu → (Dt → Mu → Prop) → JX → Prop
def spD (K : PySem.W.Frag) (R : Spc) : Sp := fun vs H Q E => ∃ as G ds μ Qd J, Mem K as G H μ ∧ Ats K as G vs ds ∧ R ds μ Qd J ∧ (∀ v H', AfE K as G H Qd v H' → Q v H') ∧ (∀ cls d H', WJ K J as G H cls d H' → E cls d H')
structure FnG (P : Program) (w : World) (K : PySem.W.Frag) (mg : Str → Option Value) (base : Heap) (k : Nat) (f : Addr) (fd : FuncData) (ps : List Str) (R : Spc) : Prop where
  len : ∀ ds μ Q J, R ds μ Q J → ds.length = ps.length
  run : ∀ (A : Around) (outer : List Env) (s : Shared) (H : Hp) (args : Args) (us : List Value) (vs : List V) (Q : VK) (E : XK), Room k A → A.guards = some [] → Env0 P w K mg base A outer s H → BindsTo s fd args (ps.zip us) → Vals vs us → spD K R vs H Q E →
    codeAny (model P w) A (.call (.ref f) args) (CR (L2.CX P w) outer P w H s Q E) s
theorem FnG.mono {P : Program} {w : World} {K : PySem.W.Frag} {mg : Str → Option Value} {base : Heap} {j k : Nat} {f : Addr} {fd : FuncData} {ps : List Str} {R : Spc} (F : FnG P w K mg base j f fd ps R) (h : j ≤ k) : FnG P w K mg base k f fd ps R :=
  ⟨F.len, fun A outer s H args us vs Q E hr => F.run A outer s H args us vs Q E (hr.mono h)⟩
theorem FnG.imp {P : Program} {w : World} {K : PySem.W.Frag} {mg : Str → Option Value} {base : Heap} {k : Nat} {f : Addr} {fd : FuncData} {ps : List Str} {R R' : Spc} (F : FnG P w K mg base k f fd ps R) (h : ∀ ds μ Q J, R' ds μ Q J → R ds μ Q J) : FnG P w K mg base k f fd ps R' :=
  ⟨fun ds μ Q J z => F.len ds μ Q J (h _ _ _ _ z), fun A outer s H args us vs Q E hr hg e0 hb r hs => F.run A outer s H args us vs Q E hr hg e0 hb r (by
    obtain ⟨as, G, ds, μ, Qd, J, m, a, z, q⟩ := hs
    exact ⟨as, G, ds, μ, Qd, J, m, a, h _ _ _ _ z, q⟩)⟩
def startD (N : List Str) (ds : List Dt) : Env' := ds.map some ++ List.replicate (N.length - ds.length) none
theorem Slots.start {K : PySem.W.Frag} {as : List Addr} {G : Hp} {N : List Str} {vs : List V} {ds : List Dt} (a : Ats K as G vs ds) : Slots K as G (L2.start N vs) (startD N ds) := by
  have hl := a.length
  refine ⟨by simp [L2.start, startD, hl], fun i d h => ?_⟩
  unfold startD at h
  by_cases hi : i < ds.length
  · rw [List.getElem?_append_left (by simpa using hi), List.getElem?_map] at h
    cases e : ds[i]? with
    | none => rw [e] at h; cases h
    | some x =>
      rw [e] at h
      cases h
      obtain ⟨v, hv, av⟩ := a.got e
      refine ⟨v, ?_, av⟩
      unfold L2.start
      rw [List.getElem?_append_left (by simpa [hl] using hi), List.getElem?_map, hv]
      rfl
  · rw [List.getElem?_append_right (by simpa using hi), List.getElem?_replicate] at h
    split at h <;> cases h
theorem FnG.ofC {P : Program} {w : World} {K : PySem.W.Frag} {mg : Str → Option Value} {base : Heap} {x qual : Str} {st : Stmt} {f : Addr} {fd : FuncData} {N ps : List Str} {k : Nat} {R : Spc} (F : Fun K x qual st f fd) (S : FnScope N ps (defScope st)) (len : ∀ ds μ Q J, R ds μ Q J → ds.length = ps.length)
    (hbody : ∀ (cdv : Value), fd.code = cdv → ∀ (A : Around) (outer : List Env) (s : Shared) (H : Hp) (E : XK) (ds : List Dt) (μ : Mu) (Q : Dt → Mu → Prop) (J : JX), Room k (A.deeper (envOfC qual (defScope st) s.heap.objs.size f cdv)) → A.guards = some [] → R ds μ Q J →
      dSs (cxOf (L2.CX P w) P w K mg base N qual (defScope st) f cdv A outer s H E) J (defBody st) (startD N ds) μ { nx := fun _ μ' => Q .non μ', rt := Q }) : FnG P w K mg base (k + 1) f fd ps R := by
  obtain ⟨oc, od, kV, doc, pm, an, cdv, ct, osl, rfl, lk, hcd⟩ := F.ex
  refine ⟨len, fun A outer s H args us vs Q E hr hg e0 hb r hsp => ?_⟩
  obtain ⟨as, G, ds, μ, Qd, J, m, a, hR, hQ, hE⟩ := hsp
  have hl : vs.length = ps.length := a.length.trans (len _ _ _ _ hR)
  have KX : K.In s.heap := e0.mod.kin.keeps fun b o e => (e0.bs b o e).1
  have lim : s.heap.NoLimit := e0.mod.nolimit.keeps fun b o e => (e0.bs b o e).1
  have hkind : ∀ y ∈ ps.zip us, (defScope st).names.lookup y.1 = some .local ∨ ((defScope st).names.lookup y.1 = some .cell ∧ ((cellsFrom (s.heap.objs.size + 1) (defScope st).names []).lookup y.1).isSome = true) := fun ⟨n, v⟩ hy => by
    rcases S.par n (List.of_mem_zip hy).1 with q | q
    · exact .inl q
    · exact .inr ⟨q, PySem.W.cellsFrom_some _ _ _ (.inl q)⟩
  refine codeAny_call_function hr.depth (KX _ _ lk) rfl S.co S.gen rfl (PySem.W.codeRec_of KX hcd) (hb _ _ _ _ ?_)
  refine wpAny_newFunctionEnv_cells S.kind hkind fun env he s1 x => ?_
  subst he
  refine ⟨lim.keeps x.toInCall.keep, codeAny_func ?_⟩
  have I : Inv (cxOf (L2.CX P w) P w K mg base N qual (defScope st) f cdv A outer s H E) [] (L2.start N vs) H s1 := inv_start S hr.hd e0 hl r x
  have tk : TakesD (cxOf (L2.CX P w) P w K mg base N qual (defScope st) f cdv A outer s H E) J as G H := Takes.imp (takes_of (E := E) rfl rfl rfl rfl) fun cls d σ H' z => hE cls d H' z
  refine wpAny_mono (hbody cdv rfl A outer s H E ds μ Qd J (hr.deeper _) hg hR as G H (L2.start N vs) ⟨m, .start a, tk⟩ [] s1 I) (fun fl s' hs => ?_) fun e s' hs => hs
  have fin : ∀ {σ' : L2.St} {H' : Hp} {v : V} {u : Value}, Inv (cxOf (L2.CX P w) P w K mg base N qual (defScope st) f cdv A outer s H E) [] σ' H' s' → RelV v u → Q v H' → CE outer P w H s Q u s' :=
    fun {σ' H' v u} J rv q => ⟨v, H', J.os, J.bare, J.base, J.hok, rv, q⟩
  cases fl with
  | ret u =>
    obtain ⟨v, σ', H', J', rv, q⟩ := hs
    exact fin J' rv (hQ _ _ q)
  | next =>
    obtain ⟨σ', H', J', ρ', μ', as', G', t, m', s2, q⟩ := hs
    exact fin (v := V.non) (u := Value.none) J' rfl (hQ _ _ ⟨.non, μ', as', G', t, m', .non, q⟩)
  | brk =>
    obtain ⟨_, _, _, _, _, _, _, _, _, _, q⟩ := hs
    exact q.elim
  | cont =>
    obtain ⟨_, _, _, _, _, _, _, _, _, _, q⟩ := hs
    exact q.elim
theorem FnG.of {P : Program} {w : World} {K : PySem.W.Frag} {mg : Str → Option Value} {base : Heap} {x qual : Str} {st : Stmt} {f : Addr} {fd : FuncData} {N ps : List Str} {k : Nat} {R : Spc} (F : Fun K x qual st f fd) (S : FnScope N ps (defScope st)) (len : ∀ ds μ Q J, R ds μ Q J → ds.length = ps.length)
    (hbody : ∀ (cdv : Value) (A : Around) (outer : List Env) (s : Shared) (H : Hp) (E : XK) (ds : List Dt) (μ : Mu) (Q : Dt → Mu → Prop) (J : JX), Room k (A.deeper (envOfC qual (defScope st) s.heap.objs.size f cdv)) → A.guards = some [] → R ds μ Q J →
      dSs (cxOf (L2.CX P w) P w K mg base N qual (defScope st) f cdv A outer s H E) J (defBody st) (startD N ds) μ { nx := fun _ μ' => Q .non μ', rt := Q }) : FnG P w K mg base (k + 1) f fd ps R :=
  FnG.ofC F S len fun cdv _ A outer s H E ds μ Q J hr hg hR => hbody cdv A outer s H E ds μ Q J hr hg hR

/-! ### calls -/
/-- a callee that got no mutable object -/
theorem lift0 {K : PySem.W.Frag} {as as' : List Addr} {G H G' H' : Hp} {μ : Mu} (m : Mem K as G H μ) (t : Step [] G H as' G' H') (g : Same G' H') : Step as G H as G' H' ∧ Mem K as G' H' μ := by
  have gn : ∀ (k : Nat) (a : Addr) (o : HO), as[k]? = some a → H a = some o → G a = none → G' a = none := fun k a o h1 h2 h3 => by
    cases q : G' a with
    | none => rfl
    | some u =>
      rcases t.fr _ _ q with z | z | z
      · rw [h3] at z; cases z
      · rw [h2] at z; cases z
      · simp at z
  refine ⟨⟨⟨[], by simp⟩, t.gg, fun b o e _ => t.hh b o e (by simp), t.ho, fun b o e => ?_, fun a h => .inl h⟩, ⟨g, m.len, fun k mo hk hg => ?_, m.nd, fun a h => t.ho a (m.ne a h)⟩⟩
  · rcases t.fr b o e with z | z | z
    · exact .inl z
    · exact .inr (.inl z)
    · simp at z
  · obtain ⟨a, o, h1, h2, h3, h4⟩ := m.cell k mo hk hg
    exact ⟨a, o, h1, t.hh _ _ h2 (by simp), h3.mono t.gg (fun _ _ h => h), gn k a o h1 h2 h4⟩
def Mo.mf : Mo → Bool
  | .lst xs => mfs xs
  | .dic es => mfk es
  | .ins _ fs => mff fs
  | .gone => true
  | .cell _ _ _ _ => false
  | .tab _ _ _ => false
theorem MoAt.free {K : PySem.W.Frag} {as bs : List Addr} {G : Hp} {o : HO} {m : Mo} (h : MoAt K as G o m) (f : m.mf = true) : MoAt K bs G o m := by
  cases m with
  | lst ds => obtain ⟨xs, e, h⟩ := h; exact ⟨xs, e, h.free f⟩
  | dic es => obtain ⟨kvs, e, h⟩ := h; exact ⟨kvs, e, h.free f⟩
  | ins C fs => obtain ⟨dx, vs, e, h⟩ := h; exact ⟨dx, vs, e, h.free f⟩
  | gone => trivial
  | cell n c oc d => cases f
  | tab n P q => cases f
/-- a callee that got the mutable object number k -/
theorem lift1 {K : PySem.W.Frag} {as as' : List Addr} {G H G' H' : Hp} {μ μ' : Mu} {k : Nat} {p : Addr} {m0 m1 : Mo} (m : Mem K as G H μ) (hk : as[k]? = some p) (h0 : μ[k]? = some m0) (g0 : m0 ≠ .gone) (t : Step [p] G H as' G' H') (mc : Mem K as' G' H' μ') (h1 : μ'[0]? = some m1) (g1 : m1 ≠ .gone) (f1 : m1.mf = true) :
    Step as G H as G' H' ∧ Mem K as G' H' (μ.set k m1) := by
  have hp0 : as'[0]? = some p := t.ix 0 p rfl
  obtain ⟨q, o1, e1, e2, e3, e4⟩ := mc.cell 0 m1 h1 g1
  rw [hp0] at e1; cases e1
  have pin : p ∈ as := List.mem_of_getElem? hk
  have inj : ∀ {j : Nat} {a : Addr}, as[j]? = some a → a = p → j = k := fun {j a} h z => by
    subst z
    obtain ⟨l1, f1⟩ := List.getElem?_eq_some_iff.mp h
    obtain ⟨l2, f2⟩ := List.getElem?_eq_some_iff.mp hk
    exact (List.getElem_inj m.nd).mp (f1.trans f2.symm)
  refine ⟨⟨⟨[], by simp⟩, t.gg, fun b o e n => t.hh b o e (by simp; exact fun z => n (z ▸ pin)), t.ho, fun b o e => ?_, fun a h => .inl h⟩, ⟨mc.same, by simp [m.len], fun j mo hj hg => ?_, m.nd, fun a h => t.ho a (m.ne a h)⟩⟩
  · rcases t.fr b o e with z | z | z
    · exact .inl z
    · exact .inr (.inl z)
    · exact .inr (.inr (by simp at z; exact z ▸ pin))
  · by_cases hjk : k = j
    · subst hjk
      have hl := (List.getElem?_eq_some_iff.mp h0).1
      rw [List.getElem?_set_self hl] at hj
      cases hj
      exact ⟨p, o1, hk, e2, e3.free f1, e4⟩
    · rw [List.getElem?_set_ne hjk] at hj
      obtain ⟨a, o, a1, a2, a3, a4⟩ := m.cell j mo hj hg
      have np : a ≠ p := fun z => hjk (inj a1 z).symm
      refine ⟨a, o, a1, t.hh _ _ a2 (by simpa using np), a3.mono t.gg (fun _ _ h => h), ?_⟩
      cases q : G' a with
      | none => rfl
      | some u =>
        rcases t.fr _ _ q with z | z | z
        · rw [a4] at z; cases z
        · rw [a2] at z; cases z
        · exact absurd (by simpa using z) np
section
variable {X : Cx} {J : JX} {e a b c o i : Expr} {es : List Expr} {ρ : Env'} {μ : Mu} {σ : L2.St} {H : Hp} {pos : Pos} {k : Nat} {f : Addr} {fd : FuncData} {ps : List Str} {R : Spc}
/-- the callee runs -/
theorem run_fnG {pins : List (Addr × Obj)} {s : Shared} {Q : VK} {us : List Value} {vs : List V} {W : WX} (F : FnG X.prog X.w X.K X.mg X.base k f fd ps R) (hr : Room k X.A) (hg : X.A.guards = some []) (hb : Binds X.K fd ps []) (tk : Takes X W)
    (I : Inv X pins σ H s) (r : Vals vs us) (h : spD X.K R vs H Q (WE W σ)) : wpAny (model X.prog X.w) X.A (call (.ref f) us) (EP X pins σ Q) X.xe s := by
  have hl : us.length = ps.length := by
    obtain ⟨as, G, ds, μ, Qd, J, m, a, z, q⟩ := h
    rw [← r.length, a.length]
    exact F.len _ _ _ _ z
  have b := hb s us I.kIn (by rw [List.append_nil]; exact hl)
  rw [List.append_nil] at b
  refine wpAny_call (codeAny_mono (F.run X.A X.stack s H ⟨us, []⟩ us vs Q (WE W σ) hr hg I.env0 b r h) fun r s' hq => ?_)
  cases r with
  | error e => exact passAt tk σ pins H s e s' I hq
  | ok fl =>
    cases fl with
    | ret u => exact I.after hq
    | next => exact False.elim hq
    | brk => exact False.elim hq
    | cont => exact False.elim hq
theorem spD0 {K : PySem.W.Frag} {as : List Addr} {G : Hp} {vs : List V} {ds : List Dt} {Q : Dt → Mu → Prop} (m : Mem K as G H μ) (av : Ats K as G vs ds) (mf : mfs ds = true) (h : R ds [] (fun d _ => d.mf = true ∧ Q d μ) (fun C fs _ => mff fs = true ∧ J C fs μ)) :
    spD K R vs H (AfE K as G H Q) (fun cls d H' => WJ K J as G H cls d H') := by
  refine ⟨[], G, ds, [], _, _, ⟨m.same, rfl, fun k mo hk => by simp at hk, List.nodup_nil, fun a h => by simp at h⟩, av.free mf, h, ?_, ?_⟩
  · rintro v H' ⟨d, μ', as', G', t, m', a', md, q⟩
    obtain ⟨t2, m2⟩ := lift0 m t m'.same
    exact ⟨d, μ, as, G', t2, m2, a'.free md, q⟩
  · rintro cls d H' ⟨C, as', G', μ', gs, e, t, m', fz, mg, j⟩
    obtain ⟨t2, m2⟩ := lift0 m t m'.same
    refine ⟨C, as, G', μ, gs, e, t2, m2, ?_, j⟩
    rcases fz with z | ⟨dd, fs, e1, e2, e3⟩
    · exact .inl z
    · exact .inr ⟨dd, fs, e1, e2, e3.free mg⟩
theorem spD1 {K : PySem.W.Frag} {as : List Addr} {G : Hp} {vs : List V} {v0 : V} {j : Nat} {m0 : Mo} {ds : List Dt} {Q : Dt → Mu → Prop} (m : Mem K as G H μ) (a0 : At K as G v0 (.mut j)) (av : Ats K as G vs ds) (h0 : μ[j]? = some m0) (g0 : m0 ≠ .gone) (f0 : m0.mf = true) (mf : mfs ds = true)
    (h : R (.mut 0 :: ds) [m0] (fun d μ' => d.mf = true ∧ ∃ m1, μ'[0]? = some m1 ∧ m1 ≠ .gone ∧ m1.mf = true ∧ Q d (μ.set j m1)) (fun C fs μ' => mff fs = true ∧ ∃ m1, μ'[0]? = some m1 ∧ m1 ≠ .gone ∧ m1.mf = true ∧ J C fs (μ.set j m1))) :
    spD K R (v0 :: vs) H (AfE K as G H Q) (fun cls d H' => WJ K J as G H cls d H') := by
  cases a0 with
  | «mut» hj =>
    rename_i p
    obtain ⟨p', o', e1, e2, e3, e4⟩ := m.cell j m0 h0 g0
    rw [hj] at e1; cases e1
    refine ⟨[p], G, .mut 0 :: ds, [m0], _, _, ⟨m.same, rfl, fun k mo hk hg => ?_, by simp, fun a h => ?_⟩, .cons (.mut rfl) (av.free mf), h, ?_, ?_⟩
    · have : k = 0 := by
        have := (List.getElem?_eq_some_iff.mp hk).1
        simpa using this
      subst this
      simp at hk
      subst hk
      exact ⟨p, o', rfl, e2, e3.free f0, e4⟩
    · have : a = p := by simpa using h
      subst this
      rw [e2]; simp
    · rintro v H' ⟨d, μ', as', G', t, m', a', md, m1, h1, g1, f1, q⟩
      obtain ⟨t2, m2⟩ := lift1 m hj h0 g0 t m' h1 g1 f1
      exact ⟨d, _, as, G', t2, m2, a'.free md, q⟩
    · rintro cls d H' ⟨C, as', G', μ', gs, e, t, m', fz, mg, m1, h1, g1, f1, q⟩
      obtain ⟨t2, m2⟩ := lift1 m hj h0 g0 t m' h1 g1 f1
      refine ⟨C, as, G', _, gs, e, t2, m2, ?_, q⟩
      rcases fz with z | ⟨dd, fs, e1, e2, e3⟩
      · exact .inl z
      · exact .inr ⟨dd, fs, e1, e2, e3.free mg⟩
/-- how a call is made: without mutable objects, or with one as the first argument -/
def CallsD (R : Spc) (J : JX) (ds : List Dt) (μ : Mu) (Q : Dt → Mu → Prop) : Prop :=
  (mfs ds = true ∧ R ds [] (fun d _ => d.mf = true ∧ Q d μ) (fun C fs _ => mff fs = true ∧ J C fs μ)) ∨
  ∃ j m0 r, ds = .mut j :: r ∧ μ[j]? = some m0 ∧ m0 ≠ .gone ∧ m0.mf = true ∧ mfs r = true ∧
    R (.mut 0 :: r) [m0] (fun d μ' => d.mf = true ∧ ∃ m1, μ'[0]? = some m1 ∧ m1 ≠ .gone ∧ m1.mf = true ∧ Q d (μ.set j m1)) (fun C fs μ' => mff fs = true ∧ ∃ m1, μ'[0]? = some m1 ∧ m1 ≠ .gone ∧ m1.mf = true ∧ J C fs (μ.set j m1))
theorem CallsD.sp {K : PySem.W.Frag} {as : List Addr} {G : Hp} {vs : List V} {ds : List Dt} {Q : Dt → Mu → Prop} (h : CallsD R J ds μ Q) (m : Mem K as G H μ) (av : Ats K as G vs ds) : spD K R vs H (AfE K as G H Q) (fun cls d H' => WJ K J as G H cls d H') := by
  rcases h with ⟨mf, h⟩ | ⟨j, m0, r, rfl, h0, g0, f0, mf, h⟩
  · exact spD0 m av mf h
  · cases av with
    | cons a0 ar => exact spD1 m a0 ar h0 g0 f0 mf h
theorem dE_call {x : Str} {p : Pos} {Q : Dt → Mu → Prop} (F : FnG X.prog X.w X.K X.mg X.base k f fd ps R) (hr : Room k X.A) (hgd : X.A.guards = some []) (hm : X.mg x = some (.ref f)) (hk : PySem.W.keepIn X.K (.ref f) = true) (hb : Binds X.K fd ps [])
    (h : dA X J (e :: es) ρ μ fun ds μ1 => CallsD R J ds μ1 Q)
    (hg : Gl X x := by rfl) (hdb : (x == ("__debug__" : Str)) = false := by decide) (he : starEach (e :: es) X.env = (false, eval e X.env) :: starEach es X.env := by rfl) (hpl : (backTo pos (starEach es X.env)).any (·.1) = false := by rfl) :
    dE X J (.Call (.Name x p) (e :: es) [] pos) ρ μ Q := .mk fun as G H σ S pins s I => by
  refine wpAny_Call_Name_kw (ld_glob I hg hm ?_ hdb)
  refine PySem.W.callWith_K (h₀ := X.base) I.ok.mod.kin hk (thn (h as G H σ S pos pins s I) fun us s1 ⟨vs, H1, I1, r, ds, μ1, as1, G1, t, m, av, q⟩ => ⟨I1.kIn, ?_⟩) he hpl
  have z := run_fnG (Q := AfE X.K as1 G1 H1 Q) F hr hgd hb (S.tk.step t) I1 r (q.sp m av)
  exact thn z fun u s2 ⟨v, H2, I2, rv, q2⟩ => ⟨v, H2, I2, rv, q2.back t⟩
theorem dE_call0 {x : Str} {p : Pos} {Q : Dt → Mu → Prop} (F : FnG X.prog X.w X.K X.mg X.base k f fd ps R) (hr : Room k X.A) (hgd : X.A.guards = some []) (hm : X.mg x = some (.ref f)) (hk : PySem.W.keepIn X.K (.ref f) = true) (hb : Binds X.K fd ps [])
    (h : CallsD R J [] μ Q) (hg : Gl X x := by rfl) (hdb : (x == ("__debug__" : Str)) = false := by decide) : dE X J (.Call (.Name x p) [] [] pos) ρ μ Q := .mk fun as G H σ S pins s I => by
  refine wpAny_Call_Name_kw (ld_glob I hg hm ?_ hdb)
  exact PySem.W.callWith_K0 I.kIn hk (run_fnG (us := []) F hr hgd hb S.tk I .nil (h.sp S.mem .nil))
end
end DL

/-! D6: repr of data (dicts within too). -/
namespace DL
open PySem PySem.Spec PyProof.Rows L2

/-! ### data as it is shown -/
def keyPy : Key → PyData
  | .inl i => .int i
  | .inr x => .str x
mutual
def toPy : Dt → Option PyData
  | .non => some .none
  | .bl b => some (.bool b)
  | .int i => some (.int i)
  | .str x => some (.str x)
  | .lst xs => (toPys xs).map .list
  | .tup xs => (toPys xs).map .tuple
  | .dic es => (toPyk es).map .dict
  | _ => none
def toPys : List Dt → Option (List PyData)
  | [] => some []
  | d :: r => match toPy d, toPys r with
    | some p, some ps => some (p :: ps)
    | _, _ => none
def toPyk : List (Key × Dt) → Option (List (PyData × PyData))
  | [] => some []
  | (k, d) :: r => match toPy d, toPyk r with
    | some p, some ps => some ((keyPy k, p) :: ps)
    | _, _ => none
end
/-! ### what the heap says of it; a dict is not the system's own -/
mutual
inductive RdD (h : Heap) : Value → PyData → Prop
  | none : RdD h .none .none
  | bool (b : Bool) : RdD h (.bool b) (.bool b)
  | int (i : Int) (t : Tok) : RdD h (.int i t) (.int i)
  | str (x : Str) (t : Tok) : RdD h (.str x t) (.str x)
  | list {a : Addr} {o : Obj} {vs : Array Value} {n : Nat} {xs : List PyData} : h.get? a = some o → o.cls = .type "list" → o.data = .seq vs n → RdsD h vs.toList xs → RdD h (.ref a) (.list xs)
  | tuple {a : Addr} {o : Obj} {vs : Array Value} {n : Nat} {xs : List PyData} : h.get? a = some o → o.cls = .type "tuple" → o.data = .seq vs n → RdsD h vs.toList xs → RdD h (.ref a) (.tuple xs)
  | dict {a : Addr} {o : Obj} {es : Array DictEntry} {n : Nat} {kvs : List (PyData × PyData)} : (a == sysModules) = false → h.get? a = some o → o.cls = .type "dict" → o.data = .dict es n → RdsD h (es.toList.map (·.key)) (kvs.map (·.1)) → RdsD h (es.toList.map (·.val)) (kvs.map (·.2)) → RdD h (.ref a) (.dict kvs)
inductive RdsD (h : Heap) : List Value → List PyData → Prop
  | nil : RdsD h [] []
  | cons {v : Value} {vs : List Value} {d : PyData} {ds : List PyData} : RdD h v d → RdsD h vs ds → RdsD h (v :: vs) (d :: ds)
end
mutual
theorem RdD.rd {h : Heap} : ∀ {v : Value} {d : PyData}, RdD h v d → ∃ as, Reads h v d as
  | _, _, .none => ⟨_, .none⟩
  | _, _, .bool b => ⟨_, .bool b⟩
  | _, _, .int i t => ⟨_, .int i t⟩
  | _, _, .str x t => ⟨_, .str x t⟩
  | _, _, .list h1 h2 h3 h4 => let ⟨_, z⟩ := RdsD.rd h4; ⟨_, .list h1 h2 h3 z⟩
  | _, _, .tuple h1 h2 h3 h4 => let ⟨_, z⟩ := RdsD.rd h4; ⟨_, .tuple h1 h2 h3 z⟩
  | _, _, .dict _ h1 h2 h3 h4 h5 => let ⟨_, z⟩ := RdsD.rd h4; let ⟨_, z2⟩ := RdsD.rd h5; ⟨_, .dict h1 h2 h3 z z2⟩
theorem RdsD.rd {h : Heap} : ∀ {v : List Value} {d : List PyData}, RdsD h v d → ∃ as, ReadsAll h v d as
  | _, _, .nil => ⟨_, .nil⟩
  | _, _, .cons a t => let ⟨_, z⟩ := RdD.rd a; let ⟨_, z2⟩ := RdsD.rd t; ⟨_, .cons z z2⟩
end
section
variable {prog : Program} {w : World} {h : Heap}
mutual
/-- its text, as a part of a greater one -/
theorem RdD.k : ∀ {v : Value} {d : PyData}, RdD h v d → d.showable = true → d.shown.length ≤ sizeLine → ∃ bs, ReadAtMost h d.depth bs ∧ ReprK prog w bs h d.depth v d.shown
  | _, _, .none, _, _ => ⟨[], nofun, by unfold PyData.shown; exact .of_is .none _ _ _⟩
  | _, _, .bool b, _, _ => ⟨[], nofun, by unfold PyData.shown; exact .of_is (.bool b) _ _ _⟩
  | _, _, .int i t, hs, _ => ⟨[], nofun, by unfold PyData.shown; exact .of_is (.int t (by simpa [PyData.showable] using hs)) _ _ _⟩
  | _, _, .str x t, _, hz => ⟨[], nofun, by unfold PyData.shown at hz ⊢; exact .of_is (.str x t hz) _ _ _⟩
  | _, _, .list (a := a) (vs := vs) (xs := xs) h1 h2 h3 h4, hs, hz => by
    have z1 : (listText (PyData.shownAll xs)).length ≤ sizeLine := by simpa only [PyData.shown] using hz
    have s1 : PyData.showableAll xs = true := by simpa [PyData.showable] using hs
    obtain ⟨bs, hb, hk⟩ := RdsD.k h4 s1 fun t ht => Nat.le_trans (listText_mem_le ht) z1
    obtain ⟨as, r4⟩ := RdsD.rd h4
    have rr : Reads h (.ref a) (.list xs) _ := .list h1 h2 h3 r4
    have na : a ∉ bs := not_mem_of_deeper rr (by simp only [PyData.depth]; omega) hb
    refine ⟨a :: bs, .cons rr (by simp only [PyData.depth]; omega) hb, ?_⟩
    simp only [PyData.depth, PyData.shown]
    rcases vs with ⟨_ | ⟨x, l⟩⟩
    · have q : RdsD h [] xs := h4
      cases q
      simp only [PyData.shownAll, listText_nil]
      exact .listEmpty h1 h2 h3
    · exact .list h1 h2 h3 na (by simpa using hk.length_eq) fun i y e => hk.item i y (by simpa using e)
  | _, _, .tuple (a := a) (xs := xs) h1 h2 h3 h4, hs, hz => by
    have z1 : (tupleText (PyData.shownAll xs)).length ≤ sizeLine := by simpa only [PyData.shown] using hz
    have s1 : PyData.showableAll xs = true := by simpa [PyData.showable] using hs
    obtain ⟨bs, hb, hk⟩ := RdsD.k h4 s1 fun t ht => Nat.le_trans (tupleText_mem_le ht) z1
    obtain ⟨as, r4⟩ := RdsD.rd h4
    have rr : Reads h (.ref a) (.tuple xs) _ := .tuple h1 h2 h3 r4
    have na : a ∉ bs := not_mem_of_deeper rr (by simp only [PyData.depth]; omega) hb
    refine ⟨a :: bs, .cons rr (by simp only [PyData.depth]; omega) hb, ?_⟩
    simp only [PyData.depth, PyData.shown]
    exact .tuple h1 h2 h3 na hk
  | _, _, .dict (a := a) (es := es) (kvs := kvs) h0 h1 h2 h3 h4 h5, hs, hz => by
    have z1 : (dictText (PyData.shownKv kvs)).length ≤ sizeLine := by simpa only [PyData.shown] using hz
    obtain ⟨s1, s2⟩ := PyData.showableKv_split kvs (by simpa [PyData.showable] using hs)
    have k1 : ∀ t ∈ PyData.shownAll (kvs.map (·.1)), t.length ≤ sizeLine := fun t ht => by
      obtain ⟨p, hp, hl⟩ := PyData.shownKv_key_le kvs t ht
      exact Nat.le_trans (Nat.le_trans hl (dictText_mem_le hp)) z1
    have k2 : ∀ t ∈ PyData.shownAll (kvs.map (·.2)), t.length ≤ sizeLine := fun t ht => by
      obtain ⟨p, hp, hl⟩ := PyData.shownKv_val_le kvs t ht
      exact Nat.le_trans (Nat.le_trans hl (dictText_mem_le hp)) z1
    obtain ⟨b1, hb1, q1⟩ := RdsD.k h4 s1 k1
    obtain ⟨b2, hb2, q2⟩ := RdsD.k h5 s2 k2
    obtain ⟨as, r4⟩ := RdsD.rd h4
    obtain ⟨bs, r5⟩ := RdsD.rd h5
    have rr : Reads h (.ref a) (.dict kvs) _ := .dict h1 h2 h3 r4 r5
    have hb : ReadAtMost h (PyData.depthKv kvs) (b1 ++ b2) := (hb1.mono (PyData.depthAll_keys_le kvs)).append (hb2.mono (PyData.depthAll_vals_le kvs))
    have na : a ∉ b1 ++ b2 := not_mem_of_deeper rr (by simp only [PyData.depth]; omega) hb
    refine ⟨a :: (b1 ++ b2), .cons rr (by simp only [PyData.depth]; omega) hb, ?_⟩
    simp only [PyData.depth, PyData.shown, PyData.shownKv_eq]
    have p1 := q1.more_le (fun b hb => List.mem_append_left b2 hb) (PyData.depthAll_keys_le kvs)
    have p2 := q2.more_le (fun b hb => List.mem_append_right b1 hb) (PyData.depthAll_vals_le kvs)
    exact .dict h1 h2 h3 h0 na (.of_two es.toList _ _ p1 p2)
theorem RdsD.k : ∀ {v : List Value} {d : List PyData}, RdsD h v d → PyData.showableAll d = true → (∀ t ∈ PyData.shownAll d, t.length ≤ sizeLine) → ∃ bs, ReadAtMost h (PyData.depthAll d) bs ∧ ReprAllK prog w bs h (PyData.depthAll d) v (PyData.shownAll d)
  | _, _, .nil, _, _ => ⟨[], nofun, by unfold PyData.shownAll; exact .nil⟩
  | _, _, .cons (d := d) (ds := ds) a t, hs, hz => by
    have hs' : d.showable = true ∧ PyData.showableAll ds = true := by simpa [PyData.showableAll] using hs
    simp only [PyData.shownAll, List.mem_cons, forall_eq_or_imp] at hz
    obtain ⟨b1, hb1, k1⟩ := RdD.k a hs'.1 hz.1
    obtain ⟨b2, hb2, k2⟩ := RdsD.k t hs'.2 hz.2
    simp only [PyData.depthAll, PyData.shownAll]
    refine ⟨b1 ++ b2, (hb1.mono (Nat.le_max_left _ _)).append (hb2.mono (Nat.le_max_right _ _)), ?_⟩
    exact .cons ((k1.more fun b hb => List.mem_append_left _ hb).level_le (Nat.le_max_left _ _)) (k2.more_le (fun b hb => List.mem_append_right _ hb) (Nat.le_max_right _ _))
end
/-- repr(v) -/
theorem RdD.call {A : Around} {E : Value → Shared → Prop} {s : Shared} {Q : Value → Shared → Prop} {v : Value} {d : PyData} (r : RdD s.heap v d) (hs : d.showable = true) (hz : d.shown.length ≤ sizeLine) (hg : A.guards = some []) (hu : A.units + (d.depth + 1) < cLine)
    (hQ : ∀ h' u tk, (∀ b o, s.heap.get? b = some o → h'.get? b = some o) → Q (.str d.shown u) { s with heap := h', toks := tk }) : wpAny (model prog w) A (call (.builtin "repr") [v]) Q E s := by
  have old : ∀ b o, s.heap.get? b = some o → s.heap.get? b = some o := fun _ _ e => e
  cases r with
  | none => unfold PyData.shown at hQ; exact P.repr_of_none (hQ s.heap _ _ old)
  | bool b => unfold PyData.shown at hQ; exact P.repr_of_bool (hQ s.heap _ _ old)
  | int i t => unfold PyData.shown at hQ; exact P.repr_of_int (by simpa [PyData.showable] using hs) (hQ s.heap _ _ old)
  | str x t => unfold PyData.shown at hQ hz; exact P.repr_of_str (hQ s.heap _ _ old) hz
  | list h1 h2 h3 h4 =>
    rename_i a o vs n xs
    have z1 : (listText (PyData.shownAll xs)).length ≤ sizeLine := by simpa only [PyData.shown] using hz
    have s1 : PyData.showableAll xs = true := by simpa [PyData.showable] using hs
    obtain ⟨bs, hb, hk⟩ := RdsD.k (prog := prog) (w := w) h4 s1 fun t ht => Nat.le_trans (listText_mem_le ht) z1
    obtain ⟨as, r4⟩ := RdsD.rd h4
    have rr : Reads s.heap (.ref a) (.list xs) _ := .list h1 h2 h3 r4
    have na : a ∉ bs := not_mem_of_deeper rr (by simp only [PyData.depth]; omega) hb
    simp only [PyData.depth] at hu
    simp only [PyData.shown] at hQ
    refine call_repr_slot (by omega) ⟨o, h1, h2⟩ F.slot_list_repr.toG ?_
    rcases vs with ⟨_ | ⟨x, l⟩⟩
    · have q : RdsD s.heap [] xs := h4
      cases q
      simp only [PyData.shownAll, listText_nil] at hQ
      exact call_list_repr_empty ⟨o, h1, h2⟩ h1 h3 ⟨_, _, rfl, hQ s.heap _ _ old⟩
    · exact call_list_reprK h1 h2 h3 na (by simpa using hk.length_eq) (fun i y e => hk.item i y (by simpa using e)) hg (fun b _ => Clear.nil b) (by show A.units + 1 + _ < cLine; omega) old (fun h' u tk k => ⟨_, _, rfl, hQ h' u tk k⟩) z1
  | tuple h1 h2 h3 h4 =>
    rename_i a o vs n xs
    have z1 : (tupleText (PyData.shownAll xs)).length ≤ sizeLine := by simpa only [PyData.shown] using hz
    have s1 : PyData.showableAll xs = true := by simpa [PyData.showable] using hs
    obtain ⟨bs, hb, hk⟩ := RdsD.k (prog := prog) (w := w) h4 s1 fun t ht => Nat.le_trans (tupleText_mem_le ht) z1
    obtain ⟨as, r4⟩ := RdsD.rd h4
    have rr : Reads s.heap (.ref a) (.tuple xs) _ := .tuple h1 h2 h3 r4
    have na : a ∉ bs := not_mem_of_deeper rr (by simp only [PyData.depth]; omega) hb
    simp only [PyData.depth] at hu
    simp only [PyData.shown] at hQ
    refine call_repr_slot (by omega) ⟨o, h1, h2⟩ F.slot_tuple_repr ?_
    exact call_tuple_reprK h1 h2 h3 na hk hg (fun b _ => Clear.nil b) (by show A.units + 1 + _ < cLine; omega) old (fun h' u tk k => ⟨_, _, rfl, hQ h' u tk k⟩) z1
  | dict h0 h1 h2 h3 h4 h5 =>
    rename_i a o es n kvs
    have K := RdD.k (prog := prog) (w := w) (.dict h0 h1 h2 h3 h4 h5) hs hz
    have z1 : (dictText (PyData.shownKv kvs)).length ≤ sizeLine := by simpa only [PyData.shown] using hz
    obtain ⟨s1, s2⟩ := PyData.showableKv_split kvs (by simpa [PyData.showable] using hs)
    have k1 : ∀ t ∈ PyData.shownAll (kvs.map (·.1)), t.length ≤ sizeLine := fun t ht => by
      obtain ⟨p, hp, hl⟩ := PyData.shownKv_key_le kvs t ht
      exact Nat.le_trans (Nat.le_trans hl (dictText_mem_le hp)) z1
    have k2 : ∀ t ∈ PyData.shownAll (kvs.map (·.2)), t.length ≤ sizeLine := fun t ht => by
      obtain ⟨p, hp, hl⟩ := PyData.shownKv_val_le kvs t ht
      exact Nat.le_trans (Nat.le_trans hl (dictText_mem_le hp)) z1
    obtain ⟨b1, hb1, q1⟩ := RdsD.k (prog := prog) (w := w) h4 s1 k1
    obtain ⟨b2, hb2, q2⟩ := RdsD.k (prog := prog) (w := w) h5 s2 k2
    obtain ⟨as, r4⟩ := RdsD.rd h4
    obtain ⟨bs, r5⟩ := RdsD.rd h5
    have rr : Reads s.heap (.ref a) (.dict kvs) _ := .dict h1 h2 h3 r4 r5
    have hb : ReadAtMost s.heap (PyData.depthKv kvs) (b1 ++ b2) := (hb1.mono (PyData.depthAll_keys_le kvs)).append (hb2.mono (PyData.depthAll_vals_le kvs))
    have na : a ∉ b1 ++ b2 := not_mem_of_deeper rr (by simp only [PyData.depth]; omega) hb
    have p1 := q1.more_le (fun b hb => List.mem_append_left b2 hb) (PyData.depthAll_keys_le kvs)
    have p2 := q2.more_le (fun b hb => List.mem_append_right b1 hb) (PyData.depthAll_vals_le kvs)
    simp only [PyData.depth] at hu
    simp only [PyData.shown, PyData.shownKv_eq] at hQ
    refine call_repr_slot (by omega) ⟨o, h1, h2⟩ F.slot_dict_repr ?_
    exact call_dict_reprK h1 h2 h3 h0 na (.of_two es.toList _ _ p1 p2) hg (fun b _ => Clear.nil b) (by show A.units + 1 + _ < cLine; omega) old (fun h' u tk k => ⟨_, _, rfl, hQ h' u tk k⟩) (by rw [← PyData.shownKv_eq]; exact z1)
end

/-! ### data in the abstract heap as the heap says it -/
section
variable {X : Cx} {pins : List (Addr × Obj)} {σ : L2.St} {G H : Hp} {s : Shared} {as : List Addr}
theorem toPys_cons {d : Dt} {r : List Dt} {q : List PyData} (h : toPys (d :: r) = some q) : ∃ p ps, toPy d = some p ∧ toPys r = some ps ∧ q = p :: ps := by
  unfold toPys at h
  cases e1 : toPy d with
  | none => rw [e1] at h; simp at h
  | some p =>
    cases e2 : toPys r with
    | none => rw [e1, e2] at h; simp at h
    | some ps => rw [e1, e2] at h; simp at h; exact ⟨p, ps, rfl, rfl, h.symm⟩
theorem toPyk_cons {k : Key} {d : Dt} {r : List (Key × Dt)} {q : List (PyData × PyData)} (h : toPyk ((k, d) :: r) = some q) : ∃ p ps, toPy d = some p ∧ toPyk r = some ps ∧ q = (keyPy k, p) :: ps := by
  unfold toPyk at h
  cases e1 : toPy d with
  | none => rw [e1] at h; simp at h
  | some p =>
    cases e2 : toPyk r with
    | none => rw [e1, e2] at h; simp at h
    | some ps => rw [e1, e2] at h; simp at h; exact ⟨p, ps, rfl, rfl, h.symm⟩
mutual
theorem At.rdD (I : Inv X pins σ H s) (g : Same G H) : ∀ {v : V} {d : Dt} {p : PyData} {u : Value}, At X.K as G v d → toPy d = some p → RelV v u → RdD s.heap u p
  | _, _, _, _, .non, h, r => by
    simp only [toPy, Option.some.injEq] at h
    subst h
    cases r
    exact .none
  | _, _, _, _, .bl b, h, r => by
    simp only [toPy, Option.some.injEq] at h
    subst h
    cases r
    exact .bool b
  | _, _, _, _, .int i, h, r => by
    simp only [toPy, Option.some.injEq] at h
    subst h
    obtain ⟨t, rfl⟩ := r
    exact .int i t
  | _, _, _, _, .str x, h, r => by
    simp only [toPy, Option.some.injEq] at h
    subst h
    obtain ⟨t, rfl⟩ := r
    exact .str x t
  | _, _, _, _, .lst (ds := ds) h1 h2, h, r => by
    simp only [toPy] at h
    cases e : toPys ds with
    | none => rw [e] at h; simp at h
    | some ps =>
      rw [e] at h
      simp at h
      subst h
      cases r
      obtain ⟨its, rv, ⟨o, n, ho, hc, _, hd⟩, _⟩ := I.list (g.seq h1)
      exact .list ho hc hd (by simpa using Ats.rdD I g h2 e rv)
  | _, _, _, _, .tup (ds := ds) h1 h2, h, r => by
    simp only [toPy] at h
    cases e : toPys ds with
    | none => rw [e] at h; simp at h
    | some ps =>
      rw [e] at h
      simp at h
      subst h
      cases r
      obtain ⟨its, rv, ⟨o, ho, hc, n, hd⟩, _⟩ := I.tuple (Same.tup g h1)
      exact .tuple ho hc hd (by simpa using Ats.rdD I g h2 e rv)
  | _, _, _, _, .dic (es := es) h1 h2, h, r => by
    simp only [toPy] at h
    cases e : toPyk es with
    | none => rw [e] at h; simp at h
    | some ps =>
      rw [e] at h
      simp at h
      subst h
      cases r
      obtain ⟨z, hd, vs, rel, o, des, ep, ho, hx, hda, _, hp, _⟩ := dk_of I.hok (g _ _ h1)
      obtain ⟨q1, q2⟩ := Kts.rdD I g h2 e rel hp
      exact .dict hd ho hx.1 hda q1 q2
  | _, _, _, _, .obj _ _, h, _ => by simp [toPy] at h
  | _, _, _, _, .exc _ _ _, h, _ => by simp [toPy] at h
  | _, _, _, _, .val _, h, _ => by simp [toPy] at h
  | _, _, _, _, .mut _, h, _ => by simp [toPy] at h
  | _, _, _, _, .cau _ _, h, _ => by simp [toPy] at h
  | _, _, _, _, .clo _ _, h, _ => by simp [toPy] at h
theorem Ats.rdD (I : Inv X pins σ H s) (g : Same G H) : ∀ {v : List V} {d : List Dt} {p : List PyData} {u : List Value}, Ats X.K as G v d → toPys d = some p → Vals v u → RdsD s.heap u p
  | _, _, _, _, .nil, h, r => by
    cases r
    simp only [toPys, Option.some.injEq] at h
    subst h
    exact .nil
  | _, _, _, _, .cons a t, h, r => by
    cases r with
    | cons r1 r2 =>
      obtain ⟨p, ps, e1, e2, rfl⟩ := toPys_cons h
      exact .cons (At.rdD I g a e1 r1) (Ats.rdD I g t e2 r2)
theorem Kts.rdD (I : Inv X pins σ H s) (g : Same G H) : ∀ {v : List (Key × V)} {d : List (Key × Dt)} {p : List (PyData × PyData)} {u : List (Key × Value)} {des : List DictEntry}, Kts X.K as G v d → toPyk d = some p → KV v u → Pairs (mixKind X.prog X.w) des u →
    RdsD s.heap (des.map (·.key)) (p.map (·.1)) ∧ RdsD s.heap (des.map (·.val)) (p.map (·.2))
  | _, _, _, _, _, .nil, h, r, q => by
    cases r
    cases q
    simp only [toPyk, Option.some.injEq] at h
    subst h
    exact ⟨.nil, .nil⟩
  | _, _, _, _, _, .cons (f := k) a t, h, r, q => by
    cases r with
    | cons r1 r2 =>
      rename_i kv us
      cases q with
      | cons q1 q2 q3 =>
        rename_i de des
        obtain ⟨p, ps, e1, e2, rfl⟩ := toPyk_cons h
        obtain ⟨z1, z2⟩ := Kts.rdD I g t e2 r2 q3
        have hk : RdD s.heap de.key (keyPy k) := by
          rw [← r1.1, mixKind_is] at q1
          rcases keyIs_shape q1 with ⟨i, tt, e3, e4⟩ | ⟨x, tt, e3, e4⟩
          · have e3 : k = Sum.inl i := e3
            subst e3
            rw [e4]
            exact .int i tt
          · have e3 : k = Sum.inr x := e3
            subst e3
            rw [e4]
            exact .str x tt
        refine ⟨.cons hk z1, .cons ?_ z2⟩
        show RdD s.heap de.val p
        rw [q2]
        exact At.rdD I g a e1 r1.2
end
end
section
variable {X : Cx}
/-- repr of data -/
theorem cd_repr (hg : X.A.guards = some []) {n : Nat} (hu : X.A.units + n < cLine) : CallD X (.builtin "repr") (fun ds μ Q => ∃ d p, ds = [d] ∧ toPy d = some p ∧ p.showable = true ∧ p.shown.length ≤ sizeLine ∧ p.depth + 1 ≤ n ∧ Q (.str p.shown) μ) := by
  refine ⟨fun xs H Q => ∃ as G d p, Same G H ∧ Ats X.K as G xs [d] ∧ toPy d = some p ∧ p.showable = true ∧ p.shown.length ≤ sizeLine ∧ p.depth + 1 ≤ n ∧ Q (.str p.shown) H, ?_, ?_⟩
  · intro pins s σ H xs us Q I r h
    obtain ⟨as, G, d, p, g, a, e, hs, hz, hd, q⟩ := h
    obtain ⟨x, rfl, a2⟩ := a.one
    obtain ⟨u, rfl, ru⟩ := vals1 r
    exact RdD.call (a2.rdD I g e ru) hs hz hg (by omega) fun h' u tk k => ⟨.str p.shown, H, I.kept k, ⟨_, rfl⟩, q⟩
  · intro as G H μ xs ds Q Q' m a h f
    obtain ⟨d, p, rfl, e, hs, hz, hd, q⟩ := h
    exact ⟨as, G, d, p, m.same, a, e, hs, hz, hd, f _ _ (.now m (.str _) q)⟩
end
end DL

/-! D7: own exceptions over ValueError: made by place and by name, held as data, raised, asked. -/
namespace PySem.DLX
open PySem PySem.Spec PyProof.Rows PySem.HandSPX PySem.W
section
variable {M : Model} {prog : Program} {w : World} {A : Around} {E : Value → Shared → Prop} {R : Result → Shared → Prop} {h : Heap} {g : Array GenState} {d : Drawn} {t : Nat} {os : OsState}
variable {nm qn : Str} {C N : Addr} {bs bm mB : List Value} {hdct : Bool} {sn : List Str} {sub : List Value} {ab : Bool} {col : Option Bool} {dd : Option Addr} {k0 k1 k2 k3 k5 : Option Value} {B idN idI : String} {kws : List (Str × Value)} {us : List Value}
/-- the look that a call of B.__new__ takes, keywords or not -/
theorem look_new (F : ExcBaseFacts B idN idI mB) (same : ∀ Y : String, bm.contains (.type Y) = mB.contains (.type Y)) {Q : Unit → Shared → Prop}
    (cls : h.get? C = some (excClassObj nm qn C N bs bm hdct sn sub ab col dd k0 k1 k2 k3 k5 idN)) (q : Q () ⟨h, g, d, t, os⟩) : wpAny M A (checkBuiltinCall idN ⟨.ref C :: us, kws⟩) Q E ⟨h, g, d, t, os⟩ := by
  have sb : (Value.ref C :: bm).contains (.type B) = true := by rw [List.contains_cons, same, F.hasB, Bool.or_true]
  have st := F.noStar
  simp only [checkBuiltinCall, F.newKind, F.newSplit, F.newRow]
  repeat (first | refine wpAny_loadPart_at cls ?_ | (refine wpAny_isSubtype_exc cls ?_; rw [sb]) | refine wpAny_staticBase_exc cls ?_ | refine wpAny_madeBy_exc cls ?_ | simp only [bne_self_eq_false, Bool.false_eq_true, if_false] | wp_step)
  all_goals exact q
theorem lay_new (F : ExcBaseFacts B idN idI mB) (same : ∀ Y : String, bm.contains (.type Y) = mB.contains (.type Y))
    (cls : h.get? C = some (excClassObj nm qn C N bs bm hdct sn sub ab col dd k0 k1 k2 k3 k5 idN)) (few : us.length ≤ sizeLine)
    (q : R (.ok (.ret (.ref (h.objs.size + 1)))) ⟨(h.push (kdv_tup us)).push (excO C h.objs.size), g, d, t, os⟩) :
    codeAny (model prog w) A (.builtin idN ⟨.ref C :: us, kws⟩) R ⟨h, g, d, t, os⟩ := by
  have he := F.ends
  have i1 : (Value.ref C :: bm).contains (.type B) = true := by rw [List.contains_cons, same, F.hasB, Bool.or_true]
  have i2 : (Value.ref C :: bm).contains (.type "AttributeError") = false := by rw [List.contains_cons, same, F.noAttr]; rfl
  have i3 : (Value.ref C :: bm).contains (.type "NameError") = false := by rw [List.contains_cons, same, F.noName]; rfl
  refine codeAny_builtinAt F.entry ?_
  unfold Builtin.«BaseException.__new__»
  refine wpAt_bind ?_
  show wpAt _ _ _ (stack >>= _) _ _ _
  refine wpAt_bind (wpAt_stack fun p below => wpAt_of_wpAny ?_)
  wp_walk
  refine wpAt_of_wpAny ?_
  rw [F.owner]
  repeat (first | with_reducible refine wpAny_madeHere_exc F.canon cls ?_ | with_reducible refine wpAny_loadPart_at cls ?_ | (with_reducible refine wpAny_isSubtype_exc cls ?_; first | rw [i1] | rw [i2] | rw [i3]) | wp_step)
  show R _ _
  rw [Heap.size_push]
  exact q
theorem tcall_kw (F : ExcBaseFacts B idN idI mB) (same : ∀ Y : String, bm.contains (.type Y) = mB.contains (.type Y)) {fI : Addr} {Q : Fin → Shared → Prop}
    (cls : h.get? C = some (excClassObj nm qn C N bs bm hdct sn sub ab col dd k0 k1 k2 k3 k5 idN))
    (li : Looks (model prog w) h (typeLookup (.ref C) "__init__") (some (.ref fI))) (lb : ∀ self, Looks (model prog w) h (bindSpecial (.ref fI) self) (.ref fI, [self])) (few : us.length ≤ sizeLine)
    (run : codeAny (model prog w) A (.call (.ref fI) ⟨.ref (h.objs.size + 1) :: us, kws⟩)
      (fun r s' => match r with | .ok (.ret v) => v = .none ∧ Q (.done (.ret (.ref (h.objs.size + 1)))) s' | .ok _ => False | .error e => E e s')
      ⟨(h.push (kdv_tup us)).push (excO C h.objs.size), g, d, t, os⟩) :
    wpAny (model prog w) A (Builtin.«type.__call__» ⟨.ref C :: us, kws⟩) Q E ⟨h, g, d, t, os⟩ := by
  repeat (first | with_reducible refine wpAny_loadPart_at cls ?_ | with_reducible refine wpAny_madeBy_exc cls ?_ | wp_step)
  refine codeAny_call_builtin_code (Code.quiet_builtin _ F.quiet) (look_new F same cls ?_)
  refine lay_new F same cls few ?_
  show wpAny _ _ _ _ _ _
  have up : ∀ b o, h.get? b = some o → ((h.push (kdv_tup us)).push (excO C h.objs.size)).get? b = some o := fun b o e => Heap.get?_push_of_some _ (Heap.get?_push_of_some _ e)
  have c1 := up _ _ cls
  have at1 : ((h.push (kdv_tup us)).push (excO C h.objs.size)).get? (h.objs.size + 1) = some (excO C h.objs.size) := by heap_get
  have cC : (Value.ref C :: bm).contains (.ref C) = true := by simp
  have l1 := li.keeps up
  have l2 := (lb (.ref (h.objs.size + 1))).keeps up
  unfold isInstance
  repeat (first | with_reducible refine wpAny_loadPart_at at1 ?_ | (with_reducible refine wpAny_isSubtype_exc c1 ?_; rw [cC]) | wp_step)
  show wpAny _ _ (typeLookup (.ref C) _) _ _ _
  refine l1.at ?_
  refine wpAny_holding (wpAny_bind (l2.at ?_))
  refine wpAny_bind (wpAny_call (codeAny_mono run fun r s' z => ?_))
  rcases r with e | (v | _ | _ | _) <;> first | exact z | exact z.elim | skip
  obtain ⟨rfl, z⟩ := z
  first
    | exact wpAny_pure (wpAny_pure z)
    | (wp_walk; exact z)
theorem check_tc {Q : Unit → Shared → Prop} (cls : h.get? C = some (excClassObj nm qn C N bs bm hdct sn sub ab col dd k0 k1 k2 k3 k5 idN)) (q : Q () ⟨h, g, d, t, os⟩) : wpAny M A (checkBuiltinCall "type.__call__" ⟨.ref C :: us, kws⟩) Q E ⟨h, g, d, t, os⟩ := by
  have ts := tc_sub
  have ty : (⟨h, g, d, t, os⟩ : Shared).TypeIs (.ref C) "type" := ⟨_, cls, rfl⟩
  simp only [checkBuiltinCall, tc_kind, tc_split]
  repeat (any_goals (first | assumption | with_reducible refine wpAny_loadPart_at cls ?_ | with_reducible refine wpAny_onRaise ?_ | with_reducible refine wpAny_map ?_ | wp_step))
theorem call_kw (F : ExcBaseFacts B idN idI mB) (same : ∀ Y : String, bm.contains (.type Y) = mB.contains (.type Y)) {fI : Addr}
    (cls : h.get? C = some (excClassObj nm qn C N bs bm hdct sn sub ab col dd k0 k1 k2 k3 k5 idN))
    (li : Looks (model prog w) h (typeLookup (.ref C) "__init__") (some (.ref fI))) (lb : ∀ self, Looks (model prog w) h (bindSpecial (.ref fI) self) (.ref fI, [self])) (few : us.length ≤ sizeLine)
    (run : codeAny (model prog w) (A.under (.builtin "type.__call__" ⟨.ref C :: us, kws⟩)) (.call (.ref fI) ⟨.ref (h.objs.size + 1) :: us, kws⟩) (InitBack (h.objs.size + 1) R)
      ⟨(h.push (kdv_tup us)).push (excO C h.objs.size), g, d, t, os⟩) :
    codeAny (model prog w) A (.call (.ref C) ⟨us, kws⟩) R ⟨h, g, d, t, os⟩ := by
  have f1 := tc_lookup
  have f2 := tc_bind (.ref C)
  have ty : (⟨h, g, d, t, os⟩ : Shared).TypeIs (.ref C) "type" := ⟨_, cls, rfl⟩
  refine codeAny_of_tree ?_
  show wpAny _ _ (callAny (.ref C) _) _ _ _
  repeat (any_goals (first | assumption | with_reducible refine wpAny_loadPart_at cls ?_ | wp_step))
  refine ⟨rfl, ?_⟩
  refine codeAny_call_builtin_at (Code.quiet_builtin _ (by decide +kernel)) entry_typeCall (check_tc cls (tcall_kw F same cls li lb few ?_))
  refine codeAny_mono run fun r s' z => ?_
  rcases r with e | (v | _ | _ | _) <;> exact z
end
end PySem.DLX

/-! D8: own exceptions as data. -/
namespace DL
open PySem PySem.Spec PyProof.Rows L2

/-! ### Base.__init__(self, ..) through an own class without __init__ -/
theorem pe_winit {X : Cx} {x : Str} {CW : Addr} {e : Expr} {es : List Expr} {ta : TA} {p1 p2 pos : Pos} {pl : Sem Bool} (hg : Gl X x) (hm : X.mg x = some (.ref CW)) (rd : PySem.W.readsIn X.K CW (.type "type") = true)
    (ga : PySem.W.specialIn X.K (.ref CW) "__getattribute__" = some (some (.builtin "type.__getattribute__"))) (vV : PySem.W.findCls X.K (.ref CW) (.type "type") "__init__" = some (.val (.builtin "ValueError.__init__"))) (ha : PA X (e :: es) ta) (hdb : (x == ("__debug__" : Str)) = false := by decide)
    (hc : eval (.Call (.Attribute (.Name x p1) "__init__" p2) (e :: es) [] pos) X.env = (do
      let ov ← eval (.Name x p1) X.env
      standAt p2.atName
      let (f, first) ← holding [ov] (getMethod ov "__init__" pl)
      callWith pos f first (backTo pos (starEach (e :: es) X.env)) (backToKw pos (keywordEach [] X.env))) := by rfl)
    (he : starEach (e :: es) X.env = (false, eval e X.env) :: starEach es X.env := by rfl) (hpl : (backTo pos (starEach es X.env)).any (·.1) = false := by rfl) :
    PE X (.Call (.Attribute (.Name x p1) "__init__" p2) (e :: es) [] pos) (tVeI X.K ta) := by
  refine ⟨fun pins s σ H Q I h => ?_⟩
  refine PySem.W.methodCall_KW (ld_glob I hg hm ?_ hdb) hc
  refine PySem.W.method_cls I.kIn ga (PySem.W.cls_value I.kIn rd vV (by decide +kernel) ?_)
  show wpAny _ _ (callWith pos (Value.builtin "ValueError.__init__") [] (backTo pos (starEach (e :: es) X.env)) []) _ _ _
  refine PyProof.Rows.callWith_method1 (thn (ha.run pos pins _ σ H _ (I.tok _) h) fun us s1 ⟨vs, H1, I1, r1, a, C, ws, ev, hl, T, ea, q⟩ => ?_) he hpl
  subst ev
  cases r1 with
  | @cons _ u0 _ ur ra rw' =>
    obtain rfl : u0 = Value.ref a := ra
    exact oinit_ok T I1 ea (by rw [← Paired.length rw', sizeLine_eq]; omega) fun s' J => ⟨.non, H1, J, rfl, q⟩

/-! ### the stores of an __init__ -/
def exH (H : Hp) (a C dx : Addr) (fs : List (Str × V)) : Hp := upd (upd H dx (exd dx fs)) a (exo a C (some dx))
theorem exH_put {H : Hp} {a C dx : Addr} {fs gs : List (Str × V)} (n : dx ≠ a) : upd (exH H a C dx fs) dx (exd dx gs) = exH H a C dx gs := by
  funext b
  unfold exH
  by_cases h1 : b = dx
  · subst h1
    rw [upd_same, upd_ne n, upd_same]
  · rw [upd_ne h1]
    by_cases h2 : b = a
    · subst h2; rw [upd_same, upd_same]
    · rw [upd_ne h2, upd_ne h2, upd_ne h1, upd_ne h1]
theorem exH_a {H : Hp} {a C dx : Addr} {fs : List (Str × V)} : exH H a C dx fs a = some (exo a C (some dx)) := upd_same
theorem exH_d {H : Hp} {a C dx : Addr} {fs : List (Str × V)} (n : dx ≠ a) : exH H a C dx fs dx = some (exd dx fs) := by
  unfold exH
  rw [upd_ne n, upd_same]
/-- self.f = f, one after the other -/
inductive Stores : List Stmt → List Str → Prop
  | nil : Stores [] []
  | cons {p1 p2 p3 p4 : Pos} {f : Str} {rest : List Stmt} {fs : List Str} (r : Stores rest fs) : Stores (.Assign [.Attribute (.Name "self" p1) f p2] (.Name f p3) p4 :: rest) (f :: fs)
section
variable {X : Cx} {a C dx : Addr} {H : Hp} {σ : L2.St} {D : Ends}
/-- what a field's name must be -/
structure FldN (X : Cx) (C : Addr) (σ : L2.St) (f : Str) (y : V) : Prop where
  at_ : ∃ j : Nat, X.N[j]? = some f ∧ (σ : List (Option V))[j]? = some (some y)
  vis : Vis X.env.scope f
  db : (f == ("__debug__" : Str)) = false
  cd : (f == ("__classdict__" : Str)) = false
  no : PySem.W.findIn X.K (.ref C) f = some none
theorem ps_store {f : Str} {p1 p2 p3 p4 : Pos} {j : Nat} (h0 : X.N[0]? = some ("self" : Str)) (v0 : Vis X.env.scope "self") (hj : X.N[j]? = some f) (hv : Vis X.env.scope f) (db : (f == ("__debug__" : Str)) = false) (cd : (f == ("__classdict__" : Str)) = false) :
    PS X (.Assign [.Attribute (.Name "self" p1) f p2] (.Name f p3) p4) (tOst X.K f (tVar 0) (tVar j)) :=
  ps_ost (pe_var h0 v0 (by decide) (by decide)) (pe_var hj hv db cd)
theorem stores_old (T : OexC X.K C) (n : dx ≠ a) (h0 : X.N[0]? = some ("self" : Str)) (v0 : Vis X.env.scope "self") (s0 : σ[0]? = some (some (.ref a))) : ∀ {sts : List Stmt} {fs : List Str}, Stores sts fs → ∀ (acc : List (Str × V)) (ys : List V), ys.length = fs.length →
    (∀ p ∈ fs.zip ys, FldN X C σ p.1 p.2) → acc.length + fs.length ≤ 900 → D.nx σ (exH H a C dx ((fs.zip ys).reverse ++ acc)) → wSs X sts D σ (exH H a C dx acc)
  | _, _, .nil, acc, ys, _, _, _, q => (pss_nil (X := X)).w (by
      show D.nx σ (exH H a C dx acc)
      cases ys <;> simpa using q)
  | _, _, .cons (f := f) r, acc, [], hl, _, _, _ => by simp at hl
  | _, _, .cons (f := f) (fs := fs) r, acc, y :: ys, hl, hf, hn, q => by
    have F := hf (f, y) (by simp)
    obtain ⟨j, e1, e2⟩ := F.at_
    refine (pss_cons (ps_store h0 v0 e1 F.vis F.db F.cd) pssW).w ?_
    refine ⟨y, e2, .ref a, s0, a, C, rfl, T, F.no, .inr ⟨dx, acc, exH_a, exH_d n, by simp at hn; omega, ?_⟩⟩
    rw [exH_put n]
    exact stores_old T n h0 v0 s0 r ((f, y) :: acc) ys (by simpa using hl) (fun p hp => hf p (by simp [hp])) (by simp at hn ⊢; omega) (by simpa using q)
theorem stores_new (T : OexC X.K C) (ha : H a = some (exo a C none)) (h0 : X.N[0]? = some ("self" : Str)) (v0 : Vis X.env.scope "self") (s0 : σ[0]? = some (some (.ref a))) {sts : List Stmt} {fs : List Str} (S : Stores sts fs) {ys : List V} (hl : ys.length = fs.length)
    (hf : ∀ p ∈ fs.zip ys, FldN X C σ p.1 p.2) (hn : fs.length ≤ 900) (q0 : fs = [] → D.nx σ H) (q : fs ≠ [] → ∀ dx, H dx = none → dx ≠ a → D.nx σ (exH H a C dx (fs.zip ys).reverse)) : wSs X sts D σ H := by
  cases S with
  | nil => exact (pss_nil (X := X)).w (show D.nx σ H from q0 rfl)
  | @cons p1 p2 p3 p4 f rest fs r =>
    cases ys with
    | nil => simp at hl
    | cons y ys =>
      have F := hf (f, y) (by simp)
      obtain ⟨j, e1, e2⟩ := F.at_
      refine (pss_cons (ps_store h0 v0 e1 F.vis F.db F.cd) pssW).w ?_
      refine ⟨y, e2, .ref a, s0, a, C, rfl, T, F.no, .inl ⟨ha, fun dx hd n => ?_⟩⟩
      show wSs X rest D σ (exH H a C dx [(f, y)])
      exact stores_old T n h0 v0 s0 r [(f, y)] ys (by simpa using hl) (fun p hp => hf p (by simp [hp])) (by simp at hn ⊢; omega) (by simpa using q (by simp) dx hd n)
end

/-! ### the promise of an __init__ -/
def spI (C : Addr) (names : List Str) : Sp := fun vs H Q _ => ∃ a ws, vs = .ref a :: ws ∧ ws.length = names.length ∧ H a = some (exo a C none) ∧ (names = [] → Q .non H) ∧ (names ≠ [] → ∀ dx, H dx = none → dx ≠ a → Q .non (exH H a C dx (names.zip ws).reverse))
theorem init_ok {P : Program} {w : World} {K : PySem.W.Frag} {mg : Str → Option Value} {base : Heap} {qual : Str} {st : Stmt} {f C CW : Addr} {fd : FuncData} {names : List Str} {p1 p2 p3 p4 p5 p6 : Pos} {tx : Str} {kk : Nat} {sts : List Stmt} (F : Fun K "__init__" qual st f fd)
    (S : FnScope ("self" :: names) ("self" :: names) (defScope st)) (T : OexC K C) (hm : mg "WebError" = some (.ref CW)) (rd : PySem.W.readsIn K CW (.type "type") = true)
    (ga : PySem.W.specialIn K (.ref CW) "__getattribute__" = some (some (.builtin "type.__getattribute__"))) (vV : PySem.W.findCls K (.ref CW) (.type "type") "__init__" = some (.val (.builtin "ValueError.__init__")))
    (hb : defBody st = .Expr (.Call (.Attribute (.Name "WebError" p1) "__init__" p2) [.Name "self" p3, .Constant (.str tx) kk p4] [] p5) p6 :: sts) (St : Stores sts names) (hg : (defScope st).names.lookup ("WebError" : Str) = some .globalImplicit)
    (vis : ∀ y : Str, y ∈ (("self" : Str) :: names) → (defScope st).names.lookup y = some .local) (db : ∀ y ∈ names, (y == ("__debug__" : Str)) = false ∧ (y == ("__classdict__" : Str)) = false) (no : ∀ y ∈ names, PySem.W.findIn K (.ref C) y = some none) (hn : names.length ≤ 900)
    (hc : ∀ env : Env, ∃ pl : Sem Bool, eval (.Call (.Attribute (.Name "WebError" p1) "__init__" p2) [.Name "self" p3, .Constant (.str tx) kk p4] [] p5) env = (do
      let ov ← eval (.Name "WebError" p1) env
      standAt p2.atName
      let (f, first) ← holding [ov] (getMethod ov "__init__" pl)
      callWith p5 f first (backTo p5 (starEach [.Name "self" p3, .Constant (.str tx) kk p4] env)) (backToKw p5 (keywordEach [] env)))) :
    FnOk P w K mg base (L2.CX P w) 1 f fd ("self" :: names) (spI C names) := by
  refine F.okX S (fun vs H Q E ⟨a, ws, e, hl, _⟩ => by rw [e]; simp [hl]) fun cdv A outer s H vs Q E hr ⟨a, ws, e, hl, ha, q0, q⟩ => ?_
  refine ⟨_, pssW, ?_⟩
  subst e
  rw [hb]
  have hst : L2.start ("self" :: names) (.ref a :: ws) = (V.ref a :: ws).map some := by
    unfold L2.start
    simp [hl]
  rw [hst]
  obtain ⟨X, hX⟩ : ∃ X, X = cxOf (L2.CX P w) P w K mg base ("self" :: names) qual (defScope st) f cdv A outer s H E := ⟨_, rfl⟩
  obtain ⟨pl, hpl⟩ := hc (cxOf (L2.CX P w) P w K mg base ("self" :: names) qual (defScope st) f cdv A outer s H E).env
  have W := pe_winit (X := cxOf (L2.CX P w) P w K mg base ("self" :: names) qual (defScope st) f cdv A outer s H E) (x := "WebError") (CW := CW) (p1 := p1) (p2 := p2) (pos := p5) (e := .Name "self" p3) (es := [.Constant (.str tx) kk p4]) hg hm rd ga vV
    (pa_cons (pe_var (i := 0) rfl (.inl (vis _ (by simp))) (by decide) (by decide)) (pa_cons pe_str pa_nil)) (by decide) hpl
  refine (pss_cons (ps_expr W) pssW).w ?_
  refine ⟨.ref a, rfl, a, C, [.str tx], rfl, (by show 1 ≤ 1000; decide), T, ha, ?_⟩
  refine stores_new T ha rfl (.inl (vis _ (by simp))) rfl St hl (fun p hp => ?_) hn (fun z => q0 z) (fun z dx h1 h2 => q z dx h1 h2)
  obtain ⟨f, y⟩ := p
  obtain ⟨i, hi, e⟩ := List.mem_iff_getElem.mp hp
  have hi1 : i < names.length := by simp at hi; omega
  have hi2 : i < ws.length := by simp at hi; omega
  simp at e
  obtain ⟨e1, e2⟩ := e
  subst e1 e2
  have mf := List.getElem_mem hi1
  refine ⟨⟨i + 1, ?_, ?_⟩, .inl (vis _ (by simp [mf])), (db _ mf).1, (db _ mf).2, no _ mf⟩
  · show (("self" : Str) :: names)[i + 1]? = _
    simp [hi1]
  · simp [hi2]

end DL

/-! D9: own exceptions over data: made, read, raised, asked by isinstance. -/
namespace DL
open PySem PySem.Spec PyProof.Rows L2

/-- what the text must say of an error's class -/
structure ErK (P : Program) (w : World) (K : PySem.W.Frag) (mg : Str → Option Value) (base : Heap) (C : Addr) (names : List Str) : Prop where
  T : OexC K C
  xf : XfC K C
  free : ∀ f ∈ names, PySem.W.findIn K (.ref C) f = some none
  few : names.length ≤ 900
  ini : ∃ fI fd, PySem.W.findIn K (.ref C) "__init__" = some (some (.ref fI)) ∧ PySem.W.typeIn K (.ref fI) = some (.type "function") ∧ FnOk P w K mg base (L2.CX P w) 1 fI fd ("self" :: names) (spI C names) ∧ Binds K fd ("self" :: names) [] ∧
    ∀ (s : Shared) (self : Value) (ws : List Value), ws.length = names.length → BindsTo s fd ⟨[self], names.reverse.zip ws⟩ ((("self" : Str) :: names).zip (self :: ws.reverse))

theorem Fts.zip {K : PySem.W.Frag} {as : List Addr} {G : Hp} : ∀ {fs : List Str} {vs : List V} {ds : List Dt}, Ats K as G vs ds → Fts K as G (fs.zip vs) (fs.zip ds)
  | [], _, _, _ => .nil
  | _ :: _, _, _, .nil => .nil
  | _ :: _, _, _, .cons a t => .cons a (Fts.zip t)
theorem Fts.append {K : PySem.W.Frag} {as : List Addr} {G : Hp} : ∀ {a b : List (Str × V)} {c d : List (Str × Dt)}, Fts K as G a c → Fts K as G b d → Fts K as G (a ++ b) (c ++ d)
  | _, _, _, _, .nil, r => r
  | _, _, _, _, .cons h t, r => .cons h (Fts.append t r)
theorem Fts.rev {K : PySem.W.Frag} {as : List Addr} {G : Hp} : ∀ {a : List (Str × V)} {c : List (Str × Dt)}, Fts K as G a c → Fts K as G a.reverse c.reverse
  | _, _, .nil => .nil
  | _, _, .cons (f := f) h t => by
    simp only [List.reverse_cons]
    exact Fts.append (Fts.rev t) (.cons h .nil)
/-- the fields of an error made of ds -/
def erF (names : List Str) (ds : List Dt) : List (Str × Dt) := (names.zip ds).reverse
section
variable {X : Cx} {J : JX} {e a b c : Expr} {es : List Expr} {ρ : Env'} {μ : Mu} {σ : L2.St} {H : Hp} {pos : Pos} {C : Addr} {names : List Str}
/-- C(..) runs, the arguments bound in whatever way -/
theorem run_mkE {pins : List (Addr × Obj)} {s : Shared} {as : List Addr} {G : Hp} {Q : Dt → Mu → Prop} {us zs : List Value} {kw : List (Str × Value)} {vs : List V} {ds : List Dt} (Er : ErK X.prog X.w X.K X.mg X.base C names) (hr : Room 2 X.A)
    (I : Inv X pins σ H s) (m : Mem X.K as G H μ) (av : Ats X.K as G vs ds) (r : Vals vs zs) (hl : vs.length = names.length) (few : us.length ≤ names.length)
    (hb : ∀ fd, Binds X.K fd ("self" :: names) [] → (∀ (s : Shared) (self : Value) (ws : List Value), ws.length = names.length → BindsTo s fd ⟨[self], names.reverse.zip ws⟩ ((("self" : Str) :: names).zip (self :: ws.reverse))) →
      ∀ (s : Shared) (self : Value), X.K.In s.heap → BindsTo s fd ⟨self :: us, kw⟩ ((("self" : Str) :: names).zip (self :: zs)))
    (q : Q (.exc C (erF names ds)) μ) : wpAny (model X.prog X.w) X.A (call (.ref C) us kw) (EP X pins σ (AfE X.K as G H Q)) X.xe s := by
  obtain ⟨fI, fd, iC, tI, F1, b1, b2⟩ := Er.ini
  obtain ⟨nm, qn, N, bs, bm, sn, sub, ab, col, dd, k0, k1, k2, k3, k5, hC, hbm⟩ := Er.T.cls
  obtain ⟨hp, g, dr, tk, os⟩ := s
  have hsz : hp.objs.size ≤ hp.objs.size + 1 := Nat.le_succ _
  have hn : H (hp.objs.size + 1) = none := I.hok.fresh hsz
  have kk : ∀ b o, hp.get? b = some o → ((hp.push (PySem.W.kdv_tup us)).push (PySem.HandSPX.excO C hp.objs.size)).get? b = some o := fun b o e => Heap.get?_push_of_some _ (Heap.get?_push_of_some _ e)
  have hget : ((hp.push (PySem.W.kdv_tup us)).push (PySem.HandSPX.excO C hp.objs.size)).get? (hp.objs.size + 1) = some (PySem.HandSPX.excO C hp.objs.size) := by heap_get
  generalize ea : hp.objs.size + 1 = a at *
  have I2 : Inv X pins σ (upd H a (exo a C none)) ⟨(hp.push (PySem.W.kdv_tup us)).push (PySem.HandSPX.excO C hp.objs.size), g, dr, tk, os⟩ :=
    I.laid (t' := tk) (o := exo a C none) (h' := (hp.push (PySem.W.kdv_tup us)).push (PySem.HandSPX.excO C hp.objs.size)) kk hsz (exo_ok hget)
  have r2 : Vals (V.ref a :: vs) (Value.ref a :: zs) := .cons rfl r
  have hus : us.length ≤ sizeLine := by
    have := Er.few
    rw [sizeLine_eq]
    omega
  have sp : spI C names (V.ref a :: vs) (upd H a (exo a C none)) (fun v H2 => v = .non ∧ AfE X.K as G H Q (.ref a) H2) (fun _ _ _ => False) := by
    refine ⟨a, vs, rfl, hl, upd_same, fun z => ⟨rfl, ?_⟩, fun z dx h1 h2 => ⟨rfl, ?_⟩⟩
    · subst z
      have : erF [] ds = [] := rfl
      rw [this] at q
      exact ⟨_, μ, as, _, .lay m hn, m.lay hn, .exc0 (by rw [upd_same]), q⟩
    · have h3 : H dx = none := by rw [upd_ne h2] at h1; exact h1
      have e1 : exH (upd H a (exo a C none)) a C dx (names.zip vs).reverse = upd (upd H dx (exd dx (names.zip vs).reverse)) a (exo a C (some dx)) := by
        funext b
        unfold exH
        by_cases hb : b = a
        · subst hb; rw [upd_same, upd_same]
        · rw [upd_ne hb, upd_ne hb]
          by_cases hd : b = dx
          · subst hd; rw [upd_same, upd_same]
          · rw [upd_ne hd, upd_ne hd, upd_ne hb]
      rw [e1]
      have hn2 : upd H dx (exd dx (names.zip vs).reverse) a = none := by rw [upd_ne (Ne.symm h2)]; exact hn
      have m1 := m.lay (o := exd dx (names.zip vs).reverse) h3
      have s1 := Step.lay (o := exd dx (names.zip vs).reverse) m h3
      have m2 := m1.lay (o := exo a C (some dx)) hn2
      have s2 := Step.lay (o := exo a C (some dx)) m1 hn2
      refine ⟨_, μ, as, _, s1.trans s2, m2, .exc (d := dx) (by rw [upd_same]) (by rw [upd_ne h2, upd_same]) ((Fts.zip av).rev.mono (s1.trans s2).gg (s1.trans s2).ix), q⟩
  refine wpAny_call (PySem.DLX.call_kw F.excBase_ValueError (fun Y => PySem.HandSPX.refsVE_contains Y bm hbm) (I.kIn _ _ hC) (PySem.W.looks_findIn I.kIn iC) (fun self => PySem.W.bind_fn I.kIn self tI) hus ?_)
  rw [ea]
  refine codeAny_mono (F1.run _ X.stack _ _ ⟨Value.ref a :: us, kw⟩ (Value.ref a :: zs) _ _ (fun _ _ _ => False) (hr.make C us kw) (I2.env0.make C us kw) (hb fd b1 b2 _ (Value.ref a) I2.kIn) r2 sp) fun r s' hq' => ?_
  cases r with
  | error er => exact passL pins σ _ _ er s' I2 hq'
  | ok fl =>
    cases fl with
    | ret u =>
      obtain ⟨v, H', I3, rv, ev, q3⟩ := I2.after hq'
      subst ev
      refine ⟨rv, ?_⟩
      refine ⟨V.ref a, H', ?_, rfl, q3⟩
      exact ⟨I3.ok, I3.os, I3.bare, I3.base, I3.loc, I3.cell, I3.free, I3.freeC, I3.pin, I3.hok, I3.len⟩
    | next => exact False.elim hq'
    | brk => exact False.elim hq'
    | cont => exact False.elim hq'
/-- C(e, ..) -/
theorem dE_mkE {x : Str} {p : Pos} {Q : Dt → Mu → Prop} (Er : ErK X.prog X.w X.K X.mg X.base C names) (hr : Room 2 X.A) (hm : X.mg x = some (.ref C)) (h : dA X J (e :: es) ρ μ fun ds μ1 => ds.length = names.length ∧ Q (.exc C (erF names ds)) μ1)
    (hg : Gl X x := by rfl) (hdb : (x == ("__debug__" : Str)) = false := by decide) (he : starEach (e :: es) X.env = (false, eval e X.env) :: starEach es X.env := by rfl) (hpl : (backTo pos (starEach es X.env)).any (·.1) = false := by rfl) :
    dE X J (.Call (.Name x p) (e :: es) [] pos) ρ μ Q := .mk fun as G H σ S pins s I => by
  refine wpAny_Call_Name_kw (ld_glob I hg hm ?_ hdb)
  refine PySem.W.callWith_K (h₀ := X.base) I.ok.mod.kin Er.T.kC (thn (h as G H σ S pos pins s I) fun us s1 ⟨vs, H1, I1, r, ds, μ1, as1, G1, t, m, av, hl, q⟩ => ⟨I1.kIn, ?_⟩) he hpl
  have e1 : vs.length = names.length := av.length.trans hl
  refine thn (run_mkE Er hr I1 m av r e1 (by rw [List.nil_append, ← r.length, e1]; exact Nat.le_refl _) (fun fd b1 _ s self ki => ?_) q) fun u s2 ⟨v, H2, I2, rv, q2⟩ => ⟨v, H2, I2, rv, q2.back t⟩
  have z := b1 s (self :: us) ki (by simp [← r.length, e1])
  rw [List.append_nil] at z
  exact z
/-- C() -/
theorem dE_mkE0 {x : Str} {p : Pos} {Q : Dt → Mu → Prop} (Er : ErK X.prog X.w X.K X.mg X.base C []) (hr : Room 2 X.A) (hm : X.mg x = some (.ref C)) (q : Q (.exc C []) μ)
    (hg : Gl X x := by rfl) (hdb : (x == ("__debug__" : Str)) = false := by decide) :
    dE X J (.Call (.Name x p) [] [] pos) ρ μ Q := .mk fun as G H σ S pins s I => by
  refine wpAny_Call_Name_kw (ld_glob I hg hm ?_ hdb)
  refine PySem.W.callWith_K0 I.kIn Er.T.kC ?_
  exact run_mkE Er hr I S.mem .nil .nil rfl (Nat.le_refl _) (fun fd b1 _ s self ki => b1 s [self] ki rfl) q
/-- C(k = e, ..): all by name, the last one first -/
structure dK (X : Cx) (J : JX) (kws : List Keyword) (ρ : Env') (μ : Mu) (Q : List Dt → Mu → Prop) : Prop where
  go : ∀ as G H σ, Sx X J as G H σ ρ μ → ∀ (pos : Pos) (pins : List (Addr × Obj)) (s : Shared), Inv X pins σ H s → wpAny (model X.prog X.w) X.A (evalAll ((backToKw pos (keywordEach kws X.env)).map (·.2))) (AP X pins σ (AfA X.K as G H Q)) X.xe s
instance {X : Cx} {J : JX} {kws : List Keyword} {ρ : Env'} {μ : Mu} {Q : List Dt → Mu → Prop} : CoeFun (dK X J kws ρ μ Q) (fun _ => ∀ as G H σ, Sx X J as G H σ ρ μ → ∀ (pos : Pos) (pins : List (Addr × Obj)) (s : Shared), Inv X pins σ H s → wpAny (model X.prog X.w) X.A (evalAll ((backToKw pos (keywordEach kws X.env)).map (·.2))) (AP X pins σ (AfA X.K as G H Q)) X.xe s) := ⟨dK.go⟩
theorem dK_nil {Q : List Dt → Mu → Prop} (q : Q [] μ) : dK X J [] ρ μ Q := .mk fun as G H σ S pos pins s I => wpAny_evalAll_nil ⟨[], H, I, .nil, [], μ, as, G, .refl _ _ _, S.mem, .nil, q⟩
theorem dK_cons {nm : Option Str} {kpos : Pos} {kws : List Keyword} {Q : List Dt → Mu → Prop} (h : dE X J e ρ μ fun d μ1 => dK X J kws ρ μ1 fun ds μ2 => Q (d :: ds) μ2) : dK X J (⟨nm, e, kpos⟩ :: kws) ρ μ Q := .mk fun as G H σ S pos pins s I => by
  show wpAny _ _ (evalAll ((do let v ← eval e X.env; standAt pos; pure v) :: (backToKw pos (keywordEach kws X.env)).map (·.2))) _ _ s
  refine wpAny_evalAll_cons (wpAny_bind (thn (h as G H σ S pins s I) fun u s1 ⟨x, H1, I1, r1, d, μ1, as1, G1, t1, m1, a1, q1⟩ => wpAny_bind (wpAny_standAt (wpAny_pure ?_))))
  exact thn (q1 as1 G1 H1 σ (S.step t1 m1) pos pins s1 I1) fun us s2 ⟨xs, H2, I2, r2, ds, μ2, as2, G2, t2, m2, a2, q2⟩ => ⟨x :: xs, H2, I2, .cons r1 r2, d :: ds, μ2, as2, G2, t1.trans t2, m2, .cons (a1.mono t2.gg t2.ix) a2, q2⟩
theorem Ats.rev {K : PySem.W.Frag} {as : List Addr} {G : Hp} : ∀ {vs : List V} {ds : List Dt}, Ats K as G vs ds → Ats K as G vs.reverse ds.reverse
  | _, _, .nil => .nil
  | _, _, .cons h t => by
    simp only [List.reverse_cons]
    exact Ats.append (Ats.rev t) (.cons h .nil)
theorem vals_rev : ∀ {vs : List V} {us : List Value}, Vals vs us → Vals vs.reverse us.reverse
  | _, _, .nil => .nil
  | _, _, .cons h t => by
    simp only [List.reverse_cons]
    exact Vals.append (vals_rev t) (.cons h .nil)
theorem dE_mkEk {x : Str} {p : Pos} {kws : List Keyword} {Q : Dt → Mu → Prop} (Er : ErK X.prog X.w X.K X.mg X.base C names) (hr : Room 2 X.A) (hm : X.mg x = some (.ref C)) (h : dK X J kws ρ μ fun ds μ1 => ds.length = names.length ∧ Q (.exc C (erF names ds.reverse)) μ1)
    (hks : (backToKw pos (keywordEach kws X.env)).filterMap (·.1) = names.reverse := by rfl) (hall : (backToKw pos (keywordEach kws X.env)).all (·.1.isSome) = true := by rfl)
    (hg : Gl X x := by rfl) (hdb : (x == ("__debug__" : Str)) = false := by decide)
    (hpl : ((backTo pos (starEach [] X.env)).any (·.1) || (backToKw pos (keywordEach kws X.env)).any (·.1.isNone)) = false := by rfl) :
    dE X J (.Call (.Name x p) [] kws pos) ρ μ Q := .mk fun as G H σ S pins s I => by
  refine wpAny_Call_Name_kw (ld_glob I hg hm ?_ hdb)
  refine PySem.W.callWith_KW0 (h₀ := X.base) I.ok.mod.kin Er.T.kC hall (thn (h as G H σ S pos pins s I) fun us s1 ⟨vs, H1, I1, r, ds, μ1, as1, G1, t, m, av, hl, q⟩ => ⟨I1.kIn, ?_⟩) hpl
  rw [hks]
  have e1 : vs.length = names.length := av.length.trans hl
  refine thn (run_mkE (us := []) (zs := us.reverse) (kw := names.reverse.zip us) Er hr I1 m av.rev (vals_rev r) (by simpa using e1) (Nat.zero_le _) (fun fd _ b2 s self ki => b2 s self us (by rw [← r.length, e1])) q) fun u s2 ⟨v, H2, I2, rv, q2⟩ => ⟨v, H2, I2, rv, q2.back t⟩
end
end DL

/-! D10: own exceptions over data: read, asked, raised; try with clauses. -/
namespace DL
open PySem PySem.Spec PyProof.Rows L2
section
variable {X : Cx} {J : JX} {e a b c : Expr} {es : List Expr} {ρ : Env'} {μ : Mu} {σ : L2.St} {H : Hp} {pos : Pos} {C : Addr} {names : List Str}
/-- e.f of an error held as a value -/
theorem dE_fldX {f : Str} {Q : Dt → Mu → Prop} (xf : XfC X.K C) (no : PySem.W.findIn X.K (.ref C) f = some none) (h : dE X J a ρ μ fun d μ1 => ∃ gs x, d = .exc C gs ∧ gs.lookup f = some x ∧ Q x μ1) (hb : attributeBase a f X.env (eval a X.env) = eval a X.env := by rfl) :
    dE X J (.Attribute a f pos) ρ μ Q := .mk fun as G H σ S pins s I => by
  refine attr_of hb (thn (h as G H σ S pins s I) fun u s1 ⟨v, H1, I1, r1, d, μ1, as1, G1, t1, m1, a1, gs, x, e1, e2, q⟩ => ?_)
  subst e1
  cases a1 with
  | exc0 h1 => simp at e2
  | exc h1 h2 h3 =>
    rename_i p dx fs
    obtain rfl : u = Value.ref p := r1
    obtain ⟨w, l, aw⟩ := h3.look e2
    obtain ⟨t0, ho⟩ := exo_at I1.hok (m1.same _ _ h1)
    obtain ⟨mA, hns, rel⟩ := exd_at I1.hok (m1.same _ _ h2)
    obtain ⟨od, hd, hl⟩ := lookIn_ns hns
    obtain ⟨z, hz, rz⟩ := RelO.some_of (v := w) (o := mA f) (by rw [← l]; exact rel f)
    exact HandSPX.exc_get I1.kIn ⟨ho, rfl, rfl, hd⟩ xf.ga xf.gg xf.exC (PySem.W.findObj_own xf.hdC no rfl (by rw [hl, hz])) (handed_of rz) ⟨w, H1, I1.tok _, rz, x, μ1, as1, G1, t1, m1, aw, q⟩

/-! ### isinstance -/
/-- a built-in type's name as a value -/
theorem dE_bty {x : Str} {p : Pos} {T : String} {Q : Dt → Mu → Prop} (hm : X.mg x = none) (q : Q (.val (.ty T)) μ) (hv : bootBuiltins x = some (.type T) := by decide +kernel) (hg : Gl X x := by rfl) (hn : x ≠ "__name__" := by decide) (hdb : (x == ("__debug__" : Str)) = false := by decide) :
    dE X J (.Name x p) ρ μ Q := .mk fun as G H σ S pins s I => ld_blt I hg hm hv ⟨.ty T, H, I, rfl, AfE.now S.mem (.val _) q⟩ hn hdb
/-- the type of data -/
inductive TyM (K : PySem.W.Frag) (μ : Mu) : Dt → Value → Prop
  | non : TyM K μ .non (.type "NoneType")
  | bl (b : Bool) : TyM K μ (.bl b) (.type "bool")
  | int (i : Int) : TyM K μ (.int i) (.type "int")
  | str (x : Str) : TyM K μ (.str x) (.type "str")
  | lst (xs : List Dt) : TyM K μ (.lst xs) (.type "list")
  | tup (xs : List Dt) : TyM K μ (.tup xs) (.type "tuple")
  | dic (es : List (Key × Dt)) : TyM K μ (.dic es) (.type "dict")
  | mlst {k : Nat} {xs : List Dt} (h : μ[k]? = some (.lst xs)) : TyM K μ (.mut k) (.type "list")
  | mdic {k : Nat} {es : List (Key × Dt)} (h : μ[k]? = some (.dic es)) : TyM K μ (.mut k) (.type "dict")
  | obj {C : Addr} {gs : List (Str × Dt)} (cl : Cls K C) (ha : PySem.W.findIn K (.ref C) "__class__" = some (some (.builtin "object.__class__")))
      (hn : PySem.W.specialIn K (.builtin "object.__class__") "__get__" = some (some (.builtin "getset_descriptor.__get__"))) (htk : PySem.W.takesIn K (.builtin "object.__class__") = some true)
      (hm : PySem.W.mroIn K C (.type "object") = some true) : TyM K μ (.obj C gs) (.ref C)
  | exc {C : Addr} {gs : List (Str × Dt)} (x : ExcC K C) : TyM K μ (.exc C gs) (.ref C)
theorem tyX_of {K : PySem.W.Frag} {as : List Addr} {G : Hp} {v : V} {d : Dt} {t : Value} (m : Mem K as G H μ) (a : At K as G v d) (ty : TyM K μ d t) : TyX K H v t ∨ ∃ (p C : Addr) (dx : Option Addr), v = .ref p ∧ t = .ref C ∧ ExcC K C ∧ H p = some (exo p C dx) ∧ ∀ y, dx = some y → ∃ fs, H y = some (exd y fs) := by
  cases ty with
  | non => cases a; exact .inl (.base .non)
  | bl b => cases a; exact .inl (.base (.bl b))
  | int b => cases a; exact .inl (.base (.int b))
  | str b => cases a; exact .inl (.base (.str b))
  | lst xs =>
    cases a with
    | lst h1 h2 =>
      rcases h1 with (h1 | ⟨o, h1⟩) | ⟨o, its, n, h1, h3, _⟩
      · exact .inl (.base (.lst (m.same _ _ h1)))
      · exact .inl (.base (.frz (m.same _ _ h1)))
      · exact .inl (.kList h1 h3)
  | tup xs =>
    cases a with
    | tup h1 h2 =>
      rcases h1 with (h1 | ⟨o, h1⟩) | ⟨o, its, n, h1, h3, _⟩
      · exact .inl (.base (.tup (m.same _ _ h1)))
      · exact .inl (.fTuple (m.same _ _ h1))
      · exact .inl (.kTuple h1 h3)
  | dic es => cases a with | dic h1 h2 => exact .inl (.base (.dK (m.same _ _ h1)))
  | mlst h =>
    cases a with
    | «mut» hk =>
      obtain ⟨p, o, e1, e2, ⟨xs, e3, _⟩, _⟩ := m.cell _ _ h (by simp)
      rw [hk] at e1; cases e1
      exact .inl (.base (.lst (by rw [e2, e3])))
  | mdic h =>
    cases a with
    | «mut» hk =>
      obtain ⟨p, o, e1, e2, ⟨xs, e3, _⟩, _⟩ := m.cell _ _ h (by simp)
      rw [hk] at e1; cases e1
      exact .inl (.base (.dK (by rw [e2, e3])))
  | obj cl ha hn htk hm => cases a with | obj h1 h2 => exact .inl (.base (.ins (m.same _ _ h1) cl ha hn htk hm))
  | exc x =>
    cases a with
    | exc h1 h2 h3 => exact .inr ⟨_, _, _, rfl, rfl, x, m.same _ _ h1, fun y e => by cases e; exact ⟨_, m.same _ _ h2⟩⟩
    | exc0 h1 => exact .inr ⟨_, _, _, rfl, rfl, x, m.same _ _ h1, fun y e => by cases e⟩
def rIsX (K : PySem.W.Frag) : List V → Hp → VK → Prop := fun xs H Q => rIsi K xs H Q ∨ ∃ (p C : Addr) (dx : Option Addr) (c : V) (u : Value) (r : Bool), xs = [.ref p, c] ∧ ClsV c u ∧ ExcC K C ∧ H p = some (exo p C dx) ∧ (∀ y, dx = some y → ∃ fs, H y = some (exd y fs)) ∧ PySem.W.kitOne K (.ref C) u = some r ∧ Q (.bl r) H
theorem call_isX : CallR X (.builtin "isinstance") (rIsX X.K) := by
  intro pins s σ H xs us Q I r h
  rcases h with h | ⟨p, C, dx, c, u, b, rfl, k, x, hp, hd, e, q⟩
  · exact call_isi pins s σ H xs us Q I r h
  · obtain ⟨u1, u2, rfl, r1, r2⟩ := vals2 r
    have e2 := k.eq r2
    subst e2
    obtain rfl : u1 = Value.ref p := r1
    obtain ⟨t0, ho⟩ := exo_at I.hok hp
    have cl : (PySem.W.clsIn X.K C).isSome = true := by
      obtain ⟨cd, hc, _⟩ := PySem.W.any_some x.hd
      rw [hc]; rfl
    have Z : ∀ ox od, PySem.W.KitX X.K (.ref p) (.ref C) (fun h => PySem.W.InstAt h p ox C od) := fun ox od => PySem.W.kitx_exc cl x.hg x.hk x.hs x.ha x.hn x.ht x.hm
    cases dx with
    | none => exact PySem.W.kia_one (Z _ none) I.kIn ⟨ho, rfl, rfl, trivial⟩ e (fun z => nomatch z) fun tk => ⟨.bl b, H, I.tok tk, rfl, q⟩
    | some y =>
      obtain ⟨fs, hy⟩ := hd y rfl
      obtain ⟨mA, hns, rel⟩ := exd_at I.hok hy
      obtain ⟨od, hod, _⟩ := lookIn_ns hns
      exact PySem.W.kia_one (Z _ (some od)) I.kIn ⟨ho, rfl, rfl, hod⟩ e (fun z => nomatch z) fun tk => ⟨.bl b, H, I.tok tk, rfl, q⟩
theorem cd_isi : CallD X (.builtin "isinstance") (fun ds μ Q => ∃ d c t u r, ds = [d, .val c] ∧ ClsV c u ∧ TyM X.K μ d t ∧ PySem.W.kitOne X.K t u = some r ∧ Q (.bl r) μ) := by
  refine ⟨⟨_, call_isX, fun as G H μ xs ds Q Q' m a ⟨d, c, t, u, r, e, k, ty, ki, q⟩ f => ?_⟩⟩
  subst e
  obtain ⟨x, y, rfl, a1, a2⟩ := a.two
  cases a2
  rcases tyX_of m a1 ty with z | ⟨p, C, dx, rfl, rfl, xc, hp, hd⟩
  · exact .inl ⟨x, c, t, u, r, rfl, k, z, ki, f _ _ (.now m (.bl _) q)⟩
  · exact .inr ⟨p, C, dx, c, u, r, rfl, k, xc, hp, hd, ki, f _ _ (.now m (.bl _) q)⟩

/-! ### raise -/
theorem dS_raiseE {x : Str} {p : Pos} {D : DEnds} (hc : X.calm = true) (Er : ErK X.prog X.w X.K X.mg X.base C names) (hr : Room 2 X.A) (hm : X.mg x = some (.ref C)) (hne : names ≠ [])
    (h : dA X J (e :: es) ρ μ fun ds μ1 => ds.length = names.length ∧ J C (erF names ds) μ1) {rpos : Pos}
    (hg : Gl X x := by rfl) (hdb : (x == ("__debug__" : Str)) = false := by decide) (he : starEach (e :: es) X.env = (false, eval e X.env) :: starEach es X.env := by rfl) (hpl : (backTo pos (starEach es X.env)).any (·.1) = false := by rfl) :
    dS X J (.Raise (some (.Call (.Name x p) (e :: es) [] pos)) none rpos) ρ μ D := .mk fun as G H σ S => by
  obtain ⟨fI, fd, iC, tI, F1, b1, _⟩ := Er.ini
  refine (ps_raise hc S.tk (pmk_oex Er.T iC tI F1 hr b1 .nil passL hg hm paW hdb he hpl)).w ?_
  refine wA_mono (h as G H σ S) fun vs H1 ⟨ds, μ1, as1, G1, t1, m1, av, hl, q⟩ => ?_
  have e1 : vs.length = names.length := av.length.trans hl
  refine ⟨by have := Er.few; omega, fun a ha => ⟨a, vs, by rw [List.append_nil], e1, upd_same, fun z => absurd z hne, fun _ dx h1 h2 => ⟨rfl, dx, (names.zip vs).reverse, exH_a, exH_d h2, ?_, ?_⟩⟩⟩
  · rw [upd_ne h2] at h1; exact h1
  · have h3 : H1 dx = none := by rw [upd_ne h2] at h1; exact h1
    have e2 : upd (del (exH (upd H1 a (exo a C none)) a C dx (names.zip vs).reverse) a) dx (.xd (names.zip vs).reverse) = upd H1 dx (.xd (names.zip vs).reverse) := by
      funext b
      by_cases hb : b = dx
      · subst hb; rw [upd_same, upd_same]
      · rw [upd_ne hb, upd_ne hb]
        by_cases hba : b = a
        · subst hba; rw [del_same, ha]
        · rw [del_ne hba]
          unfold exH
          rw [upd_ne hba, upd_ne hb, upd_ne hba]
    rw [e2]
    have t2 := Step.lay (o := .xd (names.zip vs).reverse) m1 h3
    exact ⟨C, as1, _, μ1, erF names ds, rfl, t1.trans t2, m1.lay h3, .inr ⟨dx, _, rfl, upd_same, (Fts.zip av).rev.mono t2.gg t2.ix⟩, q⟩
end
end DL

/-! D11: try over data: clauses with and without a name. -/
namespace DL
open PySem PySem.Spec PyProof.Rows L2

/-- the caught exception as a slot's data -/
def cauD (a : Addr) (d : Option Addr) (gs : List (Str × Dt)) : Dt := match d with
  | some dd => .cau a dd gs
  | none => .val (.ref a)
def nones (n : Nat) : Env' := List.replicate n none
theorem Slots.nones {K : PySem.W.Frag} {as : List Addr} {G : Hp} {σ : L2.St} {n : Nat} (h : σ.length = n) : Slots K as G σ (nones n) :=
  ⟨by simp [DL.nones, h], fun i d e => by
    unfold DL.nones at e
    rw [List.getElem?_replicate] at e
    split at e <;> cases e⟩
/-- what the clauses make of an exception -/
def ClsD (X : Cx) (J : JX) (D : DEnds) : List ExceptHandler → JX
  | [] => J
  | h :: r => fun C gs μ' => ∃ (x : Str) (np : Pos) (nm : Option Str) (b0 : Stmt) (suite : List Stmt) (hp : Pos) (c : Value) (k : Bool), h = .ExceptHandler (some (.Name x np)) nm (b0 :: suite) hp ∧ Names X x c ∧ PySem.W.exmOne X.K (.ref C) c = some k ∧
      (k = false → ClsD X J D r C gs μ') ∧ (k = true → ∀ (a : Addr) (oe : Obj) (d : Option Addr) (pn : List (Addr × Obj)), Zc (.ref C) d oe → (∃ vs, oe.data = .fields vs) → (gs ≠ [] → d.isSome = true) →
        match nm with
        | none => dSs (X.suite a ((a, oe) :: pn)) J0 (b0 :: suite) (nones X.N.length) μ' D
        | some n => ∃ i, X.N[i]? = some n ∧ X.env.kindOf n = some .local ∧ dSs (X.suite a ((a, oe) :: pn)) J0 (b0 :: suite) ((nones X.N.length).set i (some (cauD a d gs))) μ'
            { nx := fun ρ' => D.nx (ρ'.set i none), rt := D.rt, bk := fun ρ' => D.bk (ρ'.set i none), ct := fun ρ' => D.ct (ρ'.set i none) })
section
variable {X : Cx} {J : JX} {ρ : Env'} {μ : Mu} {σ : L2.St} {H : Hp} {D : DEnds} {as : List Addr} {G : Hp} {pins : List (Addr × Obj)}
theorem clauses_ok (ok : X.Ok) (hN : X.N.Nodup) (tk : TakesD X J as G H) {B : Heap} {a : Addr} {C : Addr} {d : Option Addr} {gs : List (Str × Dt)} {σ1 : L2.St} {H1 : Hp} {sI sL : Shared} {as1 : List Addr} {G1 : Hp} {μ1 : Mu}
    (hs : X.stack = X.env :: X.outer) (hf : X.env.frame = some X.env.locals) (I0 : Inv X pins σ1 H1 sI) (nb : ∀ b o, sI.heap.get? b = some o → b ∉ frs X.stack → B.get? b = some o) (up : sI.heap.UpToSlots sL.heap) (os : sL.os = sI.os) (ag : AllBare sL.gens)
    (fly : HandSPX.FlyingZ B (X.env :: X.outer) a (Zc (.ref C) d) sL.heap) (na : H1 a = none) (t1 : Step as G H as1 G1 H1) (m1 : Mem X.K as1 G1 H1 μ1) (fz : (d = none ∧ gs = []) ∨ ∃ (dd : Addr) (fs : List (Str × V)), d = some dd ∧ G1 dd = some (.xd fs) ∧ Fts X.K as1 G1 fs gs) :
    ∀ {hds : List ExceptHandler}, ClsD X J D hds C gs μ1 → wpAny (model X.prog X.w) X.A (handleBy (.ref a) X.env hds) (SP X pins (EndsOf X.K as G H D)) X.xe sL := by
  obtain ⟨oeL, vsL, atL, zL, dL⟩ := fly.there
  have nofr : a ∉ frs (X.env :: X.outer) := fun hm => by
    obtain ⟨_, o2, e2, nf⟩ := fly.2.2.1.mem hm
    rw [atL] at e2
    cases e2
    exact nf _ dL
  have neL : a ≠ X.env.locals := fun z => nofr (List.mem_filterMap.mpr ⟨X.env, List.mem_cons_self, by rw [hf, z]⟩)
  have neF : a ∉ X.fs := fun hm => by
    obtain ⟨e, e1, e2⟩ := List.mem_filterMap.mp hm
    exact nofr (List.mem_filterMap.mpr ⟨e, List.mem_cons_of_mem _ e1, e2⟩)
  have IL : Inv X pins σ1 H1 sL := I0.landed nb fly.1 up os ag
  have SL := IL.suite atL dL na neL neF
  intro hds
  induction hds with
  | nil =>
    intro w
    refine wpAny_handleBy_nil ?_
    obtain ⟨_, _, _, oe, vs, T, oT, ts, e1, z1, d1, f1, rt⟩ := id fly
    unfold PySem.passOn
    refine wpAny_bind (wpAny_field e1 d1 f1 ?_)
    rw [if_neg (show ¬ ((Value.ref T == Value.none) = true) from by simp)]
    have last : wpAny (model X.prog X.w) X.A (setFlight (.ref a) X.env.frame) (fun _ s4 => wpAny (model X.prog X.w) X.A (throw (.ref a) : Sem Flow) (SP X pins (EndsOf X.K as G H D)) X.xe s4) X.xe sL := by
      rw [hf]
      refine HandSPX.setFlight_upZ fly fun h4 held u4 => wpAny_throw (tk _ _ ?_)
      exact ⟨a, B, sI, pins, σ1, H1, .ref C, d, rfl, I0, nb, up.trans u4, .inr (.inr (by rw [hs]; exact held)), na, os, ag, C, as1, G1, μ1, gs, rfl, t1, m1, fz, w⟩
    first
      | exact wpAny_bind (wpAny_pure (wpAny_bind last))
      | exact wpAny_bind last
  | cons h r ih =>
    intro w
    obtain ⟨x, np, nm, b0, suite, hp, c, k, rfl, hc, hk, no, yes⟩ := w
    refine wpAny_handleBy_cons (codeAny_handlers_test ?_) (by intro q; cases q)
    have ty : PySem.W.Looks (model X.prog X.w) sL.heap (typeOf (.ref a)) (.ref C) := fun A Q E s k q => wpAny_typeOf_ref (k _ _ atL) (by rw [zL.1]; exact q)
    have lk := PySem.W.exm_one (M := model X.prog X.w) SL.kIn ty hk
    have read : ∀ {Q : Value → Shared → Prop} {E : Value → Shared → Prop}, Q c sL → wpAny (model X.prog X.w) (X.A.mark (some (.ref a))) (eval (.Name x np) X.env) Q E sL := fun {Q E} q => by
      obtain ⟨g, db, hm | ⟨hm, hv, hnn⟩⟩ := hc
      · exact ld_glob (X := X.suite a ((a, oeL) :: (X.pn ++ pins))) SL g hm q db
      · exact ld_blt (X := X.suite a ((a, oeL) :: (X.pn ++ pins))) SL g hm hv q hnn db
    refine read (lk.here ?_)
    cases k with
    | false =>
      show wpAny _ X.A (handleBy (.ref a) X.env r) _ _ _
      exact ih (no rfl)
    | true =>
      have Y := yes rfl
      have dz : gs ≠ [] → d.isSome = true := fun h => by
        rcases fz with ⟨_, e⟩ | ⟨dd, fs, e, _⟩
        · exact absurd e h
        · rw [e]; rfl
      cases nm with
      | none =>
        refine codeAny_handlers_suite ?_
        refine HandSPX.lands_againZ fly fun h4 fl4 u4 => ?_
        have I4 : Inv X pins σ1 H1 { sL with heap := h4 } := I0.landed nb fl4.1 (up.trans u4) os ag
        obtain ⟨oe4, vs4, at4, z4, d4⟩ := fl4.there
        have S4 := I4.suite at4 d4 na neL neF
        refine wpAny_mono (Y a oe4 d (X.pn ++ pins) z4 ⟨_, d4⟩ dz as1 G1 H1 σ1 ⟨m1, .nones I4.len, .none⟩ [] _ S4) (fun f s6 hsp => ?_) (fun _ _ z => False.elim z)
        have hsp2 := SP.mono (EndsOf.back D t1) hsp
        cases f with
        | next => obtain ⟨σ6, H6, S6, q6⟩ := hsp2; exact ⟨_, _, S6.unsuite ok, q6⟩
        | brk => obtain ⟨σ6, H6, S6, q6⟩ := hsp2; exact ⟨_, _, S6.unsuite ok, q6⟩
        | cont => obtain ⟨σ6, H6, S6, q6⟩ := hsp2; exact ⟨_, _, S6.unsuite ok, q6⟩
        | ret u => obtain ⟨v6, σ6, H6, S6, r6, q6⟩ := hsp2; exact ⟨_, _, _, S6.unsuite ok, r6, q6⟩
      | some n =>
        refine codeAny_handlers_suite_as ?_
        refine HandSPX.lands_againZ fly fun h4 fl4 u4 => ?_
        have I4 : Inv X pins σ1 H1 { sL with heap := h4 } := I0.landed nb fl4.1 (up.trans u4) os ag
        obtain ⟨oe4, vs4, at4, z4, d4⟩ := fl4.there
        have S4 := I4.suite at4 d4 na neL neF
        obtain ⟨i, hi, hln, Y⟩ := Y a oe4 d (X.pn ++ pins) z4 ⟨_, d4⟩ dz
        refine store_ok (X := X.suite a ((a, oe4) :: (X.pn ++ pins))) (v := .ref a) S4 hN hi (.inl hln) rfl (fun s5 S5 => ?_) (.inr hln)
        have ad : At X.K as1 G1 (.ref a) (cauD a d gs) := by
          rcases fz with ⟨rfl, rfl⟩ | ⟨dd, fs, rfl, e2, e3⟩
          · exact .val _
          · exact .cau e2 e3
        refine wpAny_mono (Y as1 G1 H1 _ ⟨m1, (Slots.nones I4.len).set i ad, .none⟩ [] s5 S5) (fun f s6 hsp => ?_) (fun _ _ z => False.elim z)
        have wipe : ∀ {σ6 : L2.St} {H6 : Hp} {Q : Shared → Prop}, Inv (X.suite a ((a, oe4) :: (X.pn ++ pins))) [] σ6 H6 s6 → (∀ s7, Inv X pins (σ6.set i none) H6 s7 → Q s7) →
            wpAny (model X.prog X.w) X.A (do bindName X.env n .none; unbindBehindTheSuite X.env n hp) (fun _ s7 => Q s7) X.xe s6 := fun {σ6 H6 Q} S6 hq => gone_ok (S6.unsuite ok) hN hi hln hq
        have back : ∀ {Q : Env' → Mu → Prop} {σ6 : L2.St} {H6 : Hp}, AfS X.K as1 G1 H1 (fun ρ' => Q (ρ'.set i none)) σ6 H6 → AfS X.K as G H Q (σ6.set i none) H6 := fun {Q σ6 H6} ⟨ρ6, μ6, as6, G6, t6, m6, s6, q6⟩ => ⟨_, μ6, as6, G6, t1.trans t6, m6, s6.unset i, q6⟩
        cases f with
        | next => obtain ⟨σ6, H6, S6, q6⟩ := hsp; exact wipe S6 fun s7 J7 => ⟨_, _, J7, back q6⟩
        | brk => obtain ⟨σ6, H6, S6, q6⟩ := hsp; exact wipe S6 fun s7 J7 => ⟨_, _, J7, back q6⟩
        | cont => obtain ⟨σ6, H6, S6, q6⟩ := hsp; exact wipe S6 fun s7 J7 => ⟨_, _, J7, back q6⟩
        | ret u => obtain ⟨v6, σ6, H6, S6, r6, q6⟩ := hsp; exact wipe S6 fun s7 J7 => ⟨_, _, _, J7, r6, AfE.back t1 q6⟩
/-- try: body / except .. -/
theorem dS_try {body : List Stmt} {h0 : ExceptHandler} {hds : List ExceptHandler} {pos : Pos} (hN : X.N.Nodup) (hs : X.stack = X.env :: X.outer) (hf : X.env.frame = some X.env.locals)
    (hb : ∀ (pn : List (Addr × Obj)) (xe : Value → Shared → Prop), PassesOwn (model X.prog X.w) X.A X.env xe → dSs (X.tr pn xe) (ClsD X J D (h0 :: hds)) body ρ μ D) : dS X J (.Try body (h0 :: hds) [] [] pos) ρ μ D := .mk fun as G H σ S pins s I => by
  have ok := I.ok
  have hfr : X.A.frames = some (X.env :: X.outer) := by rw [ok.frames, hs]
  refine wpAny_Try_except ?_
  have Bd := hb (X.pn ++ pins) (fun e s₁ => wpAny (model X.prog X.w) X.A (noteFrame e X.env) (fun _ s₂ => wpAny (model X.prog X.w) X.A (setFlight e none) (fun _ s₃ =>
    wpAny (model X.prog X.w) X.A (handleBy e X.env (h0 :: hds)) (SP X pins (EndsOf X.K as G H D)) X.xe s₃) X.xe s₂) X.xe s₁) PassesOwn.looking
  refine wpAny_mono (Bd as G H σ ⟨S.mem, S.sl, fun u s' air => ?_⟩ [] s (I.toTry _)) (fun f s1 hsp => ?_) (fun e s1 he => he)
  · obtain ⟨a, B, sI, pins', σ1, H1, cls, d, rfl, J', nb, up, sky, na, os, ag, C, as1, G1, μ1, gs, rfl, t1, m1, fz, w⟩ := air
    have I0 : Inv X pins σ1 H1 sI := J'.ofTry ok
    have sky2 : Sky B (X.env :: X.outer) a (Zc (.ref C) d) X.env.locals s'.heap := by rw [← hs]; exact sky
    show wpAny (model X.prog X.w) X.A (noteFrame (.ref a) X.env) _ _ _
    exact Sky.land Zc.steady hfr hf sky2 fun h3 fl3 up3 => clauses_ok (sL := { s' with heap := h3 }) ok hN S.tk hs hf I0 nb (up.trans up3) os ag fl3 na t1 m1 fz w
  · cases f with
    | next => obtain ⟨σ1, H1, J1, q⟩ := hsp; exact wpAny_execs_nil ⟨_, _, J1.ofTry ok, q⟩
    | brk => obtain ⟨σ1, H1, J1, q⟩ := hsp; exact ⟨_, _, J1.ofTry ok, q⟩
    | cont => obtain ⟨σ1, H1, J1, q⟩ := hsp; exact ⟨_, _, J1.ofTry ok, q⟩
    | ret u => obtain ⟨v, σ1, H1, J1, r, q⟩ := hsp; exact ⟨_, _, _, J1.ofTry ok, r, q⟩
/-- n.f in a suite, n the caught exception -/
theorem dE_fldC {e : Expr} {f : Str} {pos : Pos} {Q : Dt → Mu → Prop} {a C : Addr} {oe : Obj} {d : Option Addr} {pn : List (Addr × Obj)} (xf : XfC X.K C) (no : PySem.W.findIn X.K (.ref C) f = some none) (hz : Zc (.ref C) d oe) (hd : ∃ vs, oe.data = .fields vs)
    (h : dE (X.suite a ((a, oe) :: pn)) J e ρ μ fun y μ1 => ∃ gs x, y = cauD a d gs ∧ gs.lookup f = some x ∧ d.isSome = true ∧ Q x μ1) (hb : attributeBase e f X.env (eval e X.env) = eval e X.env := by rfl) :
    dE (X.suite a ((a, oe) :: pn)) J (.Attribute e f pos) ρ μ Q := .mk fun as G H σ S => by
  refine (pe_xf (cls := .ref C) (d := d) xf no hz hd peW hb).w ?_
  refine wE_mono (h as G H σ S) fun v H1 ⟨y, μ1, as1, G1, t1, m1, a1, gs, x, e1, e2, e3, q⟩ => ?_
  cases d with
  | none => cases e3
  | some dd =>
    subst e1
    cases a1 with
    | cau h1 h2 =>
      obtain ⟨w, l, aw⟩ := h2.look e2
      exact ⟨rfl, rfl, dd, _, w, rfl, m1.same _ _ h1, l, x, μ1, as1, G1, t1, m1, aw, q⟩
end
end DL

/-! D12: the head of a law over data. -/
namespace DL
open PySem PySem.Spec PyProof.Rows L2

theorem ats_ints {K : PySem.W.Frag} {as : List Addr} {G : Hp} : ∀ ns : List Int, Ats K as G (ns.map V.int) (ns.map Dt.int)
  | [] => .nil
  | n :: r => .cons (.int n) (ats_ints r)
/-- the heap that knows the script alone -/
def oneH (a : Addr) (u : HO) : Hp := fun b => if b = a then some u else none
theorem run_law {P : Program} {w : World} {K : PySem.W.Frag} {mg mb : Str → Option Value} {k : Nat} {fa a : Addr} {fd : FuncData} {x : Str} {R : Spc} {s₁ : Shared} {vs : List Value} {ns : List Int}
    (KX : K.In s₁.heap) (gl : s₁.heap.Ns mainGlobals mg) (bl : s₁.heap.Ns builtinsNs mb) (bb : ∀ x : Str, x ≠ "__name__" → mb x = bootBuiltins x) (lim : s₁.heap.NoLimit) (gens : s₁.gens = #[])
    (at_ : s₁.heap.get? a = some { cls := .type "list", data := .seq vs.toArray }) (isInts : IntsAre vs ns) (few : ns.length ≤ sizeLine) (room : Room k callerA)
    (F : ∀ base : Heap, K.In base → base.Ns mainGlobals mg → FnG P w K mg base k fa fd [x] R) (bind : ∀ (s : Shared) (u : Value), BindsTo s fd ⟨[u], []⟩ [(x, u)])
    (hR : R [.lst (ns.map .int)] [] (fun d _ => d = .bl true) J0) :
    codeAny (model P w) callerA (.call (.ref fa) ⟨[.ref a], []⟩) (fun r s' => r = .ok (.ret (.bool true)) ∧ OldK s₁.heap s'.heap ∧ s'.os = s₁.os ∧ AllBare s'.gens) s₁ := by
  have rv := vals_ints isInts
  have go : ∀ H : Hp, (∀ b u, H b = some u → b = a ∧ K.lookup a = none ∧ ∃ o xs, u = .frz o (.lst xs)) → SqL K H a (ns.map V.int) → HOk P w H s₁.heap →
      codeAny (model P w) callerA (.call (.ref fa) ⟨[.ref a], []⟩) (fun r s' => r = .ok (.ret (.bool true)) ∧ OldK s₁.heap s'.heap ∧ s'.os = s₁.os ∧ AllBare s'.gens) s₁ := by
    intro H only sq hok
    have free : ∀ {b : Addr} {o : Obj}, s₁.heap.get? b = some o → (b ≠ a ∨ K.lookup a ≠ none) → H b = none := fun {b o} e h => by
      cases q : H b with
      | none => rfl
      | some u =>
        obtain ⟨e1, e2, _⟩ := only b u q
        rcases h with h | h
        · exact absurd e1 h
        · exact absurd e2 h
    have ns_ : ∀ {b : Addr} {m : Str → Option Value}, s₁.heap.Ns b m → (hidT s₁.heap H).Ns b m := fun {b m} ⟨o, es, ep, e, d, r⟩ => ⟨o, es, ep, hidT_get e (free e (.inl fun z => by
      rw [z, at_] at e
      cases e
      cases d)), d, r⟩
    have kin : K.In (hidT s₁.heap H) := fun b o e => hidT_get (KX b o e) (free (KX b o e) (by
      by_cases hb : b = a
      · exact .inr fun z => by rw [hb, z] at e; cases e
      · exact .inl hb))
    have md : Mod K mg (hidT s₁.heap H) := ⟨kin, ns_ gl, ⟨mb, ns_ bl, bb⟩, let ⟨mc, h1, h2⟩ := lim; ⟨mc, ns_ h1, h2⟩⟩
    have e0 : Env0 P w K mg (hidT s₁.heap H) callerA [] s₁ H := ⟨rfl, md, fun b o e => of_hidT e, Nat.le_of_eq (hidT_size _ _), trivial, fun b hb => absurd (show b ∈ ([] : List Addr) from hb) (by simp), hok, .of_eq gens⟩
    have sp : spD K R [.ref a] H (fun v _ => v = .bl true) (fun _ _ _ => False) := by
      refine ⟨[], H, [.lst (ns.map .int)], [], _, _, ⟨Same.refl _, rfl, fun k m h => by simp at h, List.nodup_nil, fun a h => by simp at h⟩, .cons (.lst sq (ats_ints ns)) .nil, hR, ?_, ?_⟩
      · rintro v H' ⟨d, μ', as', G', t, m', a', q⟩
        subst q
        cases a'
        rfl
      · rintro cls d H' ⟨_, _, _, _, _, _, _, _, _, j⟩
        exact j.elim
    refine codeAny_mono ((F _ kin (ns_ gl)).run callerA [] s₁ H ⟨[.ref a], []⟩ [.ref a] [.ref a] _ _ room rfl e0 (bind s₁ (.ref a)) (.cons rfl .nil) sp) fun r s' h => ?_
    cases r with
    | error e =>
      obtain ⟨_, _, _, _, _, _, _, _, _, _, _, _, z⟩ := h
      exact z.elim
    | ok fl =>
      cases fl with
      | next => exact False.elim h
      | brk => exact False.elim h
      | cont => exact False.elim h
      | ret u =>
        obtain ⟨v, H', os, bare, un, hok', r', q⟩ := h
        have q' : v = .bl true := q
        subst q'
        obtain rfl : u = Value.bool true := r'
        refine ⟨rfl, OldK.of_keep fun b o e => ?_, os, bare⟩
        cases z : H b with
        | none => exact un.keep b o e z (fun y => absurd (show b ∈ ([] : List Addr) from y) (by simp)) (by simp)
        | some u =>
          obtain ⟨_, _, ob, xs, rfl⟩ := only b u z
          obtain ⟨e1, _⟩ := hok b _ z
          obtain ⟨e2, _⟩ := hok' b _ (un.frzs b ob _ z)
          rw [e] at e1
          cases e1
          exact e2
  cases hk : K.lookup a with
  | some o =>
    have e := KX a o hk
    rw [at_] at e
    cases e
    exact go (fun _ => none) (fun b u z => by cases z) (.inr ⟨_, vs.toArray, _, hk, rfl, rfl, rfl, by rw [List.size_toArray, isInts.length]; exact few, by simpa using rv⟩) (fun b u z => by cases z)
  | none =>
    refine go (oneH a (.frz { cls := .type "list", data := .seq vs.toArray } (.lst (ns.map V.int)))) (fun b u z => ?_) (.inl (.inr ⟨{ cls := .type "list", data := .seq vs.toArray }, if_pos rfl⟩)) (fun b u z => ?_)
    · unfold oneH at z
      split at z
      · rename_i hb
        cases z
        exact ⟨hb, hk, _, _, rfl⟩
      · cases z
    · unfold oneH at z
      split at z
      · rename_i hb
        cases z
        subst hb
        exact ⟨at_, by rw [List.length_map]; exact few, vs, _, rv, at_⟩
      · cases z
theorem walkG {l : PySem.W.OpenLaw} {n k : Nat} {q : Program} {loose : List Str} {XP : (Str → Option Value) → Heap → Prop} {YP : World → Heap → Prop} {d : DefRec} {K : Params → PySem.W.Frag} {R : World → Spc} {x : Str}
    (hn : l.most = some n) (hn2 : n ≤ sizeLine) (hdf : d.params.defaults = []) (hr : Room k callerA)
    (hY : ∀ (w : World) (h : Heap), YP w h → (K w.params).In h)
    (F : ∀ (w : World) (mg : Str → Option Value) (fa : Addr) (h : Heap), (K w.params).In h → h.Ns mainGlobals mg → mg d.name = some (.ref fa) →
      ∃ fd : FuncData, (∀ (s : Shared) (u : Value), BindsTo s fd ⟨[u], []⟩ [(x, u)]) ∧
        ∀ base : Heap, (K w.params).In base → base.Ns mainGlobals mg → FnG l.prog w (K w.params) mg base k fa fd [x] (R w))
    (hR : ∀ (w : World) (ns : List Int), ns.length ≤ n → R w [.lst (ns.map .int)] [] (fun d _ => d = .bl true) J0) :
    PySem.W.WalkO q loose XP YP l.row.toRowW d [] (fun f vs => PySem.call f vs) := by
  refine Att.attach_call hn hdf fun w s₀ s₁ mg mb fa o pm cd doc a vs ns G Y ho hd hcd hmg hobj hints hlen hg => ?_
  have KX := hY w _ Y
  obtain ⟨fd, hb, hF⟩ := F w mg fa _ KX G.T.g hmg
  exact run_law KX G.T.g G.T.b G.T.builtins G.T.nolimit hg hobj hints (Nat.le_trans hlen hn2) hr hF hb (hR w ns hlen)
end DL

/-! D13: a callee's new mutable object handed over; the pen. -/
namespace DL
open PySem PySem.Spec PyProof.Rows L2

/-- a callee's own mutable object becomes one of ours -/
theorem liftN {K : PySem.W.Frag} {as as' : List Addr} {G H G' H' : Hp} {μ μ' : Mu} {j : Nat} {p : Addr} {mo : Mo} (m : Mem K as G H μ) (t : Step [] G H as' G' H') (m' : Mem K as' G' H' μ') (hj : as'[j]? = some p) (hm : μ'[j]? = some mo) (ng : mo ≠ .gone) (f : mo.mf = true) :
    Step as G H (as ++ [p]) G' H' ∧ Mem K (as ++ [p]) G' H' (μ ++ [mo]) := by
  obtain ⟨s1, m1⟩ := lift0 m t m'.same
  have hn : H p = none := by
    rcases t.nw p (List.mem_of_getElem? hj) with z | z
    · simp at z
    · exact z
  obtain ⟨q, o, e1, e2, e3, e4⟩ := m'.cell j mo hm ng
  rw [hj] at e1
  cases e1
  have np : p ∉ as := fun h => m.ne p h hn
  have ix : ∀ (k : Nat) (a : Addr), as[k]? = some a → (as ++ [p])[k]? = some a := fun k a h => by
    rw [List.getElem?_append_left (List.getElem?_eq_some_iff.mp h).1]; exact h
  refine ⟨⟨⟨[p], rfl⟩, s1.gg, s1.hh, s1.ho, s1.fr, fun a h => ?_⟩, ⟨m1.same, by simp [m1.len], fun k mo' hk hg => ?_, ?_, fun a h => ?_⟩⟩
  · rcases List.mem_append.mp h with h | h
    · exact s1.nw a h
    · have : a = p := by simpa using h
      subst this
      exact .inr hn
  · by_cases hl : k < μ.length
    · rw [List.getElem?_append_left hl] at hk
      obtain ⟨a, o', h1, h2, h3, h4⟩ := m1.cell k mo' hk hg
      exact ⟨a, o', ix _ _ h1, h2, h3.mono (Same.refl _) ix, h4⟩
    · have hk2 := (List.getElem?_eq_some_iff.mp hk).1
      simp at hk2
      have e : k = μ.length := by omega
      subst e
      simp at hk
      subst hk
      exact ⟨p, o, by rw [← m.len]; simp, e2, e3.free f, e4⟩
  · rw [List.nodup_append]
    refine ⟨m.nd, by simp, fun a ha b hb => ?_⟩
    have : b = p := by simpa using hb
    subst this
    exact fun z => np (z ▸ ha)
  · rcases List.mem_append.mp h with h | h
    · exact m1.ne a h
    · have : a = p := by simpa using h
      subst this
      rw [e2]; simp
def CallsN (R : Spc) (J : JX) (ds : List Dt) (μ : Mu) (Q : Dt → Mu → Prop) : Prop :=
  mfs ds = true ∧ R ds [] (fun d μ' => ∃ j mo, d = .mut j ∧ μ'[j]? = some mo ∧ mo ≠ .gone ∧ mo.mf = true ∧ Q (.mut μ.length) (μ ++ [mo])) (fun C fs _ => mff fs = true ∧ J C fs μ)
theorem CallsN.sp {K : PySem.W.Frag} {as : List Addr} {G H : Hp} {μ : Mu} {R : Spc} {J : JX} {vs : List V} {ds : List Dt} {Q : Dt → Mu → Prop} (h : CallsN R J ds μ Q) (m : Mem K as G H μ) (av : Ats K as G vs ds) : spD K R vs H (AfE K as G H Q) (fun cls d H' => WJ K J as G H cls d H') := by
  obtain ⟨mf, h⟩ := h
  refine ⟨[], G, ds, [], _, _, ⟨m.same, rfl, fun k mo hk => by simp at hk, List.nodup_nil, fun a h => by simp at h⟩, av.free mf, h, ?_, ?_⟩
  · rintro v H' ⟨d, μ', as', G', t, m', a', j, mo, rfl, hm, ng, f, q⟩
    cases a' with
    | «mut» hj =>
      obtain ⟨t2, m2⟩ := liftN m t m' hj hm ng f
      exact ⟨_, _, _, G', t2, m2, .mut (by rw [← m.len]; simp), q⟩
  · rintro cls d H' ⟨C, as', G', μ', gs, e, t, m', fz, mg, j⟩
    obtain ⟨t2, m2⟩ := lift0 m t m'.same
    refine ⟨C, as, G', μ, gs, e, t2, m2, ?_, j⟩
    rcases fz with z | ⟨dd, fs, e1, e2, e3⟩
    · exact .inl z
    · exact .inr ⟨dd, fs, e1, e2, e3.free mg⟩
section
variable {X : Cx} {J : JX} {e a b c o i : Expr} {es : List Expr} {ρ : Env'} {μ : Mu} {σ : L2.St} {H : Hp} {pos : Pos} {k : Nat} {f : Addr} {fd : FuncData} {ps : List Str} {R : Spc}
/-- what is known of a def of the module -/
structure DefD (X : Cx) (k : Nat) (x : Str) (ps : List Str) (R : Spc) : Prop where
  ex : ∃ f fd, FnG X.prog X.w X.K X.mg X.base k f fd ps R ∧ X.mg x = some (.ref f) ∧ PySem.W.keepIn X.K (.ref f) = true ∧ Binds X.K fd ps []
theorem dE_do {x : Str} {p : Pos} {Q : Dt → Mu → Prop} (F : DefD X k x ps R) (hr : Room k X.A) (hgd : X.A.guards = some [])
    (h : dA X J (e :: es) ρ μ fun ds μ1 => CallsD R J ds μ1 Q)
    (hg : Gl X x := by rfl) (hdb : (x == ("__debug__" : Str)) = false := by decide) (he : starEach (e :: es) X.env = (false, eval e X.env) :: starEach es X.env := by rfl) (hpl : (backTo pos (starEach es X.env)).any (·.1) = false := by rfl) :
    dE X J (.Call (.Name x p) (e :: es) [] pos) ρ μ Q := by
  obtain ⟨f, fd, F, hm, hk, hb⟩ := F.ex
  exact dE_call F hr hgd hm hk hb h hg hdb he hpl
theorem dE_do0 {x : Str} {p : Pos} {Q : Dt → Mu → Prop} (F : DefD X k x ps R) (hr : Room k X.A) (hgd : X.A.guards = some []) (h : CallsD R J [] μ Q) (hg : Gl X x := by rfl) (hdb : (x == ("__debug__" : Str)) = false := by decide) : dE X J (.Call (.Name x p) [] [] pos) ρ μ Q := by
  obtain ⟨f, fd, F, hm, hk, hb⟩ := F.ex
  exact dE_call0 F hr hgd hm hk hb h hg hdb
theorem dE_doN {x : Str} {p : Pos} {Q : Dt → Mu → Prop} (F : DefD X k x ps R) (hr : Room k X.A) (hgd : X.A.guards = some [])
    (h : dA X J (e :: es) ρ μ fun ds μ1 => CallsN R J ds μ1 Q)
    (hg : Gl X x := by rfl) (hdb : (x == ("__debug__" : Str)) = false := by decide) (he : starEach (e :: es) X.env = (false, eval e X.env) :: starEach es X.env := by rfl) (hpl : (backTo pos (starEach es X.env)).any (·.1) = false := by rfl) :
    dE X J (.Call (.Name x p) (e :: es) [] pos) ρ μ Q := .mk fun as G H σ S pins s I => by
  obtain ⟨f, fd, F, hm, hk, hb⟩ := F.ex
  refine wpAny_Call_Name_kw (ld_glob I hg hm ?_ hdb)
  refine PySem.W.callWith_K (h₀ := X.base) I.ok.mod.kin hk (thn (h as G H σ S pos pins s I) fun us s1 ⟨vs, H1, I1, r, ds, μ1, as1, G1, t, m, av, q⟩ => ⟨I1.kIn, ?_⟩) he hpl
  have z := run_fnG (Q := AfE X.K as1 G1 H1 Q) F hr hgd hb (S.tk.step t) I1 r (q.sp m av)
  exact thn z fun u s2 ⟨v, H2, I2, rv, q2⟩ => ⟨v, H2, I2, rv, q2.back t⟩
end

/-! ### the pen -/
def penD (cells : List Int) (at_ dg ct fold : Int) : List (Key × Dt) := [(.inr "cells", .lst (cells.map .int)), (.inr "at", .int at_), (.inr "digits", .int dg), (.inr "count", .int ct), (.inr "fold", .int fold)]
/-- a pen after at most B draws -/
def Pen (B : Nat) (m : Mo) : Prop := ∃ cells at_ dg ct fold, m = .dic (penD cells at_ dg ct fold) ∧ 0 ≤ at_ ∧ 0 ≤ ct ∧ ct ≤ B ∧ 0 ≤ fold ∧ fold < 2147483269
theorem Pen.mono {B B' : Nat} {m : Mo} (h : Pen B m) (l : B ≤ B') : Pen B' m := by
  obtain ⟨c, a, d, t, f, e, h1, h2, h3, h4, h5⟩ := h
  exact ⟨c, a, d, t, f, e, h1, h2, by omega, h4, h5⟩
theorem mfs_ints : ∀ l : List Int, mfs (l.map Dt.int) = true
  | [] => rfl
  | _ :: r => by simp [mfs, Dt.mf, mfs_ints r]
theorem Pen.mf {B : Nat} {m : Mo} (h : Pen B m) : m.mf = true := by
  obtain ⟨c, a, d, t, f, rfl, _⟩ := h
  simp [Mo.mf, penD, mfk, Dt.mf, mfs_ints]
theorem Pen.ng {B : Nat} {m : Mo} (h : Pen B m) : m ≠ .gone := by
  obtain ⟨c, a, d, t, f, rfl, _⟩ := h
  exact fun z => by cases z
section
variable {cells : List Int} {a d c f x : Int}
theorem pen_cells : valD (penD cells a d c f) (.inr "cells") = some (.lst (cells.map .int)) := by kernel_rfl
theorem pen_at : valD (penD cells a d c f) (.inr "at") = some (.int a) := by kernel_rfl
theorem pen_dg : valD (penD cells a d c f) (.inr "digits") = some (.int d) := by kernel_rfl
theorem pen_ct : valD (penD cells a d c f) (.inr "count") = some (.int c) := by kernel_rfl
theorem pen_fold : valD (penD cells a d c f) (.inr "fold") = some (.int f) := by kernel_rfl
theorem pen_at_put : putD (penD cells a d c f) (.inr "at") (.int x) = penD cells x d c f := by kernel_rfl
theorem pen_dg_put : putD (penD cells a d c f) (.inr "digits") (.int x) = penD cells a x c f := by kernel_rfl
theorem pen_ct_put : putD (penD cells a d c f) (.inr "count") (.int x) = penD cells a d x f := by kernel_rfl
theorem pen_fold_put : putD (penD cells a d c f) (.inr "fold") (.int x) = penD cells a d c x := by kernel_rfl
theorem pen_merge {e : Dt} : mergeD [] [(.inr "cells", e), (.inr "at", .int a), (.inr "digits", .int d), (.inr "count", .int c), (.inr "fold", .int f)] = [(.inr "cells", e), (.inr "at", .int a), (.inr "digits", .int d), (.inr "count", .int c), (.inr "fold", .int f)] := by kernel_rfl
theorem pen_len : (penD cells a d c f).length < sizeLine := by rw [sizeLine_eq]; show 5 < _; omega
end
def rPen : Spc := fun ds μ Q _ => ∃ ns : List Int, ds = [.lst (ns.map .int)] ∧ μ = [] ∧ ∀ m, Pen 0 m → Q (.mut 0) [m]
def rDraw : Spc := fun ds μ Q _ => ∃ (B : Nat) (many : Int) (m : Mo), ds = [.mut 0, .int many] ∧ μ = [m] ∧ Pen B m ∧ B < 2 ^ 40 ∧ 0 < many ∧ many < 1073741824 ∧ ∀ (r : Int) m', 0 ≤ r → r < many → Pen (B + 1) m' → Q (.int r) [m']
def rPick : Spc := fun ds μ Q _ => ∃ (B : Nat) (xs : List Dt) (d : Dt) (m : Mo), ds = [.mut 0, d] ∧ (d = .lst xs ∨ d = .tup xs) ∧ μ = [m] ∧ Pen B m ∧ B < 2 ^ 40 ∧ xs ≠ [] ∧ xs.length < 1073741824 ∧ ∀ x ∈ xs, ∀ m', Pen (B + 1) m' → Q x [m']
end DL

/-! D14: the walk as a tactic. -/
namespace DL
open PySem PySem.Spec PyProof.Rows L2
/-- what is known of a def of the module -/
structure DefP (P : Program) (w : World) (K : PySem.W.Frag) (mg : Str → Option Value) (base : Heap) (k : Nat) (x : Str) (ps : List Str) (R : Spc) : Prop where
  ex : ∃ f fd, FnG P w K mg base k f fd ps R ∧ mg x = some (.ref f) ∧ PySem.W.keepIn K (.ref f) = true ∧ Binds K fd ps []
section
variable {X : Cx} {J : JX} {e a b c o i : Expr} {es : List Expr} {ρ : Env'} {μ : Mu} {pos : Pos} {k : Nat} {ps : List Str} {R : Spc}
theorem DefP.d {k' : Nat} {x : Str} (F : DefP X.prog X.w X.K X.mg X.base k x ps R) (h : k ≤ k') : DefD X k' x ps R := by
  obtain ⟨f, fd, F, r⟩ := F.ex
  exact ⟨f, fd, F.mono h, r⟩
theorem dE_go {x : Str} {p : Pos} {Q : Dt → Mu → Prop} (F : DefP X.prog X.w X.K X.mg X.base k x ps R) (hr : Room k X.A) (hgd : X.A.guards = some []) (h : dA X J (e :: es) ρ μ fun ds μ1 => CallsD R J ds μ1 Q)
    (hg : Gl X x := by rfl) (hdb : (x == ("__debug__" : Str)) = false := by decide) (he : starEach (e :: es) X.env = (false, eval e X.env) :: starEach es X.env := by rfl) (hpl : (backTo pos (starEach es X.env)).any (·.1) = false := by rfl) :
    dE X J (.Call (.Name x p) (e :: es) [] pos) ρ μ Q := dE_do (F.d (Nat.le_refl _)) hr hgd h hg hdb he hpl
theorem dE_go0 {x : Str} {p : Pos} {Q : Dt → Mu → Prop} (F : DefP X.prog X.w X.K X.mg X.base k x ps R) (hr : Room k X.A) (hgd : X.A.guards = some []) (h : CallsD R J [] μ Q)
    (hg : Gl X x := by rfl) (hdb : (x == ("__debug__" : Str)) = false := by decide) : dE X J (.Call (.Name x p) [] [] pos) ρ μ Q := dE_do0 (F.d (Nat.le_refl _)) hr hgd h hg hdb
theorem dE_goN {x : Str} {p : Pos} {Q : Dt → Mu → Prop} (F : DefP X.prog X.w X.K X.mg X.base k x ps R) (hr : Room k X.A) (hgd : X.A.guards = some []) (h : dA X J (e :: es) ρ μ fun ds μ1 => CallsN R J ds μ1 Q)
    (hg : Gl X x := by rfl) (hdb : (x == ("__debug__" : Str)) = false := by decide) (he : starEach (e :: es) X.env = (false, eval e X.env) :: starEach es X.env := by rfl) (hpl : (backTo pos (starEach es X.env)).any (·.1) = false := by rfl) :
    dE X J (.Call (.Name x p) (e :: es) [] pos) ρ μ Q := dE_doN (F.d (Nat.le_refl _)) hr hgd h hg hdb he hpl
theorem mk_I0 {g : Int → Int → Dt} {x y : Int} {Q : Dt → Mu → Prop} (q : Q (g x y) μ) : rdI0 g (.int x) (.int y) μ Q := ⟨x, y, rfl, rfl, q⟩
theorem mk_I {C : Int → Int → Prop} {g : Int → Int → Dt} {x y : Int} {Q : Dt → Mu → Prop} (c : C x y) (q : Q (g x y) μ) : rdI C g (.int x) (.int y) μ Q := ⟨x, y, rfl, rfl, c, q⟩
theorem mk_mod {g : Int → Int → Dt} {x y : Int} {Q : Dt → Mu → Prop} (c : 0 < y) (q : Q (g x y) μ) : rdI (fun _ j => 0 < j) g (.int x) (.int y) μ Q := ⟨x, y, rfl, rfl, c, q⟩
theorem mk_B {k : Bool} {Q : Bool → Mu → Prop} (q : Q k μ) : QB Q (.bl k) μ := ⟨k, rfl, q⟩
theorem mk_eqI {x y : Int} {Q : Dt → Mu → Prop} (q : Q (.bl (x == y)) μ) : ∃ b, flatEq (.int x) (.int y) = some b ∧ Q (.bl b) μ := ⟨_, rfl, q⟩
theorem mk_int {i : Int} {Q : Dt → Mu → Prop} (q : Q (.int i) μ) : (∃ j, [Dt.int i] = [.int j] ∧ Q (.int j) μ) ∨ ∃ k, [Dt.int i] = [.bl k] ∧ Q (.int (if k then 1 else 0)) μ := .inl ⟨i, rfl, q⟩
theorem mk_len {d : Dt} {n : Nat} {Q : Dt → Mu → Prop} (h : lenM μ d = some n) (q : Q (.int n) μ) : ∃ d' n, [d] = [d'] ∧ lenM μ d' = some n ∧ Q (.int n) μ := ⟨d, n, rfl, h, q⟩
theorem mk_call0 {J : JX} {ds : List Dt} {Q : Dt → Mu → Prop} (mf : mfs ds = true) (h : R ds [] (fun d _ => d.mf = true ∧ Q d μ) (fun C fs _ => mff fs = true ∧ J C fs μ)) : CallsD R J ds μ Q := .inl ⟨mf, h⟩
theorem mk_call1 {J : JX} {j : Nat} {m0 : Mo} {r : List Dt} {Q : Dt → Mu → Prop} (h0 : μ[j]? = some m0) (ng : m0 ≠ .gone) (f : m0.mf = true) (mf : mfs r = true)
    (h : R (.mut 0 :: r) [m0] (fun d μ' => d.mf = true ∧ ∃ m1, μ'[0]? = some m1 ∧ m1 ≠ .gone ∧ m1.mf = true ∧ Q d (μ.set j m1)) (fun C fs μ' => mff fs = true ∧ ∃ m1, μ'[0]? = some m1 ∧ m1 ≠ .gone ∧ m1.mf = true ∧ J C fs (μ.set j m1))) : CallsD R J (.mut j :: r) μ Q := .inr ⟨j, m0, r, rfl, h0, ng, f, mf, h⟩
theorem mk_dget {d : Dt} {x : Str} {y : Dt} {es : List (Key × Dt)} {Q : Dt → Mu → Prop} (h1 : dicM μ d = some es) (h2 : valD es (.inr x) = some y) (q : Q y μ) : ∃ es k x', dicM μ d = some es ∧ (Dt.str x) = keyD k ∧ valD es k = some x' ∧ Q x' μ := ⟨es, .inr x, y, h1, rfl, h2, q⟩
theorem mk_dput {D : DEnds} {j : Nat} {x : Str} {v : Dt} {es : List (Key × Dt)} (h1 : μ[j]? = some (.dic es)) (h2 : es.length < sizeLine) (q : D.nx ρ (μ.set j (.dic (putD es (.inr x) v)))) :
    ∃ k es key, (Dt.mut j) = .mut k ∧ (Dt.str x) = keyD key ∧ μ[k]? = some (.dic es) ∧ es.length < sizeLine ∧ D.nx ρ (μ.set k (.dic (putD es key v))) := ⟨j, es, .inr x, rfl, rfl, h1, h2, q⟩
theorem atI_get {α : Type} {xs : List α} {i : Int} (h0 : 0 ≤ i) (h : i.toNat < xs.length) : atI xs i = some xs[i.toNat] := by
  have h1 : i < xs.length := by omega
  unfold atI ixN
  rw [if_pos h0]
  first
    | (rw [if_pos h1]; show xs[i.toNat]? = _; simp [h])
    | simp [h, h1]
/-- a test whose answer is a decided one -/
theorem iteD {c A B : Prop} [Decidable c] (h1 : c → A) (h2 : ¬ c → B) : if decide c = true then A else B := by
  by_cases h : c
  · rw [decide_eq_true h, if_pos rfl]; exact h1 h
  · rw [decide_eq_false h, if_neg Bool.false_ne_true]; exact h2 h
theorem iteB {k : Bool} {A B : Prop} (h1 : k = true → A) (h2 : k = false → B) : if k = true then A else B := by
  cases k with
  | true => rw [if_pos rfl]; exact h1 rfl
  | false => rw [if_neg Bool.false_ne_true]; exact h2 rfl
end
end DL

/-! D15: deep equality, all, any. -/
namespace DL
open PySem PySem.Spec PyProof.Rows L2
mutual
theorem At.dp {K : PySem.W.Frag} {as : List Addr} {G H : Hp} (g : Same G H) : ∀ {v : V} {d : Dt} {p : PyData}, At K as G v d → toPy d = some p → p.canLay0 = true → Dp K H v p
  | _, _, _, .non, e, _ => by simp [toPy] at e; subst e; exact .non
  | _, _, _, .bl b, e, _ => by simp [toPy] at e; subst e; exact .bl b
  | _, _, _, .int b, e, _ => by simp [toPy] at e; subst e; exact .int b
  | _, _, _, .str b, e, _ => by simp [toPy] at e; subst e; exact .str b
  | _, _, p, .lst (ds := ds) h t, e, c => by
    simp only [toPy, Option.map_eq_some_iff] at e
    obtain ⟨ps, e1, e2⟩ := e
    subst e2
    exact .lst (g.seq h) (Ats.dp g t e1 (by simpa only [PyData.canLay0] using c))
  | _, _, p, .tup (ds := ds) h t, e, c => by
    simp only [toPy, Option.map_eq_some_iff] at e
    obtain ⟨ps, e1, e2⟩ := e
    subst e2
    exact .tup (Same.tup g h) (Ats.dp g t e1 (by simpa only [PyData.canLay0] using c))
  | _, _, p, .dic h t, e, c => by
    simp only [toPy, Option.map_eq_some_iff] at e
    obtain ⟨ps, e1, e2⟩ := e
    subst e2
    simp [PyData.canLay0] at c
  | _, _, _, .obj _ _, e, _ => by simp [toPy] at e
  | _, _, _, .exc _ _ _, e, _ => by simp [toPy] at e
  | _, _, _, .exc0 _, e, _ => by simp [toPy] at e
  | _, _, _, .val _, e, _ => by simp [toPy] at e
  | _, _, _, .mut _, e, _ => by simp [toPy] at e
  | _, _, _, .cau _ _, e, _ => by simp [toPy] at e
  | _, _, _, .clo _ _, e, _ => by simp [toPy] at e
theorem Ats.dp {K : PySem.W.Frag} {as : List Addr} {G H : Hp} (g : Same G H) : ∀ {v : List V} {d : List Dt} {p : List PyData}, Ats K as G v d → toPys d = some p → PyData.canLayAll0 p = true → DpAll K H v p
  | _, _, _, .nil, e, _ => by simp [toPys] at e; subst e; exact .nil
  | _, _, p, .cons h t, e, c => by
    obtain ⟨x, xs, e1, e2, e3⟩ := toPys_cons e
    subst e3
    have c' : x.canLay0 = true ∧ PyData.canLayAll0 xs = true := by simpa [PyData.canLayAll0] using c
    exact .cons (At.dp g h e1 c'.1) (Ats.dp g t e2 c'.2)
end
section
variable {X : Cx} {J : JX}
def rdEq (b : Bool) : Dt → Dt → Mu → (Dt → Mu → Prop) → Prop := fun d e μ Q => ∃ p q, toPy d = some p ∧ toPy e = some q ∧ SeqAt.shaped p = true ∧ SeqAt.shaped q = true ∧ Q (.bl (xor b (PyData.eqv p q))) μ
theorem od_eqD (hu : X.A.units + 64 < cLine) : OpD X (compareOp .Eq) (rdEq false) := by
  refine ⟨_, op_eqD hu, ?_⟩
  intro as G H μ x y d e Q Q' m a1 a2 ⟨p, q, e1, e2, s1, s2, k⟩ f
  refine ⟨p, q, a1.dp m.same e1 (SeqAt.canLay_of_shaped s1), a2.dp m.same e2 (SeqAt.canLay_of_shaped s2), s1, s2, f _ _ (.now m (.bl _) ?_)⟩
  simpa using k
theorem od_neD (hu : X.A.units + 64 < cLine) : OpD X (compareOp .NotEq) (rdEq true) := by
  refine ⟨_, op_neD hu, ?_⟩
  intro as G H μ x y d e Q Q' m a1 a2 ⟨p, q, e1, e2, s1, s2, k⟩ f
  refine ⟨p, q, a1.dp m.same e1 (SeqAt.canLay_of_shaped s1), a2.dp m.same e2 (SeqAt.canLay_of_shaped s2), s1, s2, f _ _ (.now m (.bl _) ?_)⟩
  simpa using k
theorem ats_bools {K : PySem.W.Frag} {as : List Addr} {G : Hp} : ∀ {bs : List Bool} {vs : List V}, Ats K as G vs (bs.map Dt.bl) → vs = bs.map V.bl
  | [], _, h => by cases h; rfl
  | b :: r, _, h => by
    cases h with
    | cons a t =>
      cases a
      rw [ats_bools t]
      rfl
theorem cd_all (hc : X.calm = true) : CallD X (.builtin "all") (fun ds μ Q => ∃ bs : List Bool, ds = [.lst (bs.map .bl)] ∧ Q (.bl (bs.all id)) μ) := by
  refine ⟨_, cr_all hc, ?_⟩
  intro as G H μ xs ds Q Q' m a ⟨bs, e, q⟩ f
  subst e
  obtain ⟨x, rfl, a2⟩ := a.one
  cases a2 with
  | lst h t =>
    rw [ats_bools t] at h
    exact ⟨_, bs, rfl, m.same.seq h, f _ _ (.now m (.bl _) q)⟩
theorem cd_any (hc : X.calm = true) : CallD X (.builtin "any") (fun ds μ Q => ∃ bs : List Bool, ds = [.lst (bs.map .bl)] ∧ Q (.bl (bs.any id)) μ) := by
  refine ⟨_, cr_any hc, ?_⟩
  intro as G H μ xs ds Q Q' m a ⟨bs, e, q⟩ f
  subst e
  obtain ⟨x, rfl, a2⟩ := a.one
  cases a2 with
  | lst h t =>
    rw [ats_bools t] at h
    exact ⟨_, bs, rfl, m.same.seq h, f _ _ (.now m (.bl _) q)⟩
end
end DL

/-! D16: what the text says of the errors' classes. -/
namespace DL
open PySem PySem.Spec PyProof.Rows L2
/-- an own class under ValueError; bs: its chain behind itself -/
def Xl (K : PySem.W.Frag) (C : Addr) (bm : List Value) : Prop := ∃ nm q N bs sn sub ab col dd k0 k1 k2 k3 k5, K.lookup C = some (excClassObj nm q C N bs bm true sn sub ab col dd k0 k1 k2 k3 k5 "ValueError.__new__")
abbrev veL : List Value := [.type "ValueError", .type "Exception", .type "BaseException", .type "object"]
section
variable {K : PySem.W.Frag} {C D CW : Addr} {bm : List Value}
theorem Xl.cls (x : Xl K C bm) : ∃ cd, PySem.W.clsIn K C = some cd ∧ cd.mro = .ref C :: bm ∧ cd.hasDict = true := by
  obtain ⟨nm, q, N, bs, sn, sub, ab, col, dd, k0, k1, k2, k3, k5, h⟩ := x
  refine ⟨{ name := nm, bases := bs, mro := .ref C :: bm, ns := N, qualname := q, hasDict := true, slotNames := sn, subclasses := sub, abstract := ab, collection := col, hasDel := false }, ?_, rfl, rfl⟩
  unfold PySem.W.clsIn
  rw [h]
theorem Xl.ty (x : Xl K C bm) : PySem.W.typeIn K (.ref C) = some (.type "type") := by
  obtain ⟨nm, q, N, bs, sn, sub, ab, col, dd, k0, k1, k2, k3, k5, h⟩ := x
  show (K.lookup C).map (·.cls) = _
  rw [h]
  rfl
theorem Xl.mro (x : Xl K C bm) (b : Value) : PySem.W.mroIn K C b = some ((Value.ref C :: bm).contains b) := by
  obtain ⟨cd, h1, h2, _⟩ := x.cls
  unfold PySem.W.mroIn
  rw [h1, Option.bind_some, h2]
  rfl
theorem Xl.dict (x : Xl K C bm) : PySem.W.hasDictIn K C = true := by
  obtain ⟨cd, h1, _, h3⟩ := x.cls
  unfold PySem.W.hasDictIn
  rw [h1]
  exact h3
theorem Xl.sub (x : Xl K C bm) (b : Value) : PySem.W.subIn K (.ref C) b = some ((Value.ref C :: bm).contains b) := x.mro b
theorem Xl.kit {bm' : List Value} (x : Xl K C (.ref CW :: veL)) (y : Xl K D bm') (n : CW ≠ D) : PySem.W.kitOne K (.ref C) (.ref D) = some (decide (C = D)) := by
  unfold PySem.W.kitOne
  by_cases h : C = D
  · subst h
    rw [if_pos (by simp), decide_eq_true rfl]
  · rw [if_neg (by simpa using h), decide_eq_false h]
    obtain ⟨cd, h1, _⟩ := y.cls
    show (if ((PySem.W.clsIn K D).isSome && PySem.W.typeIn K (.ref D) == some (.type "type")) = true then PySem.W.subIn K (.ref C) (.ref D) else none) = some false
    rw [h1, y.ty]
    rw [if_pos (by rfl), x.sub]
    have h' : (Value.ref D == Value.ref C) = false := by simpa using fun z : D = C => h z.symm
    have n' : (Value.ref D == Value.ref CW) = false := by simpa using fun z : D = CW => n z.symm
    simp only [List.contains_cons, List.contains_nil, h', n']
    rfl
theorem Xl.kitW (x : Xl K C (.ref CW :: veL)) (y : Xl K CW veL) : PySem.W.kitOne K (.ref C) (.ref CW) = some true := by
  unfold PySem.W.kitOne
  by_cases h : C = CW
  · subst h
    rw [if_pos (by simp)]
  · rw [if_neg (by simpa using h)]
    obtain ⟨cd, h1, _⟩ := y.cls
    show (if ((PySem.W.clsIn K CW).isSome && PySem.W.typeIn K (.ref CW) == some (.type "type")) = true then PySem.W.subIn K (.ref C) (.ref CW) else none) = some true
    rw [h1, y.ty]
    rw [if_pos (by rfl), x.sub]
    simp [List.contains_cons]
theorem Xl.exm {bm' : List Value} {b : Bool} (x : Xl K C bm) (y : Xl K D bm') (hb : bm'.contains (.type "BaseException") = true) (h : (Value.ref C :: bm).contains (.ref D) = b) : PySem.W.exmOne K (.ref C) (.ref D) = some b :=
  PySem.W.exm_ref (by rw [y.sub, List.contains_cons, hb, Bool.or_true]) y.dict y.ty (by rw [x.sub, h])
end
section
variable {P : Program} {w : World} {K : PySem.W.Frag} {mg : Str → Option Value} {base : Heap}
theorem erk_of {qual : Str} {st : Stmt} {f C CW : Addr} {fd : FuncData} {names : List Str} {p1 p2 p3 p4 p5 p6 : Pos} {tx : Str} {kk : Nat} {sts : List Stmt} (xW : Xl K CW veL) (hm : mg "WebError" = some (.ref CW)) (rd : PySem.W.readsIn K CW (.type "type") = true)
    (gaW : PySem.W.specialIn K (.ref CW) "__getattribute__" = some (some (.builtin "type.__getattribute__"))) (vV : PySem.W.findCls K (.ref CW) (.type "type") "__init__" = some (.val (.builtin "ValueError.__init__")))
    (hn : PySem.W.specialIn K (.builtin "object.__class__") "__get__" = some (some (.builtin "getset_descriptor.__get__"))) (ht : PySem.W.takesIn K (.builtin "object.__class__") = some true)
    (x : Xl K C (.ref CW :: veL)) (sa : PySem.W.findIn K (.ref C) "__setattr__" = some (some (.builtin "object.__setattr__"))) (ga : PySem.W.findIn K (.ref C) "__getattribute__" = some (some (.builtin "BaseException.__getattribute__")))
    (gg : PySem.W.findIn K (.ref C) "__getattr__" = some none) (ha : PySem.W.findIn K (.ref C) "__class__" = some (some (.builtin "object.__class__"))) (kC : PySem.W.keepIn K (.ref C) = true)
    (iC : PySem.W.findIn K (.ref C) "__init__" = some (some (.ref f))) (tI : PySem.W.typeIn K (.ref f) = some (.type "function")) (no : ∀ y ∈ names, PySem.W.findIn K (.ref C) y = some none)
    (F : Fun K "__init__" qual st f fd) (S : FnScope ("self" :: names) ("self" :: names) (defScope st))
    (hb : defBody st = .Expr (.Call (.Attribute (.Name "WebError" p1) "__init__" p2) [.Name "self" p3, .Constant (.str tx) kk p4] [] p5) p6 :: sts) (St : Stores sts names) (hg : (defScope st).names.lookup ("WebError" : Str) = some .globalImplicit)
    (vis : ∀ y : Str, y ∈ (("self" : Str) :: names) → (defScope st).names.lookup y = some .local) (db : ∀ y ∈ names, (y == ("__debug__" : Str)) = false ∧ (y == ("__classdict__" : Str)) = false) (few : names.length ≤ 900)
    (hc : ∀ env : Env, ∃ pl : Sem Bool, eval (.Call (.Attribute (.Name "WebError" p1) "__init__" p2) [.Name "self" p3, .Constant (.str tx) kk p4] [] p5) env = (do
      let ov ← eval (.Name "WebError" p1) env
      standAt p2.atName
      let (f, first) ← holding [ov] (getMethod ov "__init__" pl)
      callWith p5 f first (backTo p5 (starEach [.Name "self" p3, .Constant (.str tx) kk p4] env)) (backToKw p5 (keywordEach [] env))))
    (b : Binds K fd ("self" :: names) []) (kw : ∀ (s : Shared) (self : Value) (ws : List Value), ws.length = names.length → BindsTo s fd ⟨[self], names.reverse.zip ws⟩ ((("self" : Str) :: names).zip (self :: ws.reverse))) :
    ErK P w K mg base C names ∧ ExcC K C := by
  have ex : PySem.W.subIn K (.ref C) (.type "BaseException") = some true := by rw [x.sub]; simp [List.contains_cons]
  have T : OexC K C := by
    obtain ⟨nm, q, N, bs, sn, sub, ab, col, dd, k0, k1, k2, k3, k5, h⟩ := id x
    exact ⟨⟨nm, q, N, bs, _, sn, sub, ab, col, dd, k0, k1, k2, k3, k5, h, by rfl⟩, sa, ex, x.ty, kC⟩
  refine ⟨⟨T, ⟨ga, gg, ex, x.dict⟩, no, few, f, fd, iC, tI, init_ok F S T hm rd gaW vV hb St hg vis db no few hc, b, kw⟩, ⟨ga, gg, ex, x.dict, ha, hn, ht, ?_⟩⟩
  rw [x.mro]
  simp [List.contains_cons]
end
end DL

/-! D17: bit_length, is of bools, isinstance with a tuple of classes. -/
namespace DL
open PySem PySem.Spec PyProof.Rows L2
section
variable {X : Cx} {J : JX} {e a b c o : Expr} {es : List Expr} {ρ : Env'} {μ : Mu} {σ : L2.St} {H : Hp} {pos apos : Pos}
/-- x.bit_length() -/
theorem dE_bits {Q : Dt → Mu → Prop} (h : dE X J o ρ μ fun d μ1 => ∃ i, d = .int i ∧ Q (.int (Builtin.Int.intBits i : Nat)) μ1) (hbase : attributeBase o "bit_length" X.env (eval o X.env) = eval o X.env := by rfl) (hline : (apos.endLine == pos.line) = true := by rfl) :
    dE X J (.Call (.Attribute o "bit_length" apos) [] [] pos) ρ μ Q := .mk fun as G H σ S => by
  refine (pe_bits peW hbase hline).w ?_
  refine wE_mono (h as G H σ S) fun x H1 ⟨d, μ1, as1, G1, t1, m1, a1, i, e1, q⟩ => ?_
  subst e1
  cases a1
  exact ⟨i, rfl, _, μ1, as1, G1, t1, m1, .int _, q⟩
theorem od_isB : OpD X (compareOp .Is) (fun d e μ Q => ∃ x y : Bool, d = .bl x ∧ e = .bl y ∧ Q (.bl (decide (x = y))) μ) := by
  refine ⟨_, op_isBl, ?_⟩
  intro as G H μ x y d e Q Q' m a1 a2 ⟨i, j, e1, e2, q⟩ f
  subst e1 e2
  cases a1
  cases a2
  exact ⟨i, j, rfl, rfl, f _ _ (.now m (.bl _) q)⟩
theorem od_notB : OpD X (compareOp .IsNot) (fun d e μ Q => ∃ x y : Bool, d = .bl x ∧ e = .bl y ∧ Q (.bl (!decide (x = y))) μ) := by
  refine ⟨_, op_notBl, ?_⟩
  intro as G H μ x y d e Q Q' m a1 a2 ⟨i, j, e1, e2, q⟩ f
  subst e1 e2
  cases a1
  cases a2
  exact ⟨i, j, rfl, rfl, f _ _ (.now m (.bl _) q)⟩
/-- isinstance(x, (c1, c2, ..)) -/
def rIsS (K : PySem.W.Frag) : List V → Hp → VK → Prop := fun xs H Q => ∃ (x : V) (tp : Addr) (cs : List V) (t : Value) (us : List Value) (r : Bool), xs = [x, .ref tp] ∧ SqT K H tp cs ∧ Paired ClsV cs us ∧ TyX K H x t ∧ PySem.W.kitAny K t us = some r ∧ Q (.bl r) H
theorem call_isS : CallR X (.builtin "isinstance") (rIsS X.K) := by
  intro pins s σ H xs us Q I r h
  obtain ⟨x, tp, cs, t, ws, k, rfl, hT, kc, ty, e, q⟩ := h
  obtain ⟨u1, u2, rfl, r1, r2⟩ := vals2 r
  cases (show u2 = Value.ref tp from r2)
  obtain ⟨P, Z, p, hx⟩ := kit_of I r1 ty
  obtain ⟨its, rv, ⟨⟨oc, od, dt, sl⟩, h1, h2, n, h3⟩, _⟩ := I.tuple hT
  have e3 := ClsV.all kc rv
  subst e3
  simp only at h2 h3
  subst h2 h3
  exact PySem.W.kia_tup Z I.kIn p h1 e hx fun tk => ⟨.bl k, H, I.tok tk, rfl, q⟩
/-- classes as data -/
theorem ats_cls {K : PySem.W.Frag} {as : List Addr} {G : Hp} : ∀ {cs : List V} {vs : List V}, Ats K as G vs (cs.map Dt.val) → vs = cs
  | [], _, h => by cases h; rfl
  | c :: r, _, h => by
    cases h with
    | cons a t =>
      cases a
      rw [ats_cls t]
theorem cd_isT : CallD X (.builtin "isinstance") (fun ds μ Q => ∃ d cs t us r, ds = [d, .tup (cs.map .val)] ∧ Paired ClsV cs us ∧ TyM X.K μ d t ∧ (∀ C gs, d ≠ .exc C gs) ∧ PySem.W.kitAny X.K t us = some r ∧ Q (.bl r) μ) := by
  refine ⟨⟨_, call_isS, fun as G H μ xs ds Q Q' m a ⟨d, cs, t, us, r, e, k, ty, ne, ki, q⟩ f => ?_⟩⟩
  subst e
  obtain ⟨x, y, rfl, a1, a2⟩ := a.two
  cases a2 with
  | tup h1 h2 =>
    have e1 := ats_cls h2
    subst e1
    rcases tyX_of m a1 ty with z | ⟨p, C, dx, rfl, rfl, xc, hp, hd⟩
    · exact ⟨x, _, _, t, us, r, rfl, Same.tup m.same h1, k, z, ki, f _ _ (.now m (.bl _) q)⟩
    · cases ty with
      | exc _ => exact absurd rfl (ne _ _)
      | obj cl ha hn htk hm =>
        cases a1 with
        | obj g1 g2 =>
          have z := m.same _ _ g1
          rw [hp] at z
          have z' : HO.ext _ = HO.ins _ _ _ := Option.some.inj z
          cases z'
end
end DL

/-! D18: lambdas: what is tracked, taken out and put back; the body's context. -/
namespace DL
open PySem PySem.Spec PyProof.Rows L2

/-! ### tracked objects taken out, put back -/
def cut (H : Hp) (xs : List Addr) : Hp := fun b => if b ∈ xs then none else H b
def glue (H : Hp) (xs : List Addr) (H' : Hp) : Hp := fun b => if b ∈ xs then H b else H' b
section
variable {P : Program} {w : World} {H H' : Hp} {h h' B : Heap} {xs fs : List Addr} {b : Addr}
theorem cut_in (m : b ∈ xs) : cut H xs b = none := if_pos m
theorem cut_out (m : b ∉ xs) : cut H xs b = H b := if_neg m
theorem glue_in (m : b ∈ xs) : glue H xs H' b = H b := if_pos m
theorem glue_out (m : b ∉ xs) : glue H xs H' b = H' b := if_neg m
/-- each at xs is tracked as just one object -/
def Xos (H : Hp) (xs : List Addr) : Prop := ∀ c ∈ xs, ∃ oc, H c = some (xo c oc)
theorem Xos.ne (x : Xos H xs) {u : HO} (q : H b = some u) (nx : ∀ φ, u ≠ .ext φ) : b ∉ xs := fun m => by
  obtain ⟨oc, e⟩ := x b m
  rw [q] at e
  exact nx _ (Option.some.inj e)
theorem Xos.none (x : Xos H xs) (q : H b = none) : b ∉ xs := fun m => by
  obtain ⟨oc, e⟩ := x b m
  rw [q] at e
  cases e
theorem xo_ok {c : Addr} {oc : Obj} (ok : HOk P w H h) (e : H c = some (xo c oc)) : h.get? c = some oc := (ok c _ e).1
theorem hok_cut (ok : HOk P w H h) (x : Xos H xs) : HOk P w (cut H xs) h := fun a o e => by
  by_cases m : a ∈ xs
  · rw [cut_in m] at e
    cases e
  · rw [cut_out m] at e
    exact (ok a o e).stay (fun _ _ _ q => q) (fun b q => by rw [cut_out (x.ne q (fun _ z => by cases z))]; exact q) (fun b ys q => by rw [cut_out (x.ne q fun _ z => by cases z)]; exact q)
theorem hok_glue (ok : HOk P w H' h') (x : ∀ c ∈ xs, ∃ oc, H c = some (xo c oc) ∧ h'.get? c = some oc) (n : ∀ c ∈ xs, H' c = none) : HOk P w (glue H xs H') h' := fun a o e => by
  by_cases m : a ∈ xs
  · rw [glue_in m] at e
    obtain ⟨oc, e1, e2⟩ := x a m
    rw [e] at e1
    cases e1
    exact ⟨e2, ⟨_, e2⟩, fun h1 h2 p st => st _ p⟩
  · rw [glue_out m] at e
    have no : ∀ b u, H' b = some u → b ∉ xs := fun b u q z => by
      rw [n b z] at q
      cases q
    exact (ok a o e).stay (fun _ _ _ q => q) (fun b q => by rw [glue_out (no _ _ q)]; exact q) (fun b ys q => by rw [glue_out (no _ _ q)]; exact q)
theorem un_glue (u : Un fs [] (cut H xs) H' h h') (x : Xos H xs) : Un fs [] H (glue H xs H') h h' where
  keep := fun b o e n hb hx => u.keep b o e (by rw [cut_out (x.none n)]; exact n) hb hx
  slot := fun b o e n hb hx => u.slot b o e (by rw [cut_out (x.none n)]; exact n) hb hx
  free := fun b o e n hx => by rw [glue_out (x.none n)]; exact u.free b o e (by rw [cut_out (x.none n)]; exact n) hx
  there := u.there
  tups := fun b ys q => by
    have m := x.ne q fun _ z => by cases z
    rw [glue_out m]
    exact u.tups b ys (by rw [cut_out m]; exact q)
  frzs := fun b o v q => by
    have m := x.ne q fun _ z => by cases z
    rw [glue_out m]
    exact u.frzs b o v (by rw [cut_out m]; exact q)
  tbls := fun b ps q => by
    have m := x.ne q fun _ z => by cases z
    rw [glue_out m]
    exact u.tbls b ps (by rw [cut_out m]; exact q)
theorem ub_glue (u : UB fs (cut H xs) H' h B h') (x : Xos H xs) : UB fs H (glue H xs H') h B h' where
  keep := fun b o e n hb => u.keep b o e (by rw [cut_out (x.none n)]; exact n) hb
  slot := u.slot
  free := fun b o e n => by rw [glue_out (x.none n)]; exact u.free b o e (by rw [cut_out (x.none n)]; exact n)
  there := u.there
  tups := fun b ys q => by
    have m := x.ne q fun _ z => by cases z
    rw [glue_out m]
    exact u.tups b ys (by rw [cut_out m]; exact q)
  frzs := fun b o v q => by
    have m := x.ne q fun _ z => by cases z
    rw [glue_out m]
    exact u.frzs b o v (by rw [cut_out m]; exact q)
  tbls := fun b ps q => by
    have m := x.ne q fun _ z => by cases z
    rw [glue_out m]
    exact u.tbls b ps (by rw [cut_out m]; exact q)
/-- what a wish becomes -/
def glK (H : Hp) (xs : List Addr) (Q : VK) : VK := fun v H'' => ∃ H', H'' = glue H xs H' ∧ (∀ c ∈ xs, H' c = none) ∧ Q v H'
def glE (H : Hp) (xs : List Addr) (E : XK) : XK := fun cls d H'' => ∃ H', H'' = glue H xs H' ∧ (∀ c ∈ xs, H' c = none) ∧ E cls d H'
theorem ce_glue {outer : List Env} {s s' : Shared} {Q : VK} {u : Value} (c : CE outer P w (cut H xs) s Q u s') (x : Xos H xs) (ok : HOk P w H s.heap) (nf : ∀ c ∈ xs, c ∉ frs outer) : CE outer P w H s (glK H xs Q) u s' := by
  obtain ⟨v, H', os, bare, un, hok, r, q⟩ := c
  have n : ∀ c ∈ xs, H' c = none := fun c m => by
    obtain ⟨oc, e⟩ := x c m
    exact un.free c oc (xo_ok ok e) (cut_in m) (by simp)
  refine ⟨v, DL.glue H xs H', os, bare, un_glue un x, hok_glue hok (fun c m => ?_) n, r, H', rfl, n, q⟩
  obtain ⟨oc, e⟩ := x c m
  exact ⟨oc, e, un.keep c oc (xo_ok ok e) (cut_in m) (nf c m) (by simp)⟩
theorem cx_glue {outer : List Env} {s s' : Shared} {E : XK} {e : Value} (c : L2.CX P w outer (cut H xs) s E e s') (x : Xos H xs) (ok : HOk P w H s.heap) (nf : ∀ c ∈ xs, c ∉ frs outer) : L2.CX P w outer H s (glE H xs E) e s' := by
  obtain ⟨a, B, H', cls, d, rfl, fl, hok, ub, na, os, ag, hE⟩ := c
  have n : ∀ c ∈ xs, H' c = none := fun c m => by
    obtain ⟨oc, e⟩ := x c m
    exact ub.free c oc (xo_ok ok e) (cut_in m)
  have kB : ∀ c ∈ xs, ∃ oc, H c = some (xo c oc) ∧ B.get? c = some oc := fun c m => by
    obtain ⟨oc, e⟩ := x c m
    exact ⟨oc, e, ub.keep c oc (xo_ok ok e) (cut_in m) (nf c m)⟩
  refine ⟨a, B, DL.glue H xs H', cls, d, rfl, fl, hok_glue hok kB n, ub_glue ub x, ?_, os, ag, H', rfl, n, hE⟩
  have ma : a ∉ xs := fun m => by
    obtain ⟨oc, _, e⟩ := kB a m
    rw [fl.2.1] at e
    cases e
  rw [glue_out ma]
  exact na
/-- the data's side of it -/
theorem lift_cut {K : PySem.W.Frag} {as as' : List Addr} {G G' : Hp} {μ : Mu} (m : Mem K as G H μ) (sub : ∀ c ∈ xs, c ∈ as) (gn : ∀ c ∈ xs, G c = none) (t : Step [] G (cut H xs) as' G' H') (g : Same G' H') (n : ∀ c ∈ xs, H' c = none) :
    Step as G H as G' (glue H xs H') ∧ Mem K as G' (glue H xs H') μ := by
  have gx : ∀ b o, G' b = some o → b ∉ xs := fun b o e z => by
    have := g b o e
    rw [n b z] at this
    cases this
  have hh : ∀ b o, H b = some o → b ∉ xs → glue H xs H' b = some o := fun b o e z => by
    rw [glue_out z]
    exact t.hh b o (by rw [cut_out z]; exact e) (by simp)
  have ho : ∀ b, H b ≠ none → glue H xs H' b ≠ none := fun b e => by
    by_cases z : b ∈ xs
    · rw [glue_in z]; exact e
    · rw [glue_out z]; exact t.ho b (by rw [cut_out z]; exact e)
  have fr : ∀ b o, G' b = some o → G b = some o ∨ H b = none := fun b o e => by
    rcases t.fr b o e with z | z | z
    · exact .inl z
    · rw [cut_out (gx b o e)] at z
      exact .inr z
    · simp at z
  refine ⟨⟨⟨[], by simp⟩, t.gg, fun b o e z => hh b o e fun zz => z (sub b zz), ho, fun b o e => (fr b o e).elim .inl fun z => .inr (.inl z), fun a h => .inl h⟩,
    ⟨fun b o e => by rw [glue_out (gx b o e)]; exact g b o e, m.len, fun k mo hk hg => ?_, m.nd, fun a h => ho a (m.ne a h)⟩⟩
  obtain ⟨a, o, h1, h2, h3, h4⟩ := m.cell k mo hk hg
  refine ⟨a, o, h1, ?_, h3.mono t.gg (fun _ _ h => h), ?_⟩
  · by_cases z : a ∈ xs
    · rw [glue_in z]; exact h2
    · exact hh a o h2 z
  · cases q : G' a with
    | none => rfl
    | some u =>
      rcases fr a u q with z | z
      · rw [h4] at z; cases z
      · rw [h2] at z; cases z
end

/-! ### the context of a lambda's body -/
structure LamN (scope : Scope) (N : List Str) : Prop where
  kind : scope.kind = .function
  co : scope.isCoroutine = false
  gen : scope.isGenerator = false
  own : ∀ y ∈ scope.names, y.2 ≠ .local ∧ y.2 ≠ .cell
  free : ∀ y ∈ scope.names, y.2 = .free → y.1 ∈ N
def lamNB (scope : Scope) (N : List Str) : Bool :=
  decide (scope.kind = .function) && !scope.isCoroutine && !scope.isGenerator && scope.names.all fun y => !decide (y.2 = .local) && !decide (y.2 = .cell) && (!decide (y.2 = .free) || decide (y.1 ∈ N))
theorem lamN_by {scope : Scope} {N : List Str} (h : lamNB scope N = true) : LamN scope N := by
  unfold lamNB at h
  simp only [Bool.and_eq_true, Bool.or_eq_true, Bool.not_eq_true', decide_eq_true_eq, decide_eq_false_iff_not, List.all_eq_true] at h
  obtain ⟨⟨⟨h1, h2⟩, h3⟩, h4⟩ := h
  exact ⟨h1, h2, h3, fun y hy => (h4 y hy).1, fun y hy e => (h4 y hy).2.elim (fun z => absurd e z) fun z => z⟩
abbrev lamV (L : LamI) (cs : List (Str × Addr)) (l f c' : Addr) : Env := PySem.W.envX L.qual L.scope l f (.ref c') cs
def lamC (P : Program) (w : World) (K : PySem.W.Frag) (mg : Str → Option Value) (base : Heap) (N : List Str) (L : LamI) (cs : List (Str × Addr)) (f c' : Addr) (A : Around) (outer : List Env) (s : Shared) (H : Hp) (E : XK) : Cx where
  prog := P
  w := w
  K := K
  mg := mg
  base := base
  A := A.deeper (lamV L cs s.heap.objs.size f c')
  N := N
  s_0 := s
  H_0 := H
  env := lamV L cs s.heap.objs.size f c'
  outer := outer
  stack := lamV L cs s.heap.objs.size f c' :: outer
  ex := []
  fn := fun _ => false
  calm := true
  pn := []
  xe := fun e s' => wpAny (model P w) (A.deeper (lamV L cs s.heap.objs.size f c')) (leaving (lamV L cs s.heap.objs.size f c') e) (fun _ s'' => L2.CX P w outer H s E e s'') (fun e' s'' => L2.CX P w outer H s E e' s'') s'
section
variable {P : Program} {w : World} {K : PySem.W.Frag} {mg : Str → Option Value} {base : Heap} {N : List Str} {L : LamI} {cs : List (Str × Addr)} {f c' : Addr} {A : Around} {outer : List Env} {s : Shared} {H : Hp} {E : XK}
theorem lamC_start {σ : L2.St} {h₁ : Heap} {tk : Nat} (e0 : Env0 P w K mg base A outer s H) (hd : A.handled = none) (ok : LamN L.scope (cs.map (·.1))) (inj : ∀ (x y : Str) (c : Addr), cs.lookup x = some c → cs.lookup y = some c → x = y)
    (hc : ∀ (x : Str) (c : Addr), cs.lookup x = some c → H c = none ∧ ∃ v, s.heap.IsCell c v) (hl : σ.length = N.length)
    (hσ : ∀ (i : Nat) (x : Str) (v : V), N[i]? = some x → σ[i]? = some (some v) → ∃ c u, cs.lookup x = some c ∧ RelV v u ∧ s.heap.IsCell c (some u))
    (hns : h₁.Ns s.heap.objs.size fun y => ([] : List (Str × Value)).reverse.lookup y) (kp : ∀ b o, s.heap.get? b = some o → h₁.get? b = some o) :
    Inv (lamC P w K mg base N L cs f c' A outer s H E) [] σ H { s with heap := h₁, toks := tk } := by
  have noA : ∀ b : Addr, b ∉ (lamC P w K mg base N L cs f c' A outer s H E).ex := fun b z => absurd (show b ∈ ([] : List Addr) from z) (by simp)
  have ck : ∀ {c : Addr} {v : Option Value}, s.heap.IsCell c v → h₁.IsCell c v := fun ⟨o, ho, hd⟩ => ⟨o, kp _ _ ho, hd⟩
  refine ⟨⟨e0.mod, ok.kind, rfl, rfl, Nat.le_refl _, inj, fun y hy => ?_, fun y c z _ => ?_, fun _ => hd, Around.frames_deeper e0.frames, .inr ⟨rfl, rfl⟩, fun b z => absurd z (noA b), e0.bs, e0.bsz, fun b _ _ => noA b,
      fun b z => absurd z (noA b), e0.funs, e0.frf⟩,
    rfl, e0.bare, Un.kept kp, ⟨_, hns, fun i y v e1 e2 e3 => ?_⟩, fun y c e => ?_, e0.hok.fresh (Nat.le_refl _), fun y c e => (hc y c e).1, fun q hq => absurd (show q ∈ ([] : List (Addr × Obj)) ++ [] from hq) (by simp), e0.hok.kept kp, hl⟩
  · have hy : L.scope.names.lookup y = some .cell ∨ L.scope.names.lookup y = some .free := hy
    rcases hy with hy | hy
    · exact absurd rfl (ok.own _ (PySem.mem_of_lookup hy)).2
    · have m := ok.free _ (PySem.mem_of_lookup hy) rfl
      obtain ⟨p, hp, rfl⟩ := List.mem_map.mp m
      exact L2.mem_lookup (l := cs) (n := p.1) (c := p.2) hp
  · have z : false = true := z
    cases z
  · have e3 : Vis L.scope y := e3
    obtain ⟨c, u, h1, h2, h3⟩ := hσ i y v e1 e2
    rcases e3 with k | k | k
    · exact absurd rfl (ok.own _ (PySem.mem_of_lookup k)).1
    · exact absurd rfl (ok.own _ (PySem.mem_of_lookup k)).2
    · exact ⟨u, h2, .inr ⟨.inr k, c, h1, ck h3⟩⟩
  · obtain ⟨_, v, z⟩ := hc y c e
    exact ⟨v, ck z⟩
theorem lookup_ix : ∀ {cs : List (Str × Addr)} {i : Nat} {x : Str} {c : Addr}, (cs.map (·.1)).Nodup → cs[i]? = some (x, c) → cs.lookup x = some c
  | [], _, _, _, _, h => by simp at h
  | (y, d) :: r, 0, x, c, _, h => by
    simp at h
    obtain ⟨rfl, rfl⟩ := h
    simp [List.lookup]
  | (y, d) :: r, i + 1, x, c, nd, h => by
    simp only [List.map_cons, List.nodup_cons] at nd
    have h' : r[i]? = some (x, c) := by simpa using h
    have ne : x ≠ y := fun z => nd.1 (by rw [← z]; exact List.mem_map.mpr ⟨(x, c), List.mem_of_getElem? h', rfl⟩)
    rw [List.lookup_cons, show (x == y) = false from by simpa using ne]
    exact lookup_ix nd.2 h'
end
end DL

/-! D19: lambdas: made; called in the def that got it. -/
namespace DL
open PySem PySem.Spec PyProof.Rows L2

theorem upd_comm {H : Hp} {a b : Addr} {o u : HO} (h : a ≠ b) : upd (upd H a o) b u = upd (upd H b u) a o := by
  funext c
  unfold upd
  by_cases h1 : c = a
  · subst h1; simp [h]
  · simp [h1]
section
variable {X : Cx} {J : JX} {e : Expr} {es : List Expr} {ρ : Env'} {μ : Mu} {pos : Pos} {k : Nat}
/-- a lambda is made: its code object is new, or in the table; its function object is new -/
theorem dE_lam {n : Nat} {c P : Addr} {params : Arguments} {body : Expr} {scope : Scope} {Q : Dt → Mu → Prop} (TB : LamX.TabB X.base X.mg c P) (hcode : X.env.code = .ref c) (hk : μ[n]? = some (.tab n P (X.env.qual ++ "<lambda>"))) (LS : LamX.LamS X.env.scope scope)
    (q : Q (.clo ⟨X.env.qual ++ "<lambda>", params, body, scope⟩ (cloFrom X.env.cells scope.names [])) μ) (hdef : defaultsOf params X.env = ([], []) := by rfl) : dE X J (.Lambda params body scope pos) ρ μ Q := .mk fun as G H σ S pins s I => by
  have hfree := LS.has I.ok
  obtain ⟨P', o, e1, hP, ⟨e2, ps, rfl, ht, ha⟩, gP⟩ := S.mem.cell n _ hk (fun z => by cases z)
  rw [e1] at e2
  cases e2
  refine PySem.W.kla_eval hdef ?_
  have bP : s.heap.BuiltinsAt X.mg P := TB.bm.keeps I.bk
  have hPs : s.heap.get? P = some { cls := .none, data := .fields ps } := I.hok P _ hP
  -- the end: the function object is laid
  have fin : ∀ (H1 : Hp) (h' : Heap) (tk : Nat) (c' : Addr) (pm ctv : Value) (G1 : Hp), Inv X pins σ H1 { s with heap := h', toks := tk } → Step as G H as G1 H1 → Mem X.K as G1 H1 μ → G1 c' = some (LamX.CodeO c' (X.env.qual ++ "<lambda>")) →
      EP X pins σ (AfE X.K as G H Q) (.ref h'.objs.size) { s with heap := h'.push (PySem.W.kla_obj "<lambda>" (X.env.qual ++ "<lambda>") params body scope (cloFrom X.env.cells scope.names []) pm c' ctv), toks := tk } := by
    intro H1 h' tk c' pm ctv G1 I1 t1 m1 hc
    have hn : H1 h'.objs.size = none := I1.hok.fresh (Nat.le_refl _)
    have ob : ObjOk X.prog X.w (upd H1 h'.objs.size (xo h'.objs.size (PySem.W.kla_obj "<lambda>" (X.env.qual ++ "<lambda>") params body scope (cloFrom X.env.cells scope.names []) pm c' ctv)))
        (h'.push (PySem.W.kla_obj "<lambda>" (X.env.qual ++ "<lambda>") params body scope (cloFrom X.env.cells scope.names []) pm c' ctv)) h'.objs.size (xo h'.objs.size (PySem.W.kla_obj "<lambda>" (X.env.qual ++ "<lambda>") params body scope (cloFrom X.env.cells scope.names []) pm c' ctv)) :=
      ⟨Heap.get?_push_size _ rfl, ⟨_, Heap.get?_push_size _ rfl⟩, fun h1 h2 p st => st _ p⟩
    have I2 := I1.laid (t' := tk) (h' := h'.push (PySem.W.kla_obj "<lambda>" (X.env.qual ++ "<lambda>") params body scope (cloFrom X.env.cells scope.names []) pm c' ctv)) (fun b u z => Heap.get?_push_of_some _ z) (Nat.le_refl _) ob
    exact ⟨.ref h'.objs.size, _, I2, rfl, _, μ, as, _, t1.trans (.lay m1 hn), m1.lay hn, .clo (L := ⟨X.env.qual ++ "<lambda>", params, body, scope⟩) (pm := pm) (ctv := ctv) (c' := c') upd_same (same_upd_none (m1.same.free hn) _ _ hc), q⟩
  cases hc : codeAmong pos ps.toList with
  | none =>
    refine PySem.W.kla_makeFunction (mg := X.mg) (c := c) (P := P) (ps := ps) (closure_ok hfree) I.ok.glob (I.mod.glob.keeps I.bk) hcode (TB.code.keeps I.bk) hPs ht hc TB.gP bP fun c' ctv h' tk hx hge hlt hrec htb => ?_
    obtain ⟨c2, oc, vs, t, e2, hoc, hd, hv⟩ := hrec
    cases e2
    have nC : H c' = none := I.hok.fresh hge
    have nPc : P ≠ c' := ne_of_none hP nC
    have I1 := LamX.inv_table (t' := tk) (more := #[rawInt pos.line, rawInt pos.col, .ref c']) (h' := h') I hP (fun b o hb e => hx b o hb e) htb hge ⟨oc, vs, t, hoc, hd, hv⟩
    rw [upd_comm nPc] at I1
    have m1 := S.mem.lay (o := LamX.CodeO c' (X.env.qual ++ "<lambda>")) nC
    have eL : (ps ++ #[rawInt pos.line, rawInt pos.col, .ref c']).toList = ps.toList ++ [rawInt pos.line, rawInt pos.col, .ref c'] := by simp
    have m2 := m1.put (mo := .tab n P (X.env.qual ++ "<lambda>")) (o := .tbl (ps ++ #[rawInt pos.line, rawInt pos.col, .ref c'])) e1 hk (fun z => by cases z) ⟨e1, _, rfl, by rw [eL]; exact PySem.TriplesOk_snoc _ _ _ _ ht, fun p' cv hcv => by
      rw [eL] at hcv
      rcases LamX.among_app _ ht hcv with z | z
      · obtain ⟨c0, z1, z2⟩ := ha p' cv z
        exact ⟨c0, z1, same_upd_none (S.mem.same.free nC) _ _ z2⟩
      · exact ⟨c', z, upd_same⟩⟩
    have eμ : μ.set n (.tab n P (X.env.qual ++ "<lambda>")) = μ := by
      apply List.ext_getElem?
      intro j
      by_cases hj : n = j
      · subst hj
        rw [List.getElem?_set_self (List.getElem?_eq_some_iff.mp hk).1, hk]
      · rw [List.getElem?_set_ne hj]
    rw [eμ] at m2
    exact fin _ h' tk c' _ ctv _ I1 ((Step.lay S.mem nC).trans (.put m1 e1)) m2 upd_same
  | some cv =>
    obtain ⟨c', e3, hco⟩ := ha pos cv hc
    subst e3
    refine PySem.W.kla_makeFunctionHit (mg := X.mg) (c := c) (P := P) (ps := ps) (closure_ok hfree) I.ok.glob (I.mod.glob.keeps I.bk) hcode (TB.code.keeps I.bk) hPs ht hc bP fun ctv h' tk hx hsz => ?_
    have I1 : Inv X pins σ H { s with heap := h', toks := tk } := I.kept fun b o e => hx b o e
    exact fin H h' tk c' _ ctv G I1 (.refl _ _ _) S.mem hco

/-- the cells at cs hold the data ds -/
def CellsD (μ : Mu) (cs : List (Str × Addr)) (ds : List Dt) : Prop := cs.length = ds.length ∧ ∀ (i : Nat) (x : Str) (c : Addr) (d : Dt), cs[i]? = some (x, c) → ds[i]? = some d → ∃ n oc, μ[n]? = some (Mo.cell n c oc d)
/-- a(): the lambda that the slot holds is run -/
theorem dE_act {L : LamI} {cs : List (Str × Addr)} {ds : List Dt} {i : Nat} {a : Str} {p1 p2 : Pos} {Q : Dt → Mu → Prop} (hN : X.N[i]? = some a) (hi : ρ[i]? = some (some (.clo L cs))) (ok : LamN L.scope (cs.map (·.1))) (nd : (cs.map (·.1)).Nodup)
    (inj : ∀ (x y : Str) (c : Addr), cs.lookup x = some c → cs.lookup y = some c → x = y) (hcd : CellsD μ cs ds) (mf : mfs ds = true)
    (hbind : ∀ (pm cv ctv : Value), bindArgs (PySem.W.kla_fn "<lambda>" L.qual L.params L.body L.scope cs pm cv ctv) ⟨[], []⟩ = pure [])
    (hr : Room (k + 1) X.A) (hg : X.A.guards = some [])
    (hbody : ∀ (f c' : Addr) (A : Around) (outer : List Env) (s : Shared) (H : Hp) (E : XK), Room k (A.deeper (lamV L cs s.heap.objs.size f c')) → A.guards = some [] →
      dE (lamC X.prog X.w X.K X.mg X.base (cs.map (·.1)) L cs f c' A outer s H E) (fun C fs _ => mff fs = true ∧ J C fs μ) L.body (ds.map some) [] fun d _ => d.mf = true ∧ Q d μ)
    (hv : Vis X.env.scope a := by first | exact Or.inl rfl | exact Or.inr (Or.inl rfl) | exact Or.inr (Or.inr rfl)) (hd : (a == ("__debug__" : Str)) = false := by decide) (hcl : (a == ("__classdict__" : Str)) = false := by decide) :
    dE X J (.Call (.Name a p1) [] [] p2) ρ μ Q := .mk fun as G H σ S pins s I => by
  obtain ⟨v0, e1, a1⟩ := S.sl.at_ i _ hi
  cases a1 with
  | clo hf hc =>
    rename_i f c' pm ctv
    refine wpAny_Call_Name_kw (thn ((pe_var (pos := p1) (i := i) hN hv hd hcl).run pins s σ H (fun v H1 => v = .ref f ∧ H1 = H) I ⟨.ref f, e1, rfl, rfl⟩) fun u s1 ⟨v, H1, I1, r1, q1⟩ => ?_)
    obtain ⟨ev, eH⟩ := q1
    subst ev
    rw [eH] at I1
    obtain rfl : u = Value.ref f := r1
    have hfH := S.mem.same _ _ hf
    have of1 := xo_ok I1.hok hfH
    refine PySem.W.callWith_F0 ⟨_, _, _, _, of1⟩ ?_
    obtain ⟨⟨oc, vs, t, hoc, hdc, hvc⟩, _, _⟩ := I1.hok c' _ (S.mem.same _ _ hc)
    have cell_ : ∀ p ∈ cs, ∃ oc v u, H p.2 = some (xo p.2 oc) ∧ oc.data = .cell (some u) ∧ RelV v u ∧ p.2 ∈ as ∧ G p.2 = none := fun p hp => by
      obtain ⟨j, hj⟩ := List.getElem?_of_mem hp
      have hlt : j < ds.length := by rw [← hcd.1]; exact (List.getElem?_eq_some_iff.mp hj).1
      obtain ⟨n, oc, hn⟩ := hcd.2 j p.1 p.2 ds[j] hj (List.getElem?_eq_getElem hlt)
      obtain ⟨a2, o2, z1, z2, ⟨z3, v, u, z4, z5, z6, z7⟩, z8⟩ := S.mem.cell n _ hn (fun z => by cases z)
      rw [z1] at z3
      cases z3
      subst z4
      exact ⟨oc, v, u, z2, z5, z6, List.mem_of_getElem? z1, z8⟩
    have xos : Xos H (cs.map (·.2)) := fun c hc => by
      obtain ⟨p, hp, rfl⟩ := List.mem_map.mp hc
      obtain ⟨oc, v, u, z, _⟩ := cell_ p hp
      exact ⟨oc, z⟩
    have sub : ∀ c ∈ cs.map (·.2), c ∈ as := fun c hc => by
      obtain ⟨p, hp, rfl⟩ := List.mem_map.mp hc
      obtain ⟨_, _, _, _, _, _, z, _⟩ := cell_ p hp
      exact z
    have gn : ∀ c ∈ cs.map (·.2), G c = none := fun c hc => by
      obtain ⟨p, hp, rfl⟩ := List.mem_map.mp hc
      obtain ⟨_, _, _, _, _, _, _, z⟩ := cell_ p hp
      exact z
    have nf : ∀ c ∈ cs.map (·.2), c ∉ frs X.stack := fun c hc hm => by
      obtain ⟨oc, z⟩ := xos c hc
      rw [I1.stkFree c hm] at z
      cases z
    -- the values of the cells
    have vals : ∃ ws : List V, ws.length = ds.length ∧ Ats X.K [] G ws ds ∧ ∀ (j : Nat) (x : Str) (c : Addr) (v : V), cs[j]? = some (x, c) → ws[j]? = some v → ∃ u oc, RelV v u ∧ H c = some (xo c oc) ∧ oc.data = .cell (some u) := by
      have go : ∀ (cs : List (Str × Addr)) (ds : List Dt), CellsD μ cs ds → mfs ds = true → ∃ ws : List V, ws.length = ds.length ∧ Ats X.K [] G ws ds ∧ ∀ (j : Nat) (x : Str) (c : Addr) (v : V), cs[j]? = some (x, c) → ws[j]? = some v → ∃ u oc, RelV v u ∧ H c = some (xo c oc) ∧ oc.data = .cell (some u) := by
        intro cs
        induction cs with
        | nil =>
          intro ds h _
          cases ds with
          | nil => exact ⟨[], rfl, .nil, fun j x c v h1 _ => by simp at h1⟩
          | cons _ _ => exact absurd h.1 (by simp)
        | cons p r ih =>
          intro ds h mf
          cases ds with
          | nil => exact absurd h.1 (by simp)
          | cons d dr =>
            simp only [mfs, Bool.and_eq_true] at mf
            obtain ⟨ws, l, a, q⟩ := ih dr ⟨by have := h.1; simpa using this, fun i x c d h1 h2 => h.2 (i + 1) x c d (by simpa using h1) (by simpa using h2)⟩ mf.2
            obtain ⟨n, oc, hn⟩ := h.2 0 p.1 p.2 d rfl rfl
            obtain ⟨a2, o2, z1, z2, ⟨z3, v, u, z4, z5, z6, z7⟩, z8⟩ := S.mem.cell n _ hn (fun z => by cases z)
            rw [z1] at z3
            cases z3
            subst z4
            refine ⟨v :: ws, by simp [l], .cons (z7.free mf.1) a, fun j x c w h1 h2 => ?_⟩
            cases j with
            | zero =>
              simp at h1 h2
              subst h1 h2
              exact ⟨u, oc, z6, z2, z5⟩
            | succ j => exact q j x c w (by simpa using h1) (by simpa using h2)
      exact go cs ds hcd mf
    obtain ⟨ws, wl, wa, wq⟩ := vals
    have e0 : Env0 X.prog X.w X.K X.mg X.base X.A X.stack s1 (cut H (cs.map (·.2))) := by
      have e := I1.env0
      have cn : ∀ b, H b = none → cut H (cs.map (·.2)) b = none := fun b h => by
        unfold cut
        split
        · rfl
        · exact h
      exact ⟨e.frames, e.mod, fun b o z => ⟨(e.bs b o z).1, cn b (e.bs b o z).2⟩, e.bsz, e.funs, fun b hb => cn b (e.frf b hb), hok_cut e.hok xos, e.bare⟩
    have rc : codeAny (model X.prog X.w) X.A (.call (.ref f) ⟨[], []⟩) (CR (L2.CX X.prog X.w) X.stack X.prog X.w (cut H (cs.map (·.2))) s1 (AfE X.K [] G (cut H (cs.map (·.2))) fun d _ => d.mf = true ∧ Q d μ)
        (fun cls d H' => WJ X.K (fun C fs _ => mff fs = true ∧ J C fs μ) [] G (cut H (cs.map (·.2))) cls d H')) s1 := by
      refine PySem.W.kla_callFunE hr.depth of1 rfl ok.co ok.gen rfl ⟨c', oc, vs, t, rfl, hoc, hdc, hvc⟩ ?_
      rw [hbind]
      refine wpAny_pure (wpAny_newFunctionEnv (fun y hy => (ok.own y hy).2) (fun y hy => absurd hy (by simp)) (fun h₁ hns hsb => ⟨I1.nolimit.fresh _ hsb, ?_⟩) ok.kind)
      have kp : ∀ b o, s1.heap.get? b = some o → h₁.get? b = some o := fun b o e => hsb.extBut b o (Nat.ne_of_lt (Heap.lt_size e)) (Heap.get?_push_of_some _ e)
      show codeAny _ _ (.expr L.body (lamV L cs s1.heap.objs.size f c')) _ _
      have sl : Slots X.K [] G (ws.map some) (ds.map some) := ⟨by simp [wl], fun j d hj => by
        rw [List.getElem?_map] at hj
        cases hd : ds[j]? with
        | none => rw [hd] at hj; cases hj
        | some d' =>
          rw [hd] at hj
          cases hj
          obtain ⟨x, hx, ax⟩ := wa.got hd
          exact ⟨x, by rw [List.getElem?_map, hx]; rfl, ax⟩⟩
      have J0 : Inv (lamC X.prog X.w X.K X.mg X.base (cs.map (·.1)) L cs f c' X.A X.stack s1 (cut H (cs.map (·.2))) (fun cls d H' => WJ X.K (fun C fs _ => mff fs = true ∧ J C fs μ) [] G (cut H (cs.map (·.2))) cls d H')) [] (ws.map some) (cut H (cs.map (·.2))) { s1 with heap := h₁, toks := s1.toks + ([] : List (Str × Value)).length } := by
        refine lamC_start e0 hr.hd ok inj (fun x c hx => ?_) (by simp [wl, hcd.1]) (fun j x v hj hv => ?_) hns kp
        · have hm := PySem.mem_of_lookup hx
          obtain ⟨oc, v, u, z1, z2, _⟩ := cell_ _ hm
          exact ⟨cut_in (List.mem_map.mpr ⟨_, hm, rfl⟩), some u, oc, xo_ok I1.hok z1, z2⟩
        · rw [List.getElem?_map] at hj hv
          cases hcj : cs[j]? with
          | none => rw [hcj] at hj; cases hj
          | some p =>
            rw [hcj] at hj
            cases hj
            cases hwj : ws[j]? with
            | none => rw [hwj] at hv; cases hv
            | some v' =>
              rw [hwj] at hv
              cases hv
              obtain ⟨u, oc, z1, z2, z3⟩ := wq j p.1 p.2 v hcj hwj
              exact ⟨p.2, u, lookup_ix nd hcj, z1, oc, xo_ok I1.hok z2, z3⟩
      have tk : TakesD (lamC X.prog X.w X.K X.mg X.base (cs.map (·.1)) L cs f c' X.A X.stack s1 (cut H (cs.map (·.2))) (fun cls d H' => WJ X.K (fun C fs _ => mff fs = true ∧ J C fs μ) [] G (cut H (cs.map (·.2))) cls d H')) (fun C fs _ => mff fs = true ∧ J C fs μ) [] G (cut H (cs.map (·.2))) :=
        Takes.imp (takes_of rfl rfl rfl rfl) fun cls d σ H' z => z
      have mem0 : Mem X.K [] G (cut H (cs.map (·.2))) [] := ⟨fun b o z => by
        by_cases hb : b ∈ cs.map (·.2)
        · rw [gn b hb] at z; cases z
        · rw [cut_out hb]; exact S.mem.same b o z, rfl, fun k mo hk => by simp at hk, List.nodup_nil, fun a h => by simp at h⟩
      refine PySem.W.kla_codeExpr (wpAny_mono ((hbody f c' X.A X.stack s1 (cut H (cs.map (·.2))) _ (hr.deeper _) hg) [] G _ (ws.map some) ⟨mem0, sl, tk⟩ [] _ J0) (fun v s' hq => ?_) fun e s' hq => hq)
      obtain ⟨w', H', J', rv, q⟩ := hq
      exact ⟨w', H', J'.os, J'.bare, J'.base, J'.hok, rv, q⟩
    refine wpAny_call (codeAny_mono rc fun r s' hq => ?_)
    cases r with
    | error e =>
      refine passAt S.tk σ pins H s1 e s' I1 ?_
      have z := cx_glue hq xos I1.hok nf
      obtain ⟨a, B, H', cls, d, q1, q2, q3, q4, q5, q6, q7, H0, rfl, n0, w0⟩ := z
      refine ⟨a, B, _, cls, d, q1, q2, q3, q4, q5, q6, q7, ?_⟩
      obtain ⟨C, as', G', μ', gs, z1, t, m', fz, mg, jj⟩ := w0
      obtain ⟨t2, m2⟩ := lift_cut S.mem sub gn t m'.same n0
      refine ⟨C, as, G', μ, gs, z1, t2, m2, ?_, jj⟩
      rcases fz with z | ⟨dd, fs, e1, e2, e3⟩
      · exact .inl z
      · exact .inr ⟨dd, fs, e1, e2, e3.free mg⟩
    | ok fl =>
      cases fl with
      | ret u =>
        have z := ce_glue hq xos I1.hok nf
        obtain ⟨v, H', q1, q2, q3, q4, q5, H0, rfl, n0, d, μ', as', G', t, m', a', md, q⟩ := z
        obtain ⟨t2, m2⟩ := lift_cut S.mem sub gn t m'.same n0
        exact I1.after ⟨v, _, q1, q2, q3, q4, q5, d, μ, as, G', t2, m2, a'.free md, q⟩
      | next => exact False.elim hq
      | brk => exact False.elim hq
      | cont => exact False.elim hq
end
end DL

/-! D20: lambdas: a callee that is handed the cells; the head of a law that makes lambdas. -/
namespace DL
open PySem PySem.Spec PyProof.Rows L2

/-- the cells as a callee's mutable objects -/
def cellMu (g : Addr → Obj) : Nat → List (Addr × Dt) → Mu
  | _, [] => []
  | n, (c, d) :: r => .cell n c (g c) d :: cellMu g (n + 1) r
theorem cellMu_get {g : Addr → Obj} : ∀ {cl : List (Addr × Dt)} {n j : Nat}, (cellMu g n cl)[j]? = (cl[j]?).map fun p => Mo.cell (n + j) p.1 (g p.1) p.2
  | [], _, _ => by simp [cellMu]
  | (c, d) :: r, n, 0 => by simp [cellMu]
  | (c, d) :: r, n, j + 1 => by
    simp only [cellMu, List.getElem?_cons_succ]
    rw [cellMu_get]
    congr 1
    funext p
    rw [show n + 1 + j = n + (j + 1) from by omega]
theorem cellMu_length {g : Addr → Obj} : ∀ {cl : List (Addr × Dt)} {n : Nat}, (cellMu g n cl).length = cl.length
  | [], _ => rfl
  | (c, d) :: r, n => by simp [cellMu, cellMu_length]
/-- the callee's wish: it gives the cells back as they were -/
def CallsC (R : Spc) (cl : List (Addr × Dt)) (ds : List Dt) (μ : Mu) (Q : Dt → Mu → Prop) : Prop :=
  mfs ds = true ∧ ∀ g : Addr → Obj, R ds (cellMu g 0 cl) (fun d μ' => d.mf = true ∧ (∀ j, j < cl.length → μ'[j]? = (cellMu g 0 cl)[j]?) ∧ Q d μ) J0
section
variable {X : Cx} {J : JX} {e : Expr} {es : List Expr} {ρ : Env'} {μ : Mu} {pos : Pos} {k : Nat} {ps : List Str} {R : Spc}
theorem dE_cells {cl : List (Addr × Dt)} {x : Str} {p : Pos} {Q : Dt → Mu → Prop} (F : DefP X.prog X.w X.K X.mg X.base k x ps R) (hr : Room k X.A) (hgd : X.A.guards = some [])
    (hcl : ∀ t ∈ cl, t.2.mf = true ∧ ∃ (i : Nat) (y : Str), X.N[i]? = some y ∧ ρ[i]? = some (some t.2) ∧ X.env.scope.names.lookup y = some .cell ∧ X.env.cells.lookup y = some t.1 ∧ X.fn y = true) (nd : (cl.map (·.1)).Nodup)
    (h : dA X J (e :: es) ρ μ fun ds μ1 => CallsC R cl ds μ1 Q)
    (hg : Gl X x := by rfl) (hdb : (x == ("__debug__" : Str)) = false := by decide) (he : starEach (e :: es) X.env = (false, eval e X.env) :: starEach es X.env := by rfl) (hpl : (backTo pos (starEach es X.env)).any (·.1) = false := by rfl) :
    dE X J (.Call (.Name x p) (e :: es) [] pos) ρ μ Q := .mk fun as G H σ S pins s I => by
  obtain ⟨f, fd, F, hm, hk, hb⟩ := F.ex
  refine wpAny_Call_Name_kw (ld_glob I hg hm ?_ hdb)
  refine PySem.W.callWith_K (h₀ := X.base) I.ok.mod.kin hk (thn (h as G H σ S pos pins s I) fun us s1 ⟨vs, H1, I1, r, ds, μ1, as1, G1, t, m, av, mfd, q⟩ => ⟨I1.kIn, ?_⟩) he hpl
  -- what is known of the cells
  have inf : ∀ t ∈ cl, ∃ oc v u, s1.heap.get? t.1 = some oc ∧ oc.data = .cell (some u) ∧ RelV v u ∧ At X.K as1 G1 v t.2 ∧ H1 t.1 = none ∧ t.1 ∉ frs X.stack ∧ X.s_0.heap.objs.size ≤ t.1 := fun tt ht => by
    obtain ⟨_, i, y, z1, z2, z3, z4, z5⟩ := hcl tt ht
    obtain ⟨v, e1, a1⟩ := S.sl.at_ i _ z2
    obtain ⟨mm, hn, hl⟩ := I1.loc
    obtain ⟨u, rv, lk⟩ := hl i y v z1 e1 (.inr (.inl z3))
    have hc := I1.freeC y tt.1 z4
    have cab := I1.ok.cab y tt.1 z5 z4
    have nf : tt.1 ∉ frs X.stack := fun hm => by
      rcases List.mem_cons.mp (I1.stkSub _ hm) with e | e
      · exact I1.cne y tt.1 z4 e
      · obtain ⟨_, o, ho, _⟩ := I1.ok.funs.mem e
        exact absurd (Nat.lt_of_lt_of_le (Heap.lt_size ho) cab) (Nat.lt_irrefl _)
    rcases lk with ⟨k', _⟩ | ⟨_, c3, e', oc, ho, hd⟩
    · have k' : X.env.scope.names.lookup y = some .local := k'
      rw [z3] at k'
      cases k'
    · rw [z4] at e'
      cases e'
      exact ⟨oc, v, u, ho, hd, rv, a1.mono t.gg t.ix, hc, nf, cab⟩
  let g : Addr → Obj := fun c => (s1.heap.get? c).getD { cls := .none, data := .plain }
  have gg : ∀ c oc, s1.heap.get? c = some oc → g c = oc := fun c oc e => by simp [g, e]
  let xs := cl.map (·.1)
  have inx : ∀ c ∈ xs, s1.heap.get? c = some (g c) ∧ H1 c = none ∧ c ∉ frs X.stack ∧ X.s_0.heap.objs.size ≤ c := fun c hc => by
    obtain ⟨tt, ht, rfl⟩ := List.mem_map.mp hc
    obtain ⟨oc, v, u, z1, z2, z3, z4, z5, z6, z7⟩ := inf tt ht
    exact ⟨by rw [gg _ _ z1]; exact z1, z5, z6, z7⟩
  let Hw : Hp := fun b => if b ∈ xs then some (xo b (g b)) else H1 b
  have win : ∀ {b}, b ∈ xs → Hw b = some (xo b (g b)) := fun hb => if_pos hb
  have wout : ∀ {b}, b ∉ xs → Hw b = H1 b := fun hb => if_neg hb
  have tno : ∀ b u, H1 b = some u → b ∉ xs := fun b u e z => by
    rw [(inx b z).2.1] at e
    cases e
  have gno : ∀ c ∈ xs, G1 c = none := fun c hc => m.same.free (inx c hc).2.1
  have e0 : Env0 X.prog X.w X.K X.mg X.base X.A X.stack s1 Hw := by
    have e := I1.env0
    refine ⟨e.frames, e.mod, fun b o z => ⟨(e.bs b o z).1, ?_⟩, e.bsz, e.funs, fun b hb => ?_, fun b u z => ?_, e.bare⟩
    · rw [wout fun hb => absurd (Nat.lt_of_lt_of_le (Nat.lt_of_lt_of_le (Heap.lt_size z) I1.ok.bsz) (inx b hb).2.2.2) (Nat.lt_irrefl _)]
      exact (e.bs b o z).2
    · rw [wout fun hx => (inx b hx).2.2.1 hb]
      exact e.frf b hb
    · by_cases hb : b ∈ xs
      · rw [win hb] at z
        cases z
        exact ⟨(inx b hb).1, ⟨_, (inx b hb).1⟩, fun h1 h2 p st => st _ p⟩
      · rw [wout hb] at z
        exact (e.hok b u z).stay (fun _ _ _ q => q) (fun b q => by rw [wout (tno _ _ q)]; exact q) (fun b ys q => by rw [wout (tno _ _ q)]; exact q)
  have mw : Mem X.K xs G1 Hw (cellMu g 0 cl) := by
    refine ⟨fun b o z => ?_, by simp [xs, cellMu_length], fun j mo hj hgone => ?_, nd, fun a ha => by rw [win ha]; simp⟩
    · rw [wout fun hb => by rw [gno b hb] at z; cases z]
      exact m.same b o z
    · rw [cellMu_get] at hj
      cases hc : cl[j]? with
      | none => rw [hc] at hj; cases hj
      | some tt =>
        rw [hc] at hj
        cases hj
        have ht := List.mem_of_getElem? hc
        have hx : xs[j]? = some tt.1 := by
          show (cl.map (·.1))[j]? = _
          rw [List.getElem?_map, hc]
          rfl
        obtain ⟨oc, v, u, z1, z2, z3, z4, z5, z6, z7⟩ := inf tt ht
        refine ⟨tt.1, _, hx, win (List.mem_of_getElem? hx), ⟨by rw [Nat.zero_add]; exact hx, v, u, rfl, by rw [gg _ _ z1]; exact z2, z3, z4.free (hcl tt ht).1⟩, gno _ (List.mem_of_getElem? hx)⟩
  have sp : spD X.K R vs Hw (AfE X.K xs G1 Hw fun d μ' => d.mf = true ∧ (∀ j, j < cl.length → μ'[j]? = (cellMu g 0 cl)[j]?) ∧ Q d μ1) (fun _ _ _ => False) :=
    ⟨xs, G1, ds, _, _, _, mw, av.free mfd, q g, fun _ _ z => z, fun cls d H' ⟨_, _, _, _, _, _, _, _, _, j⟩ => j⟩
  have hl : us.length = ps.length := by
    rw [← r.length, av.length]
    exact F.len _ _ _ _ (q g)
  have b0 := hb s1 us I1.kIn (by rw [List.append_nil]; exact hl)
  rw [List.append_nil] at b0
  refine wpAny_call (codeAny_mono (F.run X.A X.stack s1 Hw ⟨us, []⟩ us vs _ _ hr hgd e0 b0 r sp) fun r s' hq => ?_)
  cases r with
  | error e =>
    obtain ⟨_, _, _, _, _, _, _, _, _, _, _, _, z⟩ := hq
    exact z.elim
  | ok fl =>
    cases fl with
    | next => exact False.elim hq
    | brk => exact False.elim hq
    | cont => exact False.elim hq
    | ret u =>
      obtain ⟨v, H', os, bare, un, hok', rv, d, μ', as', G', t', m', a', md, hkeep, qq⟩ := hq
      have back : ∀ c ∈ xs, H' c = some (xo c (g c)) ∧ G' c = none := fun c hc => by
        obtain ⟨j, hj⟩ := List.getElem?_of_mem hc
        have hj2 : (cl.map (·.1))[j]? = some c := hj
        rw [List.getElem?_map] at hj2
        cases hcj : cl[j]? with
        | none => rw [hcj] at hj2; cases hj2
        | some tt =>
          rw [hcj] at hj2
          cases hj2
          have hm := hkeep j (List.getElem?_eq_some_iff.mp hcj).1
          rw [cellMu_get, hcj] at hm
          obtain ⟨a2, o2, y1, y2, ⟨y3, v2, u2, y4, _⟩, y8⟩ := m'.cell j _ hm (fun z => by cases z)
          rw [t'.ix j _ hj] at y1
          cases y1
          subst y4
          exact ⟨y2, y8⟩
      have hw1 : ∀ b, H1 b = none → b ∉ xs → Hw b = none := fun b n hb => by rw [wout hb]; exact n
      have fr : ∀ b o, G' b = some o → G1 b = some o ∨ H1 b = none := fun b o e => by
        rcases t'.fr b o e with z | z | z
        · exact .inl z
        · by_cases hb : b ∈ xs
          · exact .inr (inx b hb).2.1
          · rw [wout hb] at z
            exact .inr z
        · exact .inr (inx b z).2.1
      have hh : ∀ b o, H1 b = some o → cut H' xs b = some o := fun b o e => by
        have nb := tno b o e
        rw [cut_out nb]
        exact t'.hh b o (by rw [wout nb]; exact e) nb
      have ho : ∀ b, H1 b ≠ none → cut H' xs b ≠ none := fun b e => by
        cases q : H1 b with
        | none => exact absurd q e
        | some o => rw [hh b o q]; simp
      have T : Step as1 G1 H1 as1 G' (cut H' xs) := ⟨⟨[], by simp⟩, t'.gg, fun b o e _ => hh b o e, ho, fun b o e => (fr b o e).elim .inl fun z => .inr (.inl z), fun a ha => .inl ha⟩
      have M : Mem X.K as1 G' (cut H' xs) μ1 := by
        refine ⟨fun b o e => ?_, m.len, fun j mo hj hgone => ?_, m.nd, fun a ha => ho a (m.ne a ha)⟩
        · rw [cut_out fun hb => by rw [(back b hb).2] at e; cases e]
          exact m'.same b o e
        · obtain ⟨a, o, h1, h2, h3, h4⟩ := m.cell j mo hj hgone
          refine ⟨a, o, h1, hh a o h2, h3.mono t'.gg (fun _ _ h => h), ?_⟩
          cases q : G' a with
          | none => rfl
          | some u =>
            rcases fr a u q with z | z
            · rw [h4] at z; cases z
            · rw [h2] at z; cases z
      have U : Un (frs X.stack) [] H1 (cut H' xs) s1.heap s'.heap := by
        have at_ : ∀ b o, s1.heap.get? b = some o → b ∈ xs → s'.heap.get? b = some o := fun b o e hb => by
          have z := xo_ok hok' (back b hb).1
          rw [(inx b hb).1] at e
          cases e
          exact z
        refine ⟨fun b o e n hb hx => ?_, fun b o e n hb hx => ?_, fun b o e n hx => ?_, un.there, fun b ys q => ?_, fun b o v q => ?_, fun b ps q => ?_⟩
        · by_cases hbx : b ∈ xs
          · exact at_ b o e hbx
          · exact un.keep b o e (hw1 b n hbx) hb hx
        · by_cases hbx : b ∈ xs
          · exact ⟨o.slots, at_ b o e hbx⟩
          · exact un.slot b o e (hw1 b n hbx) hb hx
        · by_cases hbx : b ∈ xs
          · exact cut_in hbx
          · rw [cut_out hbx]
            exact un.free b o e (hw1 b n hbx) hx
        · have nb := tno b _ q
          rw [cut_out nb]
          exact un.tups b ys (by rw [wout nb]; exact q)
        · have nb := tno b _ q
          rw [cut_out nb]
          exact un.frzs b o v (by rw [wout nb]; exact q)
        · have nb := tno b _ q
          rw [cut_out nb]
          exact un.tbls b ps (by rw [wout nb]; exact q)
      have fin := I1.after (Q := AfE X.K as1 G1 H1 Q) ⟨v, cut H' xs, os, bare, U, hok_cut hok' (fun c hc => ⟨_, (back c hc).1⟩), rv, d, μ1, as1, G', T, M, a'.free md, qq⟩
      obtain ⟨v', H2, I2, rv', q2⟩ := fin
      exact ⟨v', H2, I2, rv', q2.back t⟩
end

/-! ### the head of a law that makes lambdas -/
theorem run_lawT {P : Program} {w : World} {K : PySem.W.Frag} {mg mb : Str → Option Value} {k : Nat} {fa a c T : Addr} {fd : FuncData} {x q : Str} {R : Spc} {s₁ : Shared} {vs : List Value} {ns : List Int}
    (KX : K.In s₁.heap) (gl : s₁.heap.Ns mainGlobals mg) (bl : s₁.heap.Ns builtinsNs mb) (bb : ∀ x : Str, x ≠ "__name__" → mb x = bootBuiltins x) (lim : s₁.heap.NoLimit) (gens : s₁.gens = #[])
    (hT : s₁.heap.get? T = some { cls := .none, data := .fields #[] }) (nT : K.lookup T = none) (C : PySem.W.CodeHd s₁.heap c T)
    (hbm : ∃ (bm : Addr) (ob : Obj), mg "__builtins__" = some (.ref bm) ∧ bm ≠ builtinsNs ∧ s₁.heap.get? bm = some ob ∧ ob.cls = .type "module" ∧ ob.dict = some builtinsNs ∧ ob.data = .plain)
    (at_ : s₁.heap.get? a = some { cls := .type "list", data := .seq vs.toArray }) (isInts : IntsAre vs ns) (few : ns.length ≤ sizeLine) (room : Room k callerA)
    (F : ∀ base : Heap, K.In base → base.Ns mainGlobals mg → LamX.TabB base mg c T → FnG P w K mg base k fa fd [x] R) (bind : ∀ (s : Shared) (u : Value), BindsTo s fd ⟨[u], []⟩ [(x, u)])
    (hR : R [.lst (ns.map .int)] [.tab 0 T q] (fun d _ => d = .bl true) J0) :
    codeAny (model P w) callerA (.call (.ref fa) ⟨[.ref a], []⟩) (fun r s' => r = .ok (.ret (.bool true)) ∧ OldK s₁.heap s'.heap ∧ s'.os = s₁.os ∧ AllBare s'.gens) s₁ := by
  have rv := vals_ints isInts
  have aT : a ≠ T := fun z => by
    rw [z, hT] at at_
    cases at_
  have go : ∀ H : Hp, H T = some (.tbl #[]) → (∀ b u, H b = some u → b = T ∨ b = a ∧ K.lookup a = none ∧ ∃ o xs, u = .frz o (.lst xs)) → SqL K (fun b => if b = T then none else H b) a (ns.map V.int) → HOk P w H s₁.heap →
      codeAny (model P w) callerA (.call (.ref fa) ⟨[.ref a], []⟩) (fun r s' => r = .ok (.ret (.bool true)) ∧ OldK s₁.heap s'.heap ∧ s'.os = s₁.os ∧ AllBare s'.gens) s₁ := by
    intro H HT only sq hok
    have free : ∀ {b : Addr} {o : Obj}, s₁.heap.get? b = some o → (b ≠ a ∨ K.lookup a ≠ none) → o.data ≠ .fields #[] → H b = none := fun {b o} e h h2 => by
      cases q : H b with
      | none => rfl
      | some u =>
        rcases only b u q with z | ⟨e1, e2, _⟩
        · rw [z, hT] at e
          cases e
          exact absurd rfl h2
        · rcases h with h | h
          · exact absurd e1 h
          · exact absurd e2 h
    have noD : ∀ {b : Addr} {o : Obj}, s₁.heap.get? b = some o → (∀ vs n, o.data ≠ .seq vs n) → o.data ≠ .fields #[] → H b = none := fun {b o} e h1 h2 => free e (.inl fun z => by
      rw [z, at_] at e
      cases e
      exact h1 _ _ rfl) h2
    have ns_ : ∀ {b : Addr} {m : Str → Option Value}, s₁.heap.Ns b m → (hidT s₁.heap H).Ns b m := fun {b m} ⟨o, es, ep, e, d, r⟩ => ⟨o, es, ep, hidT_get e (noD e (fun vs n z => by rw [d] at z; cases z) fun z => by rw [d] at z; cases z), d, r⟩
    have kin : K.In (hidT s₁.heap H) := fun b o e => hidT_get (KX b o e) (by
      cases q : H b with
      | none => rfl
      | some u =>
        rcases only b u q with z | ⟨e1, e2, _⟩
        · rw [z, nT] at e; cases e
        · rw [e1, e2] at e; cases e)
    have md : Mod K mg (hidT s₁.heap H) := ⟨kin, ns_ gl, ⟨mb, ns_ bl, bb⟩, let ⟨mc, h1, h2⟩ := lim; ⟨mc, ns_ h1, h2⟩⟩
    have TB : LamX.TabB (hidT s₁.heap H) mg c T := by
      refine ⟨?_, ?_, fun z => ?_⟩
      · obtain ⟨o, us, file, tf, flags, tg, inF, text, tt, e1, r1, r2, r3, r4, r5, r6, r7, r8, hne⟩ := C
        refine ⟨o, us, file, tf, flags, tg, inF, text, tt, hidT_get e1 (noD e1 (fun vs n z => ?_) fun z => ?_), r1, r2, r3, r4, r5, r6, r7, r8, hne⟩
        · rw [r2] at z
          cases z
        · rw [r2] at z
          cases z
          simp at r3
      · obtain ⟨bm, ob, b1, b2, b3, b4, b5, b6⟩ := hbm
        have nG : bm ≠ mainGlobals := fun q => by
          obtain ⟨o, es, ep, e, hd, _⟩ := gl
          rw [q, e] at b3
          cases b3
          rw [hd] at b6
          cases b6
        have nP : bm ≠ T := fun q => by
          rw [q, hT] at b3
          cases b3
          cases b6
        refine ⟨bm, ob, b1, b2, nG, nP, hidT_get b3 (noD b3 (fun vs n z => ?_) fun z => ?_), b4, b5, b6⟩
        · rw [b6] at z
          cases z
        · rw [b6] at z
          cases z
      · obtain ⟨o, es, ep, e, hd, _⟩ := gl
        rw [z, hT] at e
        cases e
        cases hd
    have e0 : Env0 P w K mg (hidT s₁.heap H) callerA [] s₁ H := ⟨rfl, md, fun b o e => of_hidT e, Nat.le_of_eq (hidT_size _ _), trivial, fun b hb => absurd (show b ∈ ([] : List Addr) from hb) (by simp), hok, .of_eq gens⟩
    have sp : spD K R [.ref a] H (fun v _ => v = .bl true) (fun _ _ _ => False) := by
      refine ⟨[T], fun b => if b = T then none else H b, [.lst (ns.map .int)], [.tab 0 T q], _, _, ⟨fun b o e => ?_, rfl, fun k m h hg => ?_, by simp, fun a h => ?_⟩, .cons (.lst sq (ats_ints ns)) .nil, hR, ?_, ?_⟩
      · by_cases hb : b = T
        · rw [if_pos hb] at e; cases e
        · rw [if_neg hb] at e; exact e
      · have hk : k = 0 := by
          have := (List.getElem?_eq_some_iff.mp h).1
          simpa using this
        subst hk
        simp at h
        subst h
        exact ⟨T, _, rfl, HT, ⟨rfl, #[], rfl, True.intro, fun pos cv hc => by
          have z : codeAmong pos [] = some cv := hc
          simp [codeAmong] at z⟩, if_pos rfl⟩
      · have : a = T := by simpa using h
        subst this
        rw [HT]
        simp
      · rintro v H' ⟨d, μ', as', G', t, m', a', q⟩
        subst q
        cases a'
        rfl
      · rintro cls d H' ⟨_, _, _, _, _, _, _, _, _, j⟩
        exact j.elim
    refine codeAny_mono ((F _ kin (ns_ gl) TB).run callerA [] s₁ H ⟨[.ref a], []⟩ [.ref a] [.ref a] _ _ room rfl e0 (bind s₁ (.ref a)) (.cons rfl .nil) sp) fun r s' h => ?_
    cases r with
    | error e =>
      obtain ⟨_, _, _, _, _, _, _, _, _, _, _, _, z⟩ := h
      exact z.elim
    | ok fl =>
      cases fl with
      | next => exact False.elim h
      | brk => exact False.elim h
      | cont => exact False.elim h
      | ret u =>
        obtain ⟨v, H', os, bare, un, hok', r', q⟩ := h
        have q' : v = .bl true := q
        subst q'
        obtain rfl : u = Value.bool true := r'
        have key : ∀ b o, b ≠ T → s₁.heap.get? b = some o → s'.heap.get? b = some o := fun b o nb e => by
          cases z : H b with
          | none => exact un.keep b o e z (fun y => absurd (show b ∈ ([] : List Addr) from y) (by simp)) (by simp)
          | some u =>
            rcases only b u z with z' | ⟨_, _, ob, xs, rfl⟩
            · exact absurd z' nb
            · obtain ⟨e1, _⟩ := hok b _ z
              obtain ⟨e2, _⟩ := hok' b _ (un.frzs b ob _ z)
              rw [e] at e1
              cases e1
              exact e2
        obtain ⟨more, zm⟩ := un.tbls T #[] HT
        have hm : s'.heap.get? T = some { cls := .none, data := .fields (#[] ++ more) } := hok' T _ zm
        refine ⟨rfl, ⟨fun b o e => ?_, fun b o e => ?_⟩, os, bare⟩
        · by_cases hb : b = T
          · rw [hb] at e ⊢
            rw [hT] at e
            cases e
            exact .inr (.inl ⟨(C.tab hT).isCodeTable, rfl, #[], more, rfl, hm⟩)
          · exact .inl (key b o hb e)
        · by_cases hb : b = T
          · rw [hb]
            exact ⟨_, hm⟩
          · exact ⟨o, key b o hb e⟩
  cases hk : K.lookup a with
  | some o =>
    have e := KX a o hk
    rw [at_] at e
    cases e
    refine go (oneH T (.tbl #[])) (if_pos rfl) (fun b u z => ?_) (.inr ⟨_, vs.toArray, _, hk, rfl, rfl, rfl, by rw [List.size_toArray, isInts.length]; exact few, by simpa using rv⟩) (fun b u z => ?_)
    · unfold oneH at z
      split at z
      · rename_i hb
        exact .inl hb
      · cases z
    · unfold oneH at z
      split at z
      · rename_i hb
        cases z
        rw [hb]
        exact hT
      · cases z
  | none =>
    refine go (fun b => if b = T then some (.tbl #[]) else oneH a (.frz { cls := .type "list", data := .seq vs.toArray } (.lst (ns.map V.int))) b) (if_pos rfl) (fun b u z => ?_) (.inl (.inr ⟨{ cls := .type "list", data := .seq vs.toArray }, ?_⟩)) (fun b u z => ?_)
    · by_cases hb : b = T
      · exact .inl hb
      · have z := (if_neg hb).symm.trans z
        unfold oneH at z
        split at z
        · rename_i hb2
          cases z
          exact .inr ⟨hb2, hk, _, _, rfl⟩
        · cases z
    · exact (if_neg aT).trans ((if_neg aT).trans (if_pos rfl))
    · by_cases hb : b = T
      · have z := (if_pos hb).symm.trans z
        cases z
        rw [hb]
        exact hT
      · have z := (if_neg hb).symm.trans z
        unfold oneH at z
        split at z
        · rename_i hb2
          cases z
          subst hb2
          exact ⟨at_, by rw [List.length_map]; exact few, vs, _, rv, at_⟩
        · cases z
end DL

/-! D21: calls to which all mutable objects go along; what a fault is told as; laws that make lambdas: their head. -/
namespace DL
open PySem PySem.Spec PyProof.Rows L2

section
variable {X : Cx} {J : JX} {e : Expr} {es : List Expr} {ρ : Env'} {μ : Mu} {pos : Pos} {k : Nat} {ps : List Str} {R : Spc}
/-- a call: all our mutable objects go along -/
theorem dE_goA {x : Str} {p : Pos} {Q : Dt → Mu → Prop} (F : DefP X.prog X.w X.K X.mg X.base k x ps R) (hr : Room k X.A) (hgd : X.A.guards = some []) (h : dA X J (e :: es) ρ μ fun ds μ1 => R ds μ1 Q J)
    (hg : Gl X x := by rfl) (hdb : (x == ("__debug__" : Str)) = false := by decide) (he : starEach (e :: es) X.env = (false, eval e X.env) :: starEach es X.env := by rfl) (hpl : (backTo pos (starEach es X.env)).any (·.1) = false := by rfl) :
    dE X J (.Call (.Name x p) (e :: es) [] pos) ρ μ Q := .mk fun as G H σ S pins s I => by
  obtain ⟨f, fd, F, hm, hk, hb⟩ := F.ex
  refine wpAny_Call_Name_kw (ld_glob I hg hm ?_ hdb)
  refine PySem.W.callWith_K (h₀ := X.base) I.ok.mod.kin hk (thn (h as G H σ S pos pins s I) fun us s1 ⟨vs, H1, I1, r, ds, μ1, as1, G1, t, m, av, q⟩ => ⟨I1.kIn, ?_⟩) he hpl
  have z := run_fnG (Q := AfE X.K as1 G1 H1 Q) F hr hgd hb (S.tk.step t) I1 r ⟨as1, G1, ds, μ1, Q, J, m, av, q, fun _ _ z => z, fun _ _ _ z => z⟩
  exact thn z fun u s2 ⟨v, H2, I2, rv, q2⟩ => ⟨v, H2, I2, rv, q2.back t⟩
end

/-! ### lambdas that are handed on -/
/-- what a lambda without parameters does where its cells hold ds -/
structure LamD (P : Program) (w : World) (K : PySem.W.Frag) (mg : Str → Option Value) (base : Heap) (k : Nat) (L : LamI) (cs : List (Str × Addr)) (ds : List Dt) (Qd : Dt → Prop) (Jd : Addr → List (Str × Dt) → Prop) : Prop where
  ok : LamN L.scope (cs.map (·.1))
  nd : (cs.map (·.1)).Nodup
  inj : ∀ (x y : Str) (c : Addr), cs.lookup x = some c → cs.lookup y = some c → x = y
  mf : mfs ds = true
  bind : ∀ (pm cv ctv : Value), bindArgs (PySem.W.kla_fn "<lambda>" L.qual L.params L.body L.scope cs pm cv ctv) ⟨[], []⟩ = pure []
  body : ∀ (f c' : Addr) (A : Around) (outer : List Env) (s : Shared) (H : Hp) (E : XK), Room k (A.deeper (lamV L cs s.heap.objs.size f c')) → A.guards = some [] →
    dE (lamC P w K mg base (cs.map (·.1)) L cs f c' A outer s H E) (fun C fs _ => mff fs = true ∧ Jd C fs) L.body (ds.map some) [] fun d _ => d.mf = true ∧ Qd d
theorem dE_imp {X : Cx} {J J' : JX} {e : Expr} {ρ : Env'} {μ : Mu} {Q : Dt → Mu → Prop} (h : dE X J e ρ μ Q) (f : ∀ C fs μ', J C fs μ' → J' C fs μ') : dE X J' e ρ μ Q :=
  .mk fun as G H σ S => h as G H σ ⟨S.mem, S.sl, S.tk.imp f⟩
/-- the errors that a law tells apart, with the texts and the fields by which it tells them -/
def nm7 (i : Fin 7) : Str := (["BadLot", "BadNumber", "BadRow", "BadTable", "BadWeb", "TooMany", "Unlike"] : List Str).get i
def key7 (i : Fin 7) : Str := (["lot", "number", "row", "table", "web", "many", "unlike"] : List Str).get i
def fld7 (i : Fin 7) : List Str := ([["lot"], ["what", "number"], ["row"], ["table"], ["what", "value"], ["what", "many", "limit"], ["what"]] : List (List Str)).get i
structure Er7 (K : PySem.W.Frag) (mg : Str → Option Value) (E : Fin 7 → Addr) : Prop where
  g : ∀ i, mg (nm7 i) = some (.ref (E i))
  exm : ∀ i j, PySem.W.exmOne K (.ref (E i)) (.ref (E j)) = some (decide (i = j))
  xf : ∀ i, XfC K (E i)
  no : ∀ i, ∀ f ∈ fld7 i, PySem.W.findIn K (.ref (E i)) f = some none
def FltD (E : Fin 7 → Addr) (C : Addr) (gs : List (Str × Dt)) (d : Dt) : Prop := ∃ i, C = E i ∧ ∃ ys : List Dt, d = .tup (.str (key7 i) :: ys) ∧ Paired (fun f y => gs.lookup f = some y) (fld7 i) ys
def rFault (P : Program) (w : World) (K : PySem.W.Frag) (mg : Str → Option Value) (base : Heap) (k : Nat) (E : Fin 7 → Addr) : Spc := fun ds μ Q _ => ∃ L cs cds Qd Jd, ds = [.clo L cs] ∧ LamD P w K mg base k L cs cds Qd Jd ∧ CellsD μ cs cds ∧
  (∀ d, Qd d → Q .non μ) ∧ ∀ C gs, mff gs = true → Jd C gs → ∃ d, FltD E C gs d ∧ Q d μ
def RepOk (d : Dt) : Prop := ∃ p, toPy d = some p ∧ p.showable = true ∧ p.shown.length ≤ sizeLine ∧ p.depth + 1 ≤ 9
/-- a lambda with what is due -/
def DueD (P : Program) (w : World) (K : PySem.W.Frag) (mg : Str → Option Value) (base : Heap) (k : Nat) (E : Fin 7 → Addr) (μ : Mu) (t : Dt) : Prop := ∃ L cs cds Qd Jd due, t = .tup [.clo L cs, due] ∧ LamD P w K mg base k L cs cds Qd Jd ∧ CellsD μ cs cds ∧
  (∀ d, Qd d → due = .non) ∧ (∀ C gs, mff gs = true → Jd C gs → FltD E C gs due) ∧ RepOk due
def rDue (P : Program) (w : World) (K : PySem.W.Frag) (mg : Str → Option Value) (base : Heap) (k : Nat) (E : Fin 7 → Addr) : Spc := fun ds μ Q _ => ∃ tries, ds = [.lst tries] ∧ tries.length ≤ 1000 ∧ (∀ t ∈ tries, DueD P w K mg base k E μ t) ∧ Q (.bl true) μ

/-! ### the head -/
theorem walkT {l : PySem.W.OpenLaw} {n k : Nat} {q : Program} {loose : List Str} {XP : (Str → Option Value) → Heap → Prop} {YP : World → Heap → Prop} {d : DefRec} {K : Params → PySem.W.Frag} {R : World → Addr → Spc} {x qn : Str}
    (hn : l.most = some n) (hn2 : n ≤ sizeLine) (hdf : d.params.defaults = []) (hr : Room k callerA) (hrec : ((recsOf q).any fun e => e.name == d.name) = true)
    (hY : ∀ (w : World) (h : Heap), YP w h → (K w.params).In h)
    (F : ∀ (w : World) (mg : Str → Option Value) (fa : Addr) (h : Heap), (K w.params).In h → h.Ns mainGlobals mg → mg d.name = some (.ref fa) →
      ∃ (fd : FuncData) (c T : Addr) (o : Obj) (e : Value) (dd : Option Addr) (vs : Array Value) (sl : Array (Option Value)), (K w.params).lookup fa = some o ∧ o.data = .func fd ∧ fd.code = .ref c ∧ (K w.params).lookup c = some ⟨e, dd, .fields vs, sl⟩ ∧ vs[11]? = some (.ref T) ∧
        (K w.params).lookup T = none ∧ PySem.W.CodeHd h c T ∧ (∀ (s : Shared) (u : Value), BindsTo s fd ⟨[u], []⟩ [(x, u)]) ∧
        ∀ base : Heap, (K w.params).In base → base.Ns mainGlobals mg → LamX.TabB base mg c T → FnG l.prog w (K w.params) mg base k fa fd [x] (R w T))
    (hR : ∀ (w : World) (T : Addr) (ns : List Int), ns.length ≤ n → R w T [.lst (ns.map .int)] [.tab 0 T qn] (fun d _ => d = .bl true) J0) :
    PySem.W.WalkO q loose XP YP l.row.toRowW d [] (fun f vs => PySem.call f vs) := by
  refine Att.attach_call hn hdf fun w s₀ s₁ mg mb fa o pm cd doc a vs ns G Y ho hd hcd hmg hobj hints hlen hg => ?_
  have KX := hY w _ Y
  obtain ⟨fd, c, T, o1, e, dd, vs1, sl, k1, k2, k3, k4, k5, nT, C, hb, hF⟩ := F w mg fa _ KX G.T.g hmg
  have hT : s₁.heap.get? T = some { cls := .none, data := .fields #[] } := by
    obtain ⟨dL, hm, hn1⟩ := List.any_eq_true.mp hrec
    have hn2 : dL.name = d.name := beq_iff_eq.mp hn1
    obtain ⟨a', o', fd', c', P', h1, h2, h3, h4, h5, h6⟩ := G.T.tab dL hm
    rw [hn2, hmg] at h1
    cases h1
    have g1 := KX _ _ k1
    rw [g1] at h2
    cases h2
    rw [k2] at h3
    cases h3
    rw [k3] at h4
    cases h4
    obtain ⟨⟨oc, vc, e1, _, e3, e4⟩, hP⟩ := h6
    have g2 := KX _ _ k4
    rw [g2] at e1
    cases e1
    cases e3
    rw [k5] at e4
    cases e4
    exact hP
  exact run_lawT KX G.T.g G.T.b G.T.builtins G.T.nolimit hg hT nT C G.T.bmain hobj hints (Nat.le_trans hlen hn2) hr hF hb (hR w T ns hlen)
end DL

/-! D22: how long a text of data is. -/
namespace DL
open PySem PySem.Spec PyProof.Rows L2

mutual
/-- no more signs than these -/
def widP : PyData → Nat
  | .none => 4
  | .bool _ => 5
  | .int _ => 66
  | .str x => (reprText x).length
  | .list xs => widPs xs + 2
  | .tuple xs => widPs xs + 3
  | .dict kvs => widPk kvs + 2
def widPs : List PyData → Nat
  | [] => 0
  | x :: r => widP x + 2 + widPs r
def widPk : List (PyData × PyData) → Nat
  | [] => 0
  | (k, v) :: r => widP k + 2 + widP v + 2 + widPk r
end
mutual
/-- its numbers are small -/
def smP : PyData → Bool
  | .none | .bool _ | .str _ => true
  | .int i => decide (i.natAbs < 2 ^ 64)
  | .list xs | .tuple xs => smPs xs
  | .dict kvs => smPk kvs
def smPs : List PyData → Bool
  | [] => true
  | x :: r => smP x && smPs r
def smPk : List (PyData × PyData) → Bool
  | [] => true
  | (k, v) :: r => smP k && smP v && smPk r
end
theorem piled_cons (t : Str) (r : List Str) : piled (t :: r) = t.length + 2 + piled r := by simp [piled]
theorem textFrom_le : ∀ (ts : List Str) (k : Nat) (acc : Str), (textFrom k acc ts).length ≤ acc.length + piled ts
  | [], k, acc => by simp [textFrom, piled]
  | t :: r, k, acc => by
    have h := textFrom_le r (k + 1) (acc ++ (if k > 0 then ", " else "" : String) ++ t)
    have e : (acc ++ (if k > 0 then ", " else "" : String) ++ t).length ≤ acc.length + 2 + t.length := by
      rw [strLen_append, strLen_append]
      split
      · exact Nat.le_refl _
      · exact Nat.add_le_add_right (Nat.add_le_add_left (Nat.zero_le 2) _) _
    have p := piled_cons t r
    have q : textFrom k acc (t :: r) = textFrom (k + 1) (acc ++ (if k > 0 then ", " else "" : String) ++ t) r := rfl
    rw [p, q]
    omega
theorem listText_le (ts : List Str) : (listText ts).length ≤ piled ts + 2 := by
  unfold listText
  rw [strLen_append]
  have h := textFrom_le ts 0 "["
  have e1 : ("[" : Str).length = 1 := rfl
  have e2 : (("]" : String) : Str).length = 1 := rfl
  omega
theorem join_le (ts : List Str) : (Str.join ", " ts).length ≤ piled ts := by
  by_cases h : ts = []
  · subst h
    exact Nat.le_refl _
  · have := join_length_add ts h
    omega
theorem tupleText_le (ts : List Str) : (tupleText ts).length ≤ piled ts + 3 := by
  unfold tupleText
  rw [strLen_append, strLen_append]
  have h := join_le ts
  have e1 : ("(" : Str).length = 1 := rfl
  have e2 : (((if ts.length == 1 then ",)" else ")" : String)) : Str).length ≤ 2 := by
    split
    · exact Nat.le_refl _
    · exact Nat.le_succ 1
  omega
theorem dictText_le (ts : List Str) : (dictText ts).length ≤ piled ts + 2 := by
  unfold dictText
  rw [strLen_append, strLen_append]
  have h := join_le ts
  have e1 : ("{" : Str).length = 1 := rfl
  have e2 : (("}" : String) : Str).length = 1 := rfl
  omega
mutual
theorem wid_ok : ∀ {p : PyData}, smP p = true → p.showable = true ∧ p.shown.length ≤ widP p
  | .none, _ => ⟨rfl, Nat.le_refl _⟩
  | .bool b, _ => ⟨rfl, by cases b <;> decide⟩
  | .int i, h => by
    have h : i.natAbs < 2 ^ 64 := of_decide_eq_true h
    have l : i.natAbs.log2 < 64 := by
      by_cases h0 : i.natAbs = 0
      · rw [h0]; decide
      · exact (Nat.log2_lt h0).mpr h
    refine ⟨by simp only [PyData.showable, decide_eq_true_eq]; omega, ?_⟩
    have e := int_text_length_le (a := i) (k := 64) (by decide) l
    show (Str.ofString (toString i)).length ≤ 66
    rw [PySem.ofString_length]
    omega
  | .str x, _ => ⟨rfl, Nat.le_refl _⟩
  | .list xs, h => by
    obtain ⟨h1, h2⟩ := wids_ok (p := xs) h
    exact ⟨h1, Nat.le_trans (listText_le _) (Nat.add_le_add_right h2 2)⟩
  | .tuple xs, h => by
    obtain ⟨h1, h2⟩ := wids_ok (p := xs) h
    exact ⟨h1, Nat.le_trans (tupleText_le _) (Nat.add_le_add_right h2 3)⟩
  | .dict kvs, h => by
    obtain ⟨h1, h2⟩ := widk_ok (p := kvs) h
    exact ⟨h1, Nat.le_trans (dictText_le _) (Nat.add_le_add_right h2 2)⟩
theorem wids_ok : ∀ {p : List PyData}, smPs p = true → PyData.showableAll p = true ∧ piled (PyData.shownAll p) ≤ widPs p
  | [], _ => ⟨rfl, Nat.le_refl _⟩
  | x :: r, h => by
    simp only [smPs, Bool.and_eq_true] at h
    obtain ⟨h1, h2⟩ := wid_ok h.1
    obtain ⟨h3, h4⟩ := wids_ok h.2
    refine ⟨by simp [PyData.showableAll, h1, h3], ?_⟩
    simp only [PyData.shownAll, widPs, piled_cons]
    omega
theorem widk_ok : ∀ {p : List (PyData × PyData)}, smPk p = true → PyData.showableKv p = true ∧ piled (PyData.shownKv p) ≤ widPk p
  | [], _ => ⟨rfl, Nat.le_refl _⟩
  | (k, v) :: r, h => by
    simp only [smPk, Bool.and_eq_true] at h
    obtain ⟨h1, h2⟩ := wid_ok h.1.1
    obtain ⟨h3, h4⟩ := wid_ok h.1.2
    obtain ⟨h5, h6⟩ := widk_ok h.2
    refine ⟨by simp [PyData.showableKv, h1, h3, h5], ?_⟩
    have e : ((": " : String) : Str).length = 2 := rfl
    simp only [PyData.shownKv, widPk, piled_cons, strLen_append]
    omega
end
theorem repOk_of {d : Dt} {p : PyData} (h : toPy d = some p) (s : smP p = true) (w : Nat.ble (widP p) 100000 = true) (dp : Nat.ble (p.depth + 1) 9 = true) : RepOk d := by
  obtain ⟨h1, h2⟩ := wid_ok s
  refine ⟨p, h, h1, Nat.le_trans h2 (Nat.le_trans (Nat.le_of_ble_eq_true w) ?_), Nat.le_of_ble_eq_true dp⟩
  rw [sizeLine_eq]
  decide
end DL

/-! D23: from the written part: the seven errors; the law's code object. -/
namespace DL
open PySem PySem.Spec PyProof.Rows L2

section
variable {K : PySem.W.Frag} {mg : Str → Option Value} {P : Program} {w : World} {base : Heap}
theorem Xl.exD {C D CW : Addr} (x : Xl K C (.ref CW :: veL)) (y : Xl K D (.ref CW :: veL)) (n : CW ≠ D) : PySem.W.exmOne K (.ref C) (.ref D) = some (decide (C = D)) := by
  refine x.exm y (by simp [veL]) ?_
  have n' : (Value.ref D == Value.ref CW) = false := by simpa using fun z : D = CW => n z.symm
  by_cases h : C = D
  · subst h
    simp [List.contains_cons]
  · have h' : (Value.ref D == Value.ref C) = false := by simpa using fun z : D = C => h z.symm
    rw [decide_eq_false h]
    simp only [List.contains_cons, List.contains_nil, h', n']
    rfl
theorem er7_of {CW c0 c1 c2 c3 c4 c5 c6 : Addr} (nd : (CW :: [c0, c1, c2, c3, c4, c5, c6] : List Addr).Nodup)
    (x0 : Xl K c0 (.ref CW :: veL)) (x1 : Xl K c1 (.ref CW :: veL)) (x2 : Xl K c2 (.ref CW :: veL)) (x3 : Xl K c3 (.ref CW :: veL)) (x4 : Xl K c4 (.ref CW :: veL)) (x5 : Xl K c5 (.ref CW :: veL)) (x6 : Xl K c6 (.ref CW :: veL))
    (e0 : ErK P w K mg base c0 ["lot"]) (e1 : ErK P w K mg base c1 ["what", "number"]) (e2 : ErK P w K mg base c2 ["row"]) (e3 : ErK P w K mg base c3 ["table"]) (e4 : ErK P w K mg base c4 ["what", "value"]) (e5 : ErK P w K mg base c5 ["what", "many", "limit"]) (e6 : ErK P w K mg base c6 ["what"])
    (g0 : mg "BadLot" = some (.ref c0)) (g1 : mg "BadNumber" = some (.ref c1)) (g2 : mg "BadRow" = some (.ref c2)) (g3 : mg "BadTable" = some (.ref c3)) (g4 : mg "BadWeb" = some (.ref c4)) (g5 : mg "TooMany" = some (.ref c5)) (g6 : mg "Unlike" = some (.ref c6)) :
    Er7 K mg (fun i => ([c0, c1, c2, c3, c4, c5, c6] : List Addr).get i) := by
  have X : ∀ i : Fin 7, Xl K (([c0, c1, c2, c3, c4, c5, c6] : List Addr).get i) (.ref CW :: veL) := fun i => match i with
    | 0 => x0 | 1 => x1 | 2 => x2 | 3 => x3 | 4 => x4 | 5 => x5 | 6 => x6
  have nd2 : ([c0, c1, c2, c3, c4, c5, c6] : List Addr).Nodup := (List.nodup_cons.mp nd).2
  have nW : ∀ i : Fin 7, CW ≠ ([c0, c1, c2, c3, c4, c5, c6] : List Addr).get i := fun i z => by
    have m := List.get_mem ([c0, c1, c2, c3, c4, c5, c6] : List Addr) i
    rw [← z] at m
    exact (List.nodup_cons.mp nd).1 m
  refine ⟨fun i => ?_, fun i j => ?_, fun i => ?_, fun i => ?_⟩
  · match i with
    | 0 => exact g0
    | 1 => exact g1
    | 2 => exact g2
    | 3 => exact g3
    | 4 => exact g4
    | 5 => exact g5
    | 6 => exact g6
  · rw [(X i).exD (X j) (nW j)]
    congr 1
    by_cases h : i = j
    · subst h; simp
    · have h2 : ¬ ([c0, c1, c2, c3, c4, c5, c6] : List Addr).get i = ([c0, c1, c2, c3, c4, c5, c6] : List Addr).get j := fun z => h (Fin.ext ((List.getElem_inj nd2).mp z))
      rw [decide_eq_false h, decide_eq_false h2]
  · match i with
    | 0 => exact e0.xf
    | 1 => exact e1.xf
    | 2 => exact e2.xf
    | 3 => exact e3.xf
    | 4 => exact e4.xf
    | 5 => exact e5.xf
    | 6 => exact e6.xf
  · match i with
    | 0 => exact e0.free
    | 1 => exact e1.free
    | 2 => exact e2.free
    | 3 => exact e3.free
    | 4 => exact e4.free
    | 5 => exact e5.free
    | 6 => exact e6.free
/-- a code object's record, with its table -/
def codeHdB (vs : Array Value) (c T : Addr) : Bool := !(c == T) && (match vs.getD 18 .none with | .str _ _ => true | _ => false) && (match vs.getD 7 .none with | .int _ _ => true | _ => false) && (match vs.getD 9 .none with | .bool _ => true | _ => false) && (match vs.getD 10 .none with | .int _ _ => true | _ => false)
theorem codeHd_of {h : Heap} {c T : Addr} {dd : Option Addr} {vs : Array Value} {sl : Array (Option Value)} (X : K.In h) (l : K.lookup c = some ⟨.type "code", dd, .fields vs, sl⟩) (hT : vs[11]? = some (.ref T)) (hB : codeHdB vs c T = true) : PySem.W.CodeHd h c T := by
  unfold codeHdB at hB
  simp only [Bool.and_eq_true, Bool.not_eq_true', beq_eq_false_iff_ne, ne_eq] at hB
  obtain ⟨⟨⟨⟨h1, h2⟩, h3⟩, h4⟩, h5⟩ := hB
  have q2 : ∃ file tf, vs.getD 18 .none = .str file tf := by
    cases e : vs.getD 18 .none <;> rw [e] at h2 <;> first | exact ⟨_, _, rfl⟩ | cases h2
  have q3 : ∃ a b, vs.getD 7 .none = .int a b := by
    cases e : vs.getD 7 .none <;> rw [e] at h3 <;> first | exact ⟨_, _, rfl⟩ | cases h3
  have q4 : ∃ a, vs.getD 9 .none = .bool a := by
    cases e : vs.getD 9 .none <;> rw [e] at h4 <;> first | exact ⟨_, rfl⟩ | cases h4
  have q5 : ∃ a b, vs.getD 10 .none = .int a b := by
    cases e : vs.getD 10 .none <;> rw [e] at h5 <;> first | exact ⟨_, _, rfl⟩ | cases h5
  obtain ⟨file, tf, e2⟩ := q2
  obtain ⟨fl, tg, e3⟩ := q3
  obtain ⟨inF, e4⟩ := q4
  obtain ⟨tx, tt, e5⟩ := q5
  exact ⟨_, vs, file, tf, fl, tg, inF, tx, tt, X _ _ l, rfl, rfl, hT, by rw [Array.getD_eq_getD_getElem?, hT]; rfl, e2, e3, e4, e5, h1⟩
end
end DL

/-! L1: the law's text; pen, draw, pick. -/
namespace Law
open PySem PySem.Spec PyProof.Rows L2 DL
local macro_rules | `(tactic| walk_at "sd") => `(tactic| first | assumption | decide | exact Or.inr (by decide) | exact Or.inl (by decide) | exact ⟨by decide, by decide⟩ | exact ⟨by decide, by decide, by decide⟩ | omega | exact ⟨by omega, by omega⟩)
local macro_rules | `(tactic| walk_at "lz") => `(tactic| first | exact pen_len | (rw [sizeLine_eq]; simp; done) | (rw [sizeLine_eq]; simp; omega))
local macro_rules | `(tactic| walk_at "vd") => `(tactic| first | exact pen_cells | exact pen_at | exact pen_dg | exact pen_ct | exact pen_fold | kernel_rfl)
abbrev tp (i : Nat) : Stmt := PySem.Challenge.pw_cutrounds_k02_ratios.main.body.getD i (.Pass ⟨0, 0, 0, 0⟩)
theorem map_int {ns : List Int} {i : Nat} {x : Dt} (hx : (ns.map Dt.int)[i]? = some x) : ∃ z : Int, x = .int z := by
  rw [List.getElem?_map] at hx
  cases e : ns[i]? with
  | none => rw [e] at hx; cases hx
  | some z => rw [e] at hx; exact ⟨z, (Option.some.inj hx).symm⟩
section
variable {P : Program} {w : World} {K : PySem.W.Frag} {mg : Str → Option Value} {base : Heap}
abbrev sPen : Stmt := tp 28
theorem scPen : FnScope ["script", "fold", "cell"] ["script"] (defScope sPen) := ⟨rfl, rfl, rfl, by decide +kernel, rfl, by decide +kernel, by decide +kernel⟩
theorem okPen {f : Addr} {fd : FuncData} (F : Fun K "_law_pen" "_law_pen" sPen f fd) (n_int : mg "int" = none) (n_list : mg "list" = none) : FnG P w K mg base 1 f fd ["script"] rPen := by
  refine FnG.of F scPen (fun ds μ Q J ⟨ns, e, _⟩ => by rw [e]; rfl) fun cdv A outer s H E ds μ Q J hr hg ⟨ns, e, e2, q⟩ => ?_
  subst e e2
  have hN : (["script", "fold", "cell"] : List Str).Nodup := by decide +kernel
  refine dSs_cons (dS_set 1 hN rfl (dE_int (?_)))
  refine dSs_cons (dS_for (passes_of rfl) rfl (dI_seq (dE_var 0 rfl rfl ⟨_, rfl, ?_⟩)))
  refine ⟨fun _ ρ' μ' => μ' = [] ∧ ∃ (fold : Int) (c : Option Dt), 0 ≤ fold ∧ fold < 999999587 ∧ ρ' = [some (.lst (ns.map .int)), some (.int fold), c], ⟨rfl, 0, none, by decide, by decide, rfl⟩, ?_, ?_, ?_⟩
  · rintro i ρ' μ' ⟨rfl, _⟩
    rfl
  · rintro i x ρ' μ' hx ⟨rfl, fold, c, h1, h2, rfl⟩
    obtain ⟨z, rfl⟩ := map_int hx
    refine dG_name 2 hN rfl ?_
    refine dSs_cons (dS_set 1 hN rfl (dE_bin od_mod (dE_callTy (hv := Boot.«int») cd_int n_int (dA_cons (dE_bin od_add (dE_bin od_mul (dE_var 1 rfl rfl (dE_int (mk_I (C := CMul) (by walk_at "sd") (dE_var 2 rfl rfl (mk_I0 (dA_nil (.inl ⟨_, rfl, dE_int (mk_mod (by walk_at "sd") (?_))⟩)))))))))))))
    refine dSs_nil ?_
    exact ⟨rfl, _, _, Int.emod_nonneg _ (by decide), Int.emod_lt_of_pos _ (by decide), rfl⟩
  · rintro ρ' μ' ⟨rfl, fold, c, h1, h2, rfl⟩
    show dSs _ _ _ _ _ _
    refine dSs_cons (dS_ret (dE_dicM (hall := rfl) (hl := rfl) (h0 := List.cons_ne_nil _ _) (h15 := by decide) (dP_cons (dE_str (dE_callTy (hv := Boot.«list») cd_list n_list (dA_cons (dE_var 0 rfl rfl (dA_nil (⟨_, _, rfl, rfl, dP_cons (dE_str (dE_int (dP_cons (dE_str (dE_int (dP_cons (dE_str (dE_int (dP_cons (dE_str (dE_var 1 rfl rfl (dP_nil (?_)))))))))))))⟩)))))))))
    refine ⟨[(.inr "cells", .lst (ns.map .int)), (.inr "at", .int 0), (.inr "digits", .int 0), (.inr "count", .int 0), (.inr "fold", .int fold)], rfl, (by show 5 ≤ 15; decide), ?_⟩
    rw [pen_merge]
    exact q _ ⟨ns, 0, 0, 0, fold, rfl, by omega, by omega, by omega, h1, by omega⟩
abbrev sDraw : Stmt := tp 29
theorem scDraw : FnScope ["pen", "many", "cell", "digit", "blend"] ["pen", "many"] (defScope sDraw) := ⟨rfl, rfl, rfl, by decide +kernel, rfl, by decide +kernel, by decide +kernel⟩
theorem okDraw {f : Addr} {fd : FuncData} (F : Fun K "_law_draw" "_law_draw" sDraw f fd) (n_int : mg "int" = none) (n_len : mg "len" = none) : FnG P w K mg base 1 f fd ["pen", "many"] rDraw := by
  refine FnG.of F scDraw (fun ds μ Q J ⟨B, many, m, e, _⟩ => by rw [e]; rfl) fun cdv A outer s H E ds μ Q J hr hg ⟨B, many, m, e, e2, pen, hB, hm, hm2, q⟩ => ?_
  subst e e2
  have hN : (["pen", "many", "cell", "digit", "blend"] : List Str).Nodup := by decide +kernel
  have hu := hu_of hr
  obtain ⟨cells, a, d, c, fo, rfl, ha, hc, hcB, hf, hf2⟩ := pen
  -- what is drawn where nothing is taken off
  have tail : ∀ (ρ : Env') (a d fo : Int), 0 ≤ a → 0 ≤ fo → fo < 2147483269 → (∃ x y z, ρ = [some (.mut 0), some (.int many), x, y, z]) →
      dSs (cxOf (L2.CX P w) P w K mg base ["pen", "many", "cell", "digit", "blend"] "_law_draw" (defScope sDraw) f cdv A outer s H E) J ((defBody sDraw).drop 2) ρ [.dic (penD cells a d (c + 1) fo)] { nx := fun _ μ' => Q .non μ', rt := Q } := by
    intro ρ a d fo ha hf hf2 hρ
    obtain ⟨x, y, z, rfl⟩ := hρ
    refine dSs_cons (dS_if (dT_cmp od_gt (dE_dget hu (dE_var 0 rfl rfl (dE_str (⟨_, .inr _, _, rfl, rfl, by walk_at "vd", dE_int (mk_I0 (mk_B (?_)))⟩))))))
    refine iteD (fun hd => ?_) (fun hd => ?_)
    · refine dSs_cons (dS_set 3 hN rfl (dE_bin od_mod (dE_callTy (hv := Boot.«int») cd_int n_int (dA_cons (dE_dget hu (dE_var 0 rfl rfl (dE_str (⟨_, .inr _, _, rfl, rfl, by walk_at "vd", dA_nil (.inl ⟨_, rfl, dE_var 1 rfl rfl (mk_mod (by walk_at "sd") (?_))⟩)⟩))))))))
      refine dSs_cons (dS_dput hu (dE_bin od_fdiv (dE_dget hu (dE_var 0 rfl rfl (dE_str (⟨_, .inr _, _, rfl, rfl, by walk_at "vd", dE_var 1 rfl rfl (mk_I (C := CDiv) (by walk_at "sd") (dE_var 0 rfl rfl (dE_str (⟨_, _, .inr _, rfl, rfl, rfl, by walk_at "lz", ?_⟩))))⟩))))))
      refine dSs_cons (dS_ret (dE_var 3 rfl rfl (?_)))
      exact q _ _ (Int.emod_nonneg _ (by omega)) (Int.emod_lt_of_pos _ hm) ⟨cells, a, _, c + 1, fo, congrArg Mo.dic pen_dg_put, ha, by omega, by omega, hf, hf2⟩
    · refine dSs_nil ?_
      refine dSs_cons (dS_set 4 hN rfl (dE_bin od_add (dE_bin od_add (dE_dget hu (dE_var 0 rfl rfl (dE_str (⟨_, .inr _, _, rfl, rfl, by walk_at "vd", dE_bin od_mul (dE_dget hu (dE_var 0 rfl rfl (dE_str (⟨_, .inr _, _, rfl, rfl, by walk_at "vd", dE_int (mk_I (C := CMul) (by walk_at "sd") (mk_I0 (dE_int (mk_I0 (?_)))))⟩))))⟩)))))))
      refine dSs_cons (dS_ret (dE_bin od_mod (dE_bin od_fdiv (dE_callTy (hv := Boot.«int») cd_int n_int (dA_cons (dE_bin od_mod (dE_bin od_pow (dE_var 4 rfl rfl (dE_int (mk_I (C := CPow) (by walk_at "sd") (dE_int (mk_mod (by walk_at "sd") (dA_nil (.inl ⟨_, rfl, dE_int (mk_I (C := CDiv) (by walk_at "sd") (dE_var 1 rfl rfl (mk_mod (by walk_at "sd") (?_))))⟩))))))))))))))
      exact q _ _ (Int.emod_nonneg _ (by omega)) (Int.emod_lt_of_pos _ hm) ⟨cells, a, d, c + 1, fo, rfl, ha, by omega, by omega, hf, hf2⟩
  refine dSs_cons (dS_dput hu (dE_bin od_add (dE_dget hu (dE_var 0 rfl rfl (dE_str (⟨_, .inr _, _, rfl, rfl, by walk_at "vd", dE_int (mk_I0 (dE_var 0 rfl rfl (dE_str (⟨_, _, .inr _, rfl, rfl, rfl, by walk_at "lz", ?_⟩))))⟩))))))
  have e1 : ([Mo.dic (penD cells a d c fo)].set 0 (.dic (putD (penD cells a d c fo) (.inr "count") (.int (c + 1))))) = [Mo.dic (penD cells a d (c + 1) fo)] := by rw [pen_ct_put]; rfl
  rw [e1]
  refine dSs_cons (dS_if (dT_bool (dW_and (dT_cmp od_eqF (dE_dget hu (dE_var 0 rfl rfl (dE_str (⟨_, .inr _, _, rfl, rfl, by walk_at "vd", dE_int (⟨_, rfl, mk_B (?_)⟩)⟩))))))))
  refine iteB (fun h0 => ?_) (fun _ => ?_)
  · refine dW_and1 (dT_cmp od_lt (dE_dget hu (dE_var 0 rfl rfl (dE_str ⟨_, .inr _, _, rfl, rfl, by walk_at "vd", dE_callB (hv := Boot.«len») cd_len n_len (dA_cons (dE_dget hu (dE_var 0 rfl rfl (dE_str ⟨_, .inr _, _, rfl, rfl, by walk_at "vd", dA_nil ⟨_, _, rfl, rfl, mk_I0 (mk_B ?_)⟩⟩))))⟩))))
    refine iteD (fun h1 => ?_) (fun _ => dSs_nil (tail _ a d fo ha hf hf2 ⟨_, _, _, rfl⟩))
    obtain ⟨z, hz⟩ : ∃ z : Int, atI (cells.map Dt.int) a = some (.int z) := by
      have h2 : a.toNat < cells.length := by
        have h3 : a < ((cells.map Dt.int).length : Int) := h1
        rw [List.length_map] at h3
        omega
      refine ⟨cells[a.toNat], ?_⟩
      rw [atI_get ha (by rw [List.length_map]; exact h2)]
      simp
    refine dSs_cons (dS_set 2 hN rfl (dE_idx (dE_dget hu (dE_var 0 rfl rfl (dE_str (⟨_, .inr _, _, rfl, rfl, by walk_at "vd", dE_dget hu (dE_var 0 rfl rfl (dE_str (⟨_, .inr _, _, rfl, rfl, by walk_at "vd", ⟨_, _, _, rfl, rfl, hz, ?_⟩⟩)))⟩))))))
    refine dSs_cons (dS_dput hu (dE_bin od_add (dE_dget hu (dE_var 0 rfl rfl (dE_str (⟨_, .inr _, _, rfl, rfl, by walk_at "vd", dE_int (mk_I0 (dE_var 0 rfl rfl (dE_str (⟨_, _, .inr _, rfl, rfl, rfl, by walk_at "lz", ?_⟩))))⟩))))))
    have e2 : ([Mo.dic (penD cells a d (c + 1) fo)].set 0 (.dic (putD (penD cells a d (c + 1) fo) (.inr "at") (.int (a + 1))))) = [Mo.dic (penD cells (a + 1) d (c + 1) fo)] := by rw [pen_at_put]; rfl
    rw [e2]
    refine dSs_cons (dS_if (dT_cmp od_ge (dE_var 2 rfl rfl (dE_bin od_pow (dE_int (dE_int (mk_I (C := CPow) (by walk_at "sd") (mk_I0 (mk_B (?_))))))))))
    refine iteD (fun h4 => ?_) (fun h4 => ?_)
    · refine dSs_cons (dS_dput hu (dE_bin od_sub (dE_var 2 rfl rfl (dE_bin od_pow (dE_int (dE_int (mk_I (C := CPow) (by walk_at "sd") (mk_I0 (dE_var 0 rfl rfl (dE_str (⟨_, _, .inr _, rfl, rfl, rfl, by walk_at "lz", ?_⟩)))))))))))
      have e3 : ([Mo.dic (penD cells (a + 1) d (c + 1) fo)].set 0 (.dic (putD (penD cells (a + 1) d (c + 1) fo) (.inr "digits") (.int (z - 10 ^ (18 : Int).toNat))))) = [Mo.dic (penD cells (a + 1) (z - 10 ^ (18 : Int).toNat) (c + 1) fo)] := by rw [pen_dg_put]; rfl
      rw [e3]
      exact dSs_nil (dSs_nil (tail _ _ _ _ (by omega) hf hf2 ⟨_, _, _, rfl⟩))
    · refine dSs_cons (dS_dput hu (dE_bin od_mod (dE_callTy (hv := Boot.«int») cd_int n_int (dA_cons (dE_bin od_add (dE_bin od_mul (dE_dget hu (dE_var 0 rfl rfl (dE_str (⟨_, .inr _, _, rfl, rfl, by walk_at "vd", dE_int (mk_I (C := CMul) (by walk_at "sd") (dE_var 2 rfl rfl (mk_I0 (dA_nil (.inl ⟨_, rfl, dE_int (mk_mod (by walk_at "sd") (dE_var 0 rfl rfl (dE_str (⟨_, _, .inr _, rfl, rfl, rfl, by walk_at "lz", ?_⟩))))⟩)))))⟩))))))))))
      have e3 : ([Mo.dic (penD cells (a + 1) d (c + 1) fo)].set 0 (.dic (putD (penD cells (a + 1) d (c + 1) fo) (.inr "fold") (.int ((fo * 35999 + z) % 2147483269))))) = [Mo.dic (penD cells (a + 1) d (c + 1) ((fo * 35999 + z) % 2147483269))] := by rw [pen_fold_put]; rfl
      rw [e3]
      exact dSs_nil (dSs_nil (tail _ _ _ _ (by omega) (Int.emod_nonneg _ (by decide)) (Int.emod_lt_of_pos _ (by decide)) ⟨_, _, _, rfl⟩))
  · rw [if_neg Bool.false_ne_true]
    exact dSs_nil (tail _ a d fo ha hf hf2 ⟨_, _, _, rfl⟩)
abbrev sPick : Stmt := tp 30
theorem scPick : FnScope ["pen", "some"] ["pen", "some"] (defScope sPick) := ⟨rfl, rfl, rfl, by decide +kernel, rfl, by decide +kernel, by decide +kernel⟩
theorem okPick {f : Addr} {fd : FuncData} (F : Fun K "_law_pick" "_law_pick" sPick f fd) (f_draw : DefP P w K mg base 1 "_law_draw" ["pen", "many"] rDraw) (n_len : mg "len" = none) : FnG P w K mg base 2 f fd ["pen", "some"] rPick := by
  refine FnG.of F scPick (fun ds μ Q J ⟨B, xs, d, m, e, _⟩ => by rw [e]; rfl) fun cdv A outer s H E ds μ Q J hr hg ⟨B, xs, d, m, e, hd, e2, pen, hB, hne, hl, q⟩ => ?_
  subst e e2
  have hN : (["pen", "some"] : List Str).Nodup := by decide +kernel
  have len : ∀ μ, lenM μ d = some xs.length := fun μ => by rcases hd with rfl | rfl <;> rfl
  have seq : ∀ μ, seqM μ d = some xs := fun μ => by rcases hd with rfl | rfl <;> rfl
  have hp : 0 < xs.length := List.length_pos_iff.mpr hne
  refine dSs_cons (dS_ret (dE_idx (dE_var 1 rfl rfl (dE_go f_draw hr hg (dA_cons (dE_var 0 rfl rfl (dA_cons (dE_callB (hv := Boot.«len») cd_len n_len (dA_cons (dE_var 1 rfl rfl (dA_nil ⟨_, _, rfl, len _, dA_nil ?_⟩))))))))))) 
  refine mk_call1 rfl pen.ng pen.mf rfl ⟨B, _, m, rfl, rfl, pen, hB, by omega, by omega, fun r m' h1 h2 pm => ⟨rfl, m', rfl, pm.ng, pm.mf, ?_⟩⟩
  have h3 : r.toNat < xs.length := by omega
  refine ⟨r, xs, xs[r.toNat], rfl, seq _, ?_, ?_⟩
  · exact atI_get h1 h3
  · exact q _ (List.getElem_mem h3) m' pm
end
end Law

/-! M2: the ratios' law: looks and ratios. -/
namespace Law
open PySem PySem.Spec PyProof.Rows L2 DL
local macro_rules | `(tactic| walk_at "sd") => `(tactic| first | assumption | decide | exact Or.inr (by decide) | exact Or.inl (by decide) | exact ⟨by decide, by decide⟩ | exact ⟨by decide, by decide, by decide⟩ | omega | exact ⟨by omega, by omega⟩)
local macro_rules | `(tactic| walk_at "lz") => `(tactic| first | exact pen_len | (rw [sizeLine_eq]; simp; done) | (rw [sizeLine_eq]; simp; omega))
section
variable {P : Program} {w : World} {K : PySem.W.Frag} {mg : Str → Option Value} {base : Heap}
/-! ### plain data -/
def tyS : Dt → Option String
  | .non => some "NoneType" | .bl _ => some "bool" | .int _ => some "int" | .str _ => some "str" | .lst _ => some "list" | .tup _ => some "tuple" | .dic _ => some "dict"
  | _ => none
theorem tyM_of {μ : Mu} : ∀ {d : Dt} {T : String}, tyS d = some T → TyM K μ d (.type T) := by
  intro d T h
  cases d <;> simp only [tyS, Option.some.injEq, reduceCtorEq] at h <;> subst h <;> constructor
def wholeD : Dt → Bool
  | .int _ => true
  | _ => false
def rWhole : Spc := fun ds μ Q _ => ∃ d T, ds = [d] ∧ tyS d = some T ∧ μ = [] ∧ ∀ μ', Q (.bl (wholeD d)) μ'
theorem kitT {T : String} {d : Dt} (h : tyS d = some T) (n : String) (r : Bool) (hr : ∀ T ∈ ["NoneType", "bool", "int", "str", "list", "tuple", "dict"], tyS d = some T → kitB T n = some r) : PySem.W.kitOne K (.type T) (.type n) = some r := by
  refine kit_ty (hr T ?_ h)
  cases d <;> simp only [tyS, Option.some.injEq, reduceCtorEq] at h <;> subst h <;> simp
abbrev sWhole : Stmt := tp 11
theorem scWhole : FnScope ["value"] ["value"] (defScope sWhole) := ⟨rfl, rfl, rfl, by decide +kernel, rfl, by decide +kernel, by decide +kernel⟩
theorem okWhole {f : Addr} {fd : FuncData} (F : Fun K "is_whole" "is_whole" sWhole f fd) (n_isinstance : mg "isinstance" = none) (n_int : mg "int" = none) (n_bool : mg "bool" = none) : FnG P w K mg base 1 f fd ["value"] rWhole := by
  refine FnG.of F scWhole (fun ds μ Q J ⟨d, T, e, _⟩ => by rw [e]; rfl) fun cdv A outer s H E ds μ Q J hr hg ⟨d, T, e, hT, e2, q⟩ => ?_
  subst e e2
  have k1 : ∃ r1 r2 : Bool, PySem.W.kitOne K (.type T) (.type "int") = some r1 ∧ PySem.W.kitOne K (.type T) (.type "bool") = some r2 ∧ (r1 && !r2) = wholeD d := by
    cases d <;> simp only [tyS, Option.some.injEq, reduceCtorEq] at hT <;> subst hT
    · exact ⟨false, false, kit_ty (by decide +kernel), kit_ty (by decide +kernel), rfl⟩
    · exact ⟨true, true, kit_ty (by decide +kernel), kit_ty (by decide +kernel), rfl⟩
    · exact ⟨true, false, kit_ty (by decide +kernel), kit_ty (by decide +kernel), rfl⟩
    · exact ⟨false, false, kit_ty (by decide +kernel), kit_ty (by decide +kernel), rfl⟩
    · exact ⟨false, false, kit_ty (by decide +kernel), kit_ty (by decide +kernel), rfl⟩
    · exact ⟨false, false, kit_ty (by decide +kernel), kit_ty (by decide +kernel), rfl⟩
    · exact ⟨false, false, kit_ty (by decide +kernel), kit_ty (by decide +kernel), rfl⟩
  obtain ⟨r1, r2, h1, h2, h3⟩ := k1
  refine dSs_cons (dS_ret (dE_and (dE_callB (hv := Boot.«isinstance») cd_isi n_isinstance (dA_cons (dE_var 0 rfl rfl (dA_cons (dE_bty (T := "int") n_int (dA_nil ⟨_, _, _, _, _, rfl, .ty "int", tyM_of hT, h1, mk_B ?_⟩) Boot.«int»)))))))
  refine iteB (fun z => ?_) (fun z => ?_)
  · refine dE_one (dE_not (dE_callB (hv := Boot.«isinstance») cd_isi n_isinstance (dA_cons (dE_var 0 rfl rfl (dA_cons (dE_bty (T := "bool") n_bool (dA_nil ⟨_, _, _, _, _, rfl, .ty "bool", tyM_of hT, h2, mk_B ?_⟩) Boot.«bool»))))))
    subst z
    have e : wholeD d = !r2 := by rw [← h3]; rfl
    rw [e] at q
    exact q _
  · subst z
    have e : wholeD d = false := by rw [← h3]; rfl
    rw [e] at q
    exact q _
end
end Law

/-! M3: the ratios' law: is_pair, is_ratio. -/
namespace Law
open PySem PySem.Spec PyProof.Rows L2 DL
local macro_rules | `(tactic| walk_at "lz") => `(tactic| first | exact pen_len | (rw [sizeLine_eq]; simp; done) | (rw [sizeLine_eq]; simp; omega))
section
variable {P : Program} {w : World} {K : PySem.W.Frag} {mg : Str → Option Value} {base : Heap}
def itemsD : Dt → List Dt
  | .tup xs | .lst xs => xs
  | _ => []
def pairL : List Dt → Bool
  | [.int _, .int b] => decide (0 < b)
  | _ => false
def posD : Dt → Bool
  | .int b => decide (0 < b)
  | _ => false
theorem pairL_two (x y : Dt) : pairL [x, y] = (wholeD x && (wholeD y && posD y)) := by cases x <;> cases y <;> rfl
def pairD (d : Dt) : Bool := pairL (itemsD d)
def seqD : Dt → Bool
  | .tup _ | .lst _ => true
  | _ => false
def Plain1 (d : Dt) : Prop := (∃ T, tyS d = some T) ∧ ∀ x ∈ itemsD d, ∃ T, tyS x = some T
def rPair : Spc := fun ds μ Q _ => ∃ d, ds = [d] ∧ Plain1 d ∧ d.mf = true ∧ μ = [] ∧ ∀ μ', Q (.bl (pairD d)) μ'
theorem kit2 {d : Dt} {T : String} (h : tyS d = some T) : PySem.W.kitAny K (.type T) [.type "tuple", .type "list"] = some (seqD d) := by
  cases d <;> simp only [tyS, Option.some.injEq, reduceCtorEq] at h <;> subst h
  · exact kitAny_cons (b := false) (kit_ty (by decide +kernel)) (fun _ => kitAny_cons (b := false) (kit_ty (by decide +kernel)) (fun _ => kitAny_nil) (fun z => by cases z)) (fun z => by cases z)
  · exact kitAny_cons (b := false) (kit_ty (by decide +kernel)) (fun _ => kitAny_cons (b := false) (kit_ty (by decide +kernel)) (fun _ => kitAny_nil) (fun z => by cases z)) (fun z => by cases z)
  · exact kitAny_cons (b := false) (kit_ty (by decide +kernel)) (fun _ => kitAny_cons (b := false) (kit_ty (by decide +kernel)) (fun _ => kitAny_nil) (fun z => by cases z)) (fun z => by cases z)
  · exact kitAny_cons (b := false) (kit_ty (by decide +kernel)) (fun _ => kitAny_cons (b := false) (kit_ty (by decide +kernel)) (fun _ => kitAny_nil) (fun z => by cases z)) (fun z => by cases z)
  · exact kitAny_cons (b := false) (kit_ty (by decide +kernel)) (fun _ => kitAny_cons (b := true) (kit_ty (by decide +kernel)) (fun z => by cases z) (fun _ => rfl)) (fun z => by cases z)
  · exact kitAny_cons (b := true) (kit_ty (by decide +kernel)) (fun z => by cases z) (fun _ => rfl)
  · exact kitAny_cons (b := false) (kit_ty (by decide +kernel)) (fun _ => kitAny_cons (b := false) (kit_ty (by decide +kernel)) (fun _ => kitAny_nil) (fun z => by cases z)) (fun z => by cases z)
theorem seq_items {d : Dt} (h : seqD d = true) (μ : Mu) : seqM μ d = some (itemsD d) ∧ lenM μ d = some (itemsD d).length := by
  cases d <;> simp [seqD] at h <;> exact ⟨rfl, rfl⟩
abbrev sPair : Stmt := tp 13
theorem scPair : FnScope ["value"] ["value"] (defScope sPair) := ⟨rfl, rfl, rfl, by decide +kernel, rfl, by decide +kernel, by decide +kernel⟩
theorem okPair {f : Addr} {fd : FuncData} (F : Fun K "is_pair" "is_pair" sPair f fd) (f_whole : DefP P w K mg base 1 "is_whole" ["value"] rWhole) (n_isinstance : mg "isinstance" = none) (n_tuple : mg "tuple" = none) (n_list : mg "list" = none) (n_len : mg "len" = none) : FnG P w K mg base 2 f fd ["value"] rPair := by
  refine FnG.of F scPair (fun ds μ Q J ⟨d, e, _⟩ => by rw [e]; rfl) fun cdv A outer s H E ds μ Q J hr hg ⟨d, e, ⟨⟨T, hT⟩, hI⟩, hmf, e2, q⟩ => ?_
  subst e e2
  have ne : ∀ C gs, d ≠ .exc C gs := fun C gs z => by rw [z] at hT; cases hT
  refine dSs_cons (dS_if (dT_bool (dW_or (dT_not (dT_val (dE_callB (hv := Boot.«isinstance») cd_isT n_isinstance (dA_cons (dE_var 0 rfl rfl (dA_cons (dE_tup (dA_cons (dE_bty (hv := Boot.«tuple») (T := "tuple") n_tuple (dA_cons (dE_bty (hv := Boot.«list») (T := "list") n_list (dA_nil ⟨by walk_at "lz", dA_nil ⟨d, [.ty "tuple", .ty "list"], _, [.type "tuple", .type "list"], seqD d, rfl, .cons (.ty _) (.cons (.ty _) .nil), tyM_of hT, ne, kit2 hT, mk_B ?_⟩⟩)))))))))))))))
  cases hs : seqD d with
  | false =>
    refine iteB (fun _ => ?_) (fun z => by cases z)
    rw [if_pos rfl]
    refine dSs_cons (dS_ret (dE_bl ?_))
    have e : pairD d = false := by cases d <;> simp [seqD] at hs <;> rfl
    rw [e] at q
    exact q _
  | true =>
    refine iteB (fun z => by cases z) (fun _ => ?_)
    obtain ⟨h1, h2⟩ := seq_items hs []
    refine dW_or1 (dT_cmp od_neF (dE_callB (hv := Boot.«len») cd_len n_len (dA_cons (dE_var 0 rfl rfl (dA_nil ⟨_, _, rfl, h2, dE_int ⟨_, rfl, mk_B ?_⟩⟩)))))
    refine iteB (fun z => ?_) (fun z => ?_)
    · have hl : (itemsD d).length ≠ 2 := fun h => by rw [h] at z; cases z
      refine dSs_cons (dS_ret (dE_bl ?_))
      have e : pairD d = false := by
        unfold pairD
        match itemsD d, hl with
        | [], _ => rfl
        | [a], _ => cases a <;> rfl
        | [a, b], h => exact absurd rfl h
        | a :: b :: c :: r, _ => cases a <;> cases b <;> rfl
      rw [e] at q
      exact q _
    · have hl : (itemsD d).length = 2 := by
        have z' : ((itemsD d).length : Int) = 2 := by simpa using z
        omega
      match hit : itemsD d, hl with
      | [x, y], _ =>
        rw [hit] at h1 hI
        obtain ⟨Tx, hx⟩ := hI x (by simp)
        obtain ⟨Ty, hy⟩ := hI y (by simp)
        have mxy : x.mf = true ∧ y.mf = true := by
          cases d <;> simp [seqD] at hs <;> simp only [itemsD] at hit <;> subst hit <;> simpa [Dt.mf, mfs] using hmf
        have e : pairD d = (wholeD x && (wholeD y && posD y)) := by
          unfold pairD
          rw [hit]
          exact pairL_two x y
        refine dSs_nil (dSs_cons (dS_ret (dE_and (dE_go f_whole (hr.mono (by decide)) hg (dA_cons (dE_idx (dE_var 0 rfl rfl (dE_int ⟨_, _, _, rfl, h1, rfl, dA_nil (mk_call0 (by simp [mfs, mxy.1]) ⟨x, Tx, rfl, hx, rfl, fun _ => ⟨rfl, mk_B ?_⟩⟩)⟩))))))))
        refine iteB (fun zx => ?_) (fun zx => by rw [e, zx] at q; exact q _)
        refine dE_and (dE_go f_whole (hr.mono (by decide)) hg (dA_cons (dE_idx (dE_var 0 rfl rfl (dE_int ⟨_, _, _, rfl, h1, rfl, dA_nil (mk_call0 (by simp [mfs, mxy.2]) ⟨y, Ty, rfl, hy, rfl, fun _ => ⟨rfl, mk_B ?_⟩⟩)⟩)))))
        refine iteB (fun zy => ?_) (fun zy => by rw [e, zx, zy] at q; exact q _)
        obtain ⟨b, rfl⟩ : ∃ b, y = .int b := by cases y <;> simp [wholeD] at zy <;> exact ⟨_, rfl⟩
        refine dE_one (dE_cmp od_gt (dE_idx (dE_var 0 rfl rfl (dE_int ⟨_, _, _, rfl, h1, rfl, dE_int (mk_I0 ?_)⟩))))
        rw [e, zx, zy] at q
        exact q _
end
end Law

/-! M4: the ratios' law: is_ratio, lowest. -/
namespace Law
open PySem PySem.Spec PyProof.Rows L2 DL
local macro_rules | `(tactic| walk_at "lz") => `(tactic| first | exact pen_len | (rw [sizeLine_eq]; simp; done) | (rw [sizeLine_eq]; simp; omega))
section
variable {P : Program} {w : World} {K : PySem.W.Frag} {mg : Str → Option Value} {base : Heap}
def tupB : Dt → Bool
  | .tup _ => true
  | _ => false
def ratioD (d : Dt) : Bool := wholeD d || (tupB d && pairD d)
def rRatio : Spc := fun ds μ Q _ => ∃ d, ds = [d] ∧ Plain1 d ∧ d.mf = true ∧ μ = [] ∧ ∀ μ', Q (.bl (ratioD d)) μ'
theorem kitTup {d : Dt} {T : String} (h : tyS d = some T) : PySem.W.kitOne K (.type T) (.type "tuple") = some (tupB d) := by
  cases d <;> simp only [tyS, Option.some.injEq, reduceCtorEq] at h <;> subst h
  · exact kit_ty (show kitB _ _ = some false by decide +kernel)
  · exact kit_ty (show kitB _ _ = some false by decide +kernel)
  · exact kit_ty (show kitB _ _ = some false by decide +kernel)
  · exact kit_ty (show kitB _ _ = some false by decide +kernel)
  · exact kit_ty (show kitB _ _ = some false by decide +kernel)
  · exact kit_ty (show kitB _ _ = some true by decide +kernel)
  · exact kit_ty (show kitB _ _ = some false by decide +kernel)
abbrev sRatio : Stmt := tp 14
theorem scRatio : FnScope ["value"] ["value"] (defScope sRatio) := ⟨rfl, rfl, rfl, by decide +kernel, rfl, by decide +kernel, by decide +kernel⟩
theorem okRatio {f : Addr} {fd : FuncData} (F : Fun K "is_ratio" "is_ratio" sRatio f fd) (f_whole : DefP P w K mg base 1 "is_whole" ["value"] rWhole) (f_pair : DefP P w K mg base 2 "is_pair" ["value"] rPair) (n_isinstance : mg "isinstance" = none) (n_tuple : mg "tuple" = none) : FnG P w K mg base 3 f fd ["value"] rRatio := by
  refine FnG.of F scRatio (fun ds μ Q J ⟨d, e, _⟩ => by rw [e]; rfl) fun cdv A outer s H E ds μ Q J hr hg ⟨d, e, hp, hmf, e2, q⟩ => ?_
  subst e e2
  obtain ⟨T, hT⟩ := hp.1
  have m1 : mfs [d] = true := by simp [mfs, hmf]
  unfold ratioD at q
  refine dSs_cons (dS_ret (dE_or (dE_go f_whole (hr.mono (by decide)) hg (dA_cons (dE_var 0 rfl rfl (dA_nil (mk_call0 m1 ⟨d, T, rfl, hT, rfl, fun _ => ⟨rfl, mk_B ?_⟩⟩)))))))
  refine iteB (fun z => by rw [z] at q; exact q _) (fun z => ?_)
  rw [z] at q
  refine dE_one (dE_and (dE_callB (hv := Boot.«isinstance») cd_isi n_isinstance (dA_cons (dE_var 0 rfl rfl (dA_cons (dE_bty (hv := Boot.«tuple») (T := "tuple") n_tuple (dA_nil ⟨_, _, _, _, _, rfl, .ty "tuple", tyM_of hT, kitTup hT, mk_B ?_⟩)))))))
  refine iteB (fun z => ?_) (fun z => by rw [z] at q; exact q _)
  rw [z] at q
  exact dE_one (dE_go f_pair hr hg (dA_cons (dE_var 0 rfl rfl (dA_nil (mk_call0 m1 ⟨d, rfl, hp, hmf, rfl, fun _ => ⟨rfl, q _⟩⟩)))))
/-! ### lowest terms -/
def sgG (t b : Int) : Int := if 0 < b then (Int.gcd t b : Int) else -(Int.gcd t b : Int)
def lowQ (t b : Int) : Int × Int := (t.fdiv (sgG t b), b.fdiv (sgG t b))
def qD (p : Int × Int) : Dt := .tup [.int p.1, .int p.2]
theorem sgG_ok {t b : Int} (h : b ≠ 0) (hb : b.natAbs < 1073741824) : CDivN 0 (sgG t b) := by
  have h1 : 0 < Int.gcd t b := Int.gcd_pos_of_ne_zero_right t h
  have h2 : Int.gcd t b ≤ b.natAbs := Nat.le_of_dvd (by omega) (Int.gcd_dvd_natAbs_right t b)
  unfold sgG
  split
  · exact ⟨by omega, by omega⟩
  · exact ⟨by omega, by omega⟩
def rLow : Spc := fun ds μ Q _ => ∃ t b : Int, ds = [.int t, .int b] ∧ b ≠ 0 ∧ b.natAbs < 1073741824 ∧ μ = [] ∧ ∀ μ', Q (qD (lowQ t b)) μ'
abbrev sLow : Stmt := tp 15
theorem scLow : FnScope ["top", "bottom", "by"] ["top", "bottom"] (defScope sLow) := ⟨rfl, rfl, rfl, by decide +kernel, rfl, by decide +kernel, by decide +kernel⟩
theorem okLow {f : Addr} {fd : FuncData} (F : Fun K "lowest" "lowest" sLow f fd) (m_gcd : mg "gcd" = some (.builtin "math.gcd")) : FnG P w K mg base 1 f fd ["top", "bottom"] rLow := by
  refine FnG.of F scLow (fun ds μ Q J ⟨t, b, e, _⟩ => by rw [e]; rfl) fun cdv A outer s H E ds μ Q J hr hg ⟨t, b, e, h0, hb, e2, q⟩ => ?_
  subst e e2
  have hN : (["top", "bottom", "by"] : List Str).Nodup := by decide +kernel
  have ok := sgG_ok (t := t) h0 hb
  refine dSs_cons (dS_set 2 hN rfl (dE_ifExp (dT_cmp od_gt (dE_var 1 rfl rfl (dE_int (mk_I0 (mk_B ?_)))))))
  have rest : ∀ g : Int, g = sgG t b → dSs (cxOf (L2.CX P w) P w K mg base ["top", "bottom", "by"] "lowest" (defScope sLow) f cdv A outer s H E) J ((defBody sLow).drop 1) [some (.int t), some (.int b), some (.int g)] [] { nx := fun _ μ' => Q .non μ', rt := Q } := by
    intro g eg
    subst eg
    refine dSs_cons (dS_ret (dE_tup (dA_cons (dE_bin od_fdivN (dE_var 0 rfl rfl (dE_var 2 rfl rfl (mk_I (C := CDivN) ok (dA_cons (dE_bin od_fdivN (dE_var 1 rfl rfl (dE_var 2 rfl rfl (mk_I (C := CDivN) ok (dA_nil ⟨by walk_at "lz", q _⟩)))))))))))))
  refine iteD (fun h => ?_) (fun h => ?_)
  · refine dE_callBf cd_gcd m_gcd (dA_cons (dE_var 0 rfl rfl (dA_cons (dE_var 1 rfl rfl (dA_nil ⟨_, _, rfl, ?_⟩)))))
    exact rest _ (by unfold sgG; rw [if_pos h])
  · refine dE_neg (dE_callBf cd_gcd m_gcd (dA_cons (dE_var 0 rfl rfl (dA_cons (dE_var 1 rfl rfl (dA_nil ⟨_, _, rfl, _, rfl, ?_⟩))))))
    exact rest _ (by unfold sgG; rw [if_neg h])
end
end Law

/-! M5: the ratios' law: told. -/
namespace Law
open PySem PySem.Spec PyProof.Rows L2 DL
local macro_rules | `(tactic| walk_at "lz") => `(tactic| first | exact pen_len | (rw [sizeLine_eq]; simp; done) | (rw [sizeLine_eq]; simp; omega))
section
variable {P : Program} {w : World} {K : PySem.W.Frag} {mg : Str → Option Value} {base : Heap}
def toldL : List Dt → Option (Int × Int)
  | [.int a, .int b] => if 0 < b then some (lowQ a b) else none
  | _ => none
def toldD : Dt → Option (Int × Int)
  | .int i => some (i, 1)
  | d => toldL (itemsD d)
def SmallP (d : Dt) : Prop := ∀ a b : Int, itemsD d = [.int a, .int b] → b.natAbs < 1073741824
def rTold (CR : Addr) : Spc := fun ds μ Q J => ∃ d, ds = [d] ∧ Plain1 d ∧ d.mf = true ∧ SmallP d ∧ μ = [] ∧ (∀ p, toldD d = some p → ∀ μ', Q (qD p) μ') ∧ (toldD d = none → ∀ μ', J CR (erF ["row"] [d]) μ')
abbrev sTold : Stmt := tp 16
theorem scTold : FnScope ["ratio"] ["ratio"] (defScope sTold) := ⟨rfl, rfl, rfl, by decide +kernel, rfl, by decide +kernel, by decide +kernel⟩
theorem pairL_ex {l : List Dt} (h : pairL l = true) : ∃ a b : Int, l = [.int a, .int b] ∧ 0 < b := by
  match l, h with
  | [.int a, .int b], h => exact ⟨a, b, rfl, of_decide_eq_true h⟩
theorem toldL_none {l : List Dt} (h : pairL l = false) : toldL l = none := by
  unfold toldL
  split
  · rename_i a b
    rw [if_neg (of_decide_eq_false h)]
  · rfl
theorem items_seq {d : Dt} {x : Dt} {l : List Dt} (h : itemsD d = x :: l) : seqD d = true := by cases d <;> simp [itemsD] at h <;> rfl
theorem okTold {CR : Addr} {f : Addr} {fd : FuncData} (F : Fun K "told" "told" sTold f fd) (f_whole : DefP P w K mg base 1 "is_whole" ["value"] rWhole) (f_pair : DefP P w K mg base 2 "is_pair" ["value"] rPair) (f_low : DefP P w K mg base 1 "lowest" ["top", "bottom"] rLow)
    (Er : ErK P w K mg base CR ["row"]) (gR : mg "BadRow" = some (.ref CR)) : FnG P w K mg base 3 f fd ["ratio"] (rTold CR) := by
  refine FnG.of F scTold (fun ds μ Q J ⟨d, e, _⟩ => by rw [e]; rfl) fun cdv A outer s H E ds μ Q J hr hg ⟨d, e, hp, hmf, hsm, e2, q, j⟩ => ?_
  subst e e2
  obtain ⟨T, hT⟩ := hp.1
  have m1 : mfs [d] = true := by simp [mfs, hmf]
  refine dSs_cons (dS_if (dT_val (dE_go f_whole (hr.mono (by decide)) hg (dA_cons (dE_var 0 rfl rfl (dA_nil (mk_call0 m1 ⟨d, T, rfl, hT, rfl, fun _ => ⟨rfl, mk_B ?_⟩⟩)))))))
  refine iteB (fun z => ?_) (fun z => dSs_nil ?_)
  · obtain ⟨i, rfl⟩ : ∃ i, d = .int i := by cases d <;> simp [wholeD] at z <;> exact ⟨_, rfl⟩
    exact dSs_cons (dS_ret (dE_tup (dA_cons (dE_var 0 rfl rfl (dA_cons (dE_int (dA_nil ⟨by walk_at "lz", q _ rfl _⟩)))))))
  · have eT : toldD d = toldL (itemsD d) := by cases d <;> simp [wholeD] at z <;> rfl
    refine dSs_cons (dS_if (dT_not (dT_val (dE_go f_pair hr hg (dA_cons (dE_var 0 rfl rfl (dA_nil (mk_call0 m1 ⟨d, rfl, hp, hmf, rfl, fun _ => ⟨rfl, mk_B ?_⟩⟩))))))))
    cases hpd : pairD d with
    | false =>
      refine iteB (fun _ => ?_) (fun z => by cases z)
      refine dSs_cons (dS_raiseE rfl Er hr gR (by simp) (dA_cons (dE_var 0 rfl rfl (dA_nil ⟨rfl, ?_⟩))))
      exact j (by rw [eT]; exact toldL_none hpd) _
    | true =>
      refine iteB (fun z => by cases z) (fun _ => dSs_nil ?_)
      obtain ⟨a, b, hit, hb⟩ := pairL_ex hpd
      have h1 := (seq_items (items_seq hit) []).1
      rw [hit] at h1
      refine dSs_cons (dS_ret (dE_go f_low (hr.mono (by decide)) hg (dA_cons (dE_idx (dE_var 0 rfl rfl (dE_int ⟨_, _, _, rfl, h1, rfl, dA_cons (dE_idx (dE_var 0 rfl rfl (dE_int ⟨_, _, _, rfl, h1, rfl, dA_nil (mk_call0 rfl ⟨a, b, rfl, by omega, hsm a b hit, rfl, fun _ => ⟨rfl, q _ ?_ _⟩⟩)⟩)))⟩))))))
      rw [eT, hit]
      exact if_pos hb
end
end Law

/-! M6: the ratios' law: sums, differences, products, shares of told ratios. -/
namespace Law
open PySem PySem.Spec PyProof.Rows L2 DL
local macro_rules | `(tactic| walk_at "sd") => `(tactic| first | assumption | exact Or.inl ‹_›)
section
variable {P : Program} {w : World} {K : PySem.W.Frag} {mg : Str → Option Value} {base : Heap}
def Sm (i : Int) : Prop := -(2 ^ 64) < i ∧ i < 2 ^ 64
def SmP (p : Int × Int) : Prop := Sm p.1 ∧ Sm p.2
def rOp (t b : Int × Int → Int × Int → Int) : Spc := fun ds μ Q _ => ∃ p r, ds = [qD p, qD r] ∧ SmP p ∧ SmP r ∧ b p r ≠ 0 ∧ (b p r).natAbs < 1073741824 ∧ μ = [] ∧ ∀ μ', Q (qD (lowQ (t p r) (b p r))) μ'
def rCmp (t : Int × Int → Int × Int → Bool) : Spc := fun ds μ Q _ => ∃ p r, ds = [qD p, qD r] ∧ SmP p ∧ SmP r ∧ μ = [] ∧ ∀ μ', Q (.bl (t p r)) μ'
abbrev sSummed : Stmt := tp 17
theorem scSummed : FnScope ["one", "other"] ["one", "other"] (defScope sSummed) := ⟨rfl, rfl, rfl, by decide +kernel, rfl, by decide +kernel, by decide +kernel⟩
theorem okSummed {f : Addr} {fd : FuncData} (F : Fun K "summed" "summed" sSummed f fd) (f_low : DefP P w K mg base 1 "lowest" ["top", "bottom"] rLow) : FnG P w K mg base 2 f fd ["one", "other"] (rOp (fun p r => p.1 * r.2 + r.1 * p.2) (fun p r => p.2 * r.2)) := by
  refine FnG.of F scSummed (fun ds μ Q J ⟨p, r, e, _⟩ => by rw [e]; rfl) fun cdv A outer s H E ds μ Q J hr hg ⟨p, r, e, hp, hr2, h0, h1, e2, q⟩ => ?_
  subst e e2
  refine dSs_cons (dS_ret (dE_go f_low hr hg (dA_cons (dE_bin od_add (dE_bin od_mul (dE_idx (dE_var 0 rfl rfl (dE_int ⟨_, _, _, rfl, rfl, rfl, dE_idx (dE_var 1 rfl rfl (dE_int ⟨_, _, _, rfl, rfl, rfl, mk_I (C := CMul) (.inl ⟨hp.1.1, hp.1.2⟩) (dE_bin od_mul (dE_idx (dE_var 1 rfl rfl (dE_int ⟨_, _, _, rfl, rfl, rfl, dE_idx (dE_var 0 rfl rfl (dE_int ⟨_, _, _, rfl, rfl, rfl, mk_I (C := CMul) (.inl ⟨hr2.1.1, hr2.1.2⟩) (mk_I0 (dA_cons (dE_bin od_mul (dE_idx (dE_var 0 rfl rfl (dE_int ⟨_, _, _, rfl, rfl, rfl, dE_idx (dE_var 1 rfl rfl (dE_int ⟨_, _, _, rfl, rfl, rfl, mk_I (C := CMul) (.inl ⟨hp.2.1, hp.2.2⟩) (dA_nil (mk_call0 rfl ⟨_, _, rfl, h0, h1, rfl, fun _ => ⟨rfl, q _⟩⟩))⟩))⟩))))))⟩))⟩))))⟩))⟩))))))))
abbrev sLessened : Stmt := tp 18
theorem scLessened : FnScope ["one", "other"] ["one", "other"] (defScope sLessened) := ⟨rfl, rfl, rfl, by decide +kernel, rfl, by decide +kernel, by decide +kernel⟩
theorem okLessened {f : Addr} {fd : FuncData} (F : Fun K "lessened" "lessened" sLessened f fd) (f_low : DefP P w K mg base 1 "lowest" ["top", "bottom"] rLow) : FnG P w K mg base 2 f fd ["one", "other"] (rOp (fun p r => p.1 * r.2 - r.1 * p.2) (fun p r => p.2 * r.2)) := by
  refine FnG.of F scLessened (fun ds μ Q J ⟨p, r, e, _⟩ => by rw [e]; rfl) fun cdv A outer s H E ds μ Q J hr hg ⟨p, r, e, hp, hr2, h0, h1, e2, q⟩ => ?_
  subst e e2
  refine dSs_cons (dS_ret (dE_go f_low hr hg (dA_cons (dE_bin od_sub (dE_bin od_mul (dE_idx (dE_var 0 rfl rfl (dE_int ⟨_, _, _, rfl, rfl, rfl, dE_idx (dE_var 1 rfl rfl (dE_int ⟨_, _, _, rfl, rfl, rfl, mk_I (C := CMul) (.inl ⟨hp.1.1, hp.1.2⟩) (dE_bin od_mul (dE_idx (dE_var 1 rfl rfl (dE_int ⟨_, _, _, rfl, rfl, rfl, dE_idx (dE_var 0 rfl rfl (dE_int ⟨_, _, _, rfl, rfl, rfl, mk_I (C := CMul) (.inl ⟨hr2.1.1, hr2.1.2⟩) (mk_I0 (dA_cons (dE_bin od_mul (dE_idx (dE_var 0 rfl rfl (dE_int ⟨_, _, _, rfl, rfl, rfl, dE_idx (dE_var 1 rfl rfl (dE_int ⟨_, _, _, rfl, rfl, rfl, mk_I (C := CMul) (.inl ⟨hp.2.1, hp.2.2⟩) (dA_nil (mk_call0 rfl ⟨_, _, rfl, h0, h1, rfl, fun _ => ⟨rfl, q _⟩⟩))⟩))⟩))))))⟩))⟩))))⟩))⟩))))))))
abbrev sScaled : Stmt := tp 19
theorem scScaled : FnScope ["one", "other"] ["one", "other"] (defScope sScaled) := ⟨rfl, rfl, rfl, by decide +kernel, rfl, by decide +kernel, by decide +kernel⟩
theorem okScaled {f : Addr} {fd : FuncData} (F : Fun K "scaled" "scaled" sScaled f fd) (f_low : DefP P w K mg base 1 "lowest" ["top", "bottom"] rLow) : FnG P w K mg base 2 f fd ["one", "other"] (rOp (fun p r => p.1 * r.1) (fun p r => p.2 * r.2)) := by
  refine FnG.of F scScaled (fun ds μ Q J ⟨p, r, e, _⟩ => by rw [e]; rfl) fun cdv A outer s H E ds μ Q J hr hg ⟨p, r, e, hp, hr2, h0, h1, e2, q⟩ => ?_
  subst e e2
  refine dSs_cons (dS_ret (dE_go f_low hr hg (dA_cons (dE_bin od_mul (dE_idx (dE_var 0 rfl rfl (dE_int ⟨_, _, _, rfl, rfl, rfl, dE_idx (dE_var 1 rfl rfl (dE_int ⟨_, _, _, rfl, rfl, rfl, mk_I (C := CMul) (.inl ⟨hp.1.1, hp.1.2⟩) (dA_cons (dE_bin od_mul (dE_idx (dE_var 0 rfl rfl (dE_int ⟨_, _, _, rfl, rfl, rfl, dE_idx (dE_var 1 rfl rfl (dE_int ⟨_, _, _, rfl, rfl, rfl, mk_I (C := CMul) (.inl ⟨hp.2.1, hp.2.2⟩) (dA_nil (mk_call0 rfl ⟨_, _, rfl, h0, h1, rfl, fun _ => ⟨rfl, q _⟩⟩))⟩))⟩)))))⟩))⟩)))))))
abbrev sParted : Stmt := tp 20
theorem scParted : FnScope ["one", "other"] ["one", "other"] (defScope sParted) := ⟨rfl, rfl, rfl, by decide +kernel, rfl, by decide +kernel, by decide +kernel⟩
theorem okParted {f : Addr} {fd : FuncData} (F : Fun K "parted" "parted" sParted f fd) (f_low : DefP P w K mg base 1 "lowest" ["top", "bottom"] rLow) : FnG P w K mg base 2 f fd ["one", "other"] (rOp (fun p r => p.1 * r.2) (fun p r => p.2 * r.1)) := by
  refine FnG.of F scParted (fun ds μ Q J ⟨p, r, e, _⟩ => by rw [e]; rfl) fun cdv A outer s H E ds μ Q J hr hg ⟨p, r, e, hp, hr2, h0, h1, e2, q⟩ => ?_
  subst e e2
  refine dSs_cons (dS_ret (dE_go f_low hr hg (dA_cons (dE_bin od_mul (dE_idx (dE_var 0 rfl rfl (dE_int ⟨_, _, _, rfl, rfl, rfl, dE_idx (dE_var 1 rfl rfl (dE_int ⟨_, _, _, rfl, rfl, rfl, mk_I (C := CMul) (.inl ⟨hp.1.1, hp.1.2⟩) (dA_cons (dE_bin od_mul (dE_idx (dE_var 0 rfl rfl (dE_int ⟨_, _, _, rfl, rfl, rfl, dE_idx (dE_var 1 rfl rfl (dE_int ⟨_, _, _, rfl, rfl, rfl, mk_I (C := CMul) (.inl ⟨hp.2.1, hp.2.2⟩) (dA_nil (mk_call0 rfl ⟨_, _, rfl, h0, h1, rfl, fun _ => ⟨rfl, q _⟩⟩))⟩))⟩)))))⟩))⟩)))))))
abbrev sBelow : Stmt := tp 21
theorem scBelow : FnScope ["one", "other"] ["one", "other"] (defScope sBelow) := ⟨rfl, rfl, rfl, by decide +kernel, rfl, by decide +kernel, by decide +kernel⟩
theorem okBelow {f : Addr} {fd : FuncData} (F : Fun K "below" "below" sBelow f fd) : FnG P w K mg base 1 f fd ["one", "other"] (rCmp (fun p r => decide (p.1 * r.2 < r.1 * p.2))) := by
  refine FnG.of F scBelow (fun ds μ Q J ⟨p, r, e, _⟩ => by rw [e]; rfl) fun cdv A outer s H E ds μ Q J hr hg ⟨p, r, e, hp, hr2, e2, q⟩ => ?_
  subst e e2
  refine dSs_cons (dS_ret (dE_cmp od_lt (dE_bin od_mul (dE_idx (dE_var 0 rfl rfl (dE_int ⟨_, _, _, rfl, rfl, rfl, dE_idx (dE_var 1 rfl rfl (dE_int ⟨_, _, _, rfl, rfl, rfl, mk_I (C := CMul) (.inl ⟨hp.1.1, hp.1.2⟩) (dE_bin od_mul (dE_idx (dE_var 1 rfl rfl (dE_int ⟨_, _, _, rfl, rfl, rfl, dE_idx (dE_var 0 rfl rfl (dE_int ⟨_, _, _, rfl, rfl, rfl, mk_I (C := CMul) (.inl ⟨hr2.1.1, hr2.1.2⟩) (mk_I0 (q _))⟩))⟩))))⟩))⟩))))))
end
end Law

/-! M7: the ratios' law: plus, minus, times, less. -/
namespace Law
open PySem PySem.Spec PyProof.Rows L2 DL
local macro_rules | `(tactic| walk_at "lz") => `(tactic| first | exact pen_len | (rw [sizeLine_eq]; simp; done) | (rw [sizeLine_eq]; simp; omega))
section
variable {P : Program} {w : World} {K : PySem.W.Frag} {mg : Str → Option Value} {base : Heap}
/-- two values are told, one after the other; then R of what they are -/
def rTwo (CR : Addr) (R : Spc) : Spc := fun ds μ Q J => ∃ d e, ds = [d, e] ∧ Plain1 d ∧ d.mf = true ∧ SmallP d ∧ Plain1 e ∧ e.mf = true ∧ SmallP e ∧ μ = [] ∧
  (toldD d = none → ∀ μ', J CR (erF ["row"] [d]) μ') ∧ (∀ p, toldD d = some p → toldD e = none → ∀ μ', J CR (erF ["row"] [e]) μ') ∧
  ∀ p r, toldD d = some p → toldD e = some r → R [qD p, qD r] [] Q J
theorem qD_mf (p : Int × Int) : (qD p).mf = true := rfl
abbrev sPlus : Stmt := tp 22
theorem scPlus : FnScope ["one", "other", "first", "second"] ["one", "other"] (defScope sPlus) := ⟨rfl, rfl, rfl, by decide +kernel, rfl, by decide +kernel, by decide +kernel⟩
theorem okPlus {CR : Addr} {f : Addr} {fd : FuncData} (F : Fun K "plus" "plus" sPlus f fd) (f_told : DefP P w K mg base 3 "told" ["ratio"] (rTold CR)) (f_in : DefP P w K mg base 2 "summed" ["one", "other"] (rOp (fun p r => p.1 * r.2 + r.1 * p.2) (fun p r => p.2 * r.2))) : FnG P w K mg base 4 f fd ["one", "other"] (rTwo CR (rOp (fun p r => p.1 * r.2 + r.1 * p.2) (fun p r => p.2 * r.2))) := by
  refine FnG.of F scPlus (fun ds μ Q J ⟨d, e, e1, _⟩ => by rw [e1]; rfl) fun cdv A outer s H E ds μ Q J hr hg ⟨d, e, e1, pd, md, sd, pe, me, se, e2, j1, j2, q⟩ => ?_
  subst e1 e2
  have hN : (["one", "other", "first", "second"] : List Str).Nodup := by decide +kernel
  refine dSs_cons (dS_par 2 3 rfl hN rfl rfl (dA_cons (dE_go f_told hr hg (dA_cons (dE_var 0 rfl rfl (dA_nil (mk_call0 (by simp [mfs, md]) ⟨d, rfl, pd, md, sd, rfl, fun p hp _ => ⟨rfl, ?_⟩, fun hn _ => ⟨by simp [erF, mff, md], j1 hn _⟩⟩)))))))
  refine dA_cons (dE_go f_told hr hg (dA_cons (dE_var 1 rfl rfl (dA_nil (mk_call0 (by simp [mfs, me]) ⟨e, rfl, pe, me, se, rfl, fun r hr3 _ => ⟨rfl, ?_⟩, fun hn _ => ⟨by simp [erF, mff, me], j2 p hp hn _⟩⟩)))))
  refine dA_nil ⟨_, _, rfl, ?_⟩
  obtain ⟨p1, r1, e1, h1, h2, h3, h4, _, q5⟩ := q p r hp hr3
  obtain ⟨rfl, rfl⟩ : p = p1 ∧ r = r1 := by
    simp only [List.cons.injEq, qD, Dt.tup.injEq, Dt.int.injEq, and_true] at e1
    exact ⟨Prod.ext e1.1.1 e1.1.2, Prod.ext e1.2.1 e1.2.2⟩
  exact dSs_cons (dS_ret (dE_go f_in (hr.mono (by decide)) hg (dA_cons (dE_var 2 rfl rfl (dA_cons (dE_var 3 rfl rfl (dA_nil (mk_call0 rfl ⟨p, r, rfl, h1, h2, h3, h4, rfl, fun _ => ⟨rfl, q5 _⟩⟩))))))))
abbrev sMinus : Stmt := tp 23
theorem scMinus : FnScope ["one", "other", "first", "second"] ["one", "other"] (defScope sMinus) := ⟨rfl, rfl, rfl, by decide +kernel, rfl, by decide +kernel, by decide +kernel⟩
theorem okMinus {CR : Addr} {f : Addr} {fd : FuncData} (F : Fun K "minus" "minus" sMinus f fd) (f_told : DefP P w K mg base 3 "told" ["ratio"] (rTold CR)) (f_in : DefP P w K mg base 2 "lessened" ["one", "other"] (rOp (fun p r => p.1 * r.2 - r.1 * p.2) (fun p r => p.2 * r.2))) : FnG P w K mg base 4 f fd ["one", "other"] (rTwo CR (rOp (fun p r => p.1 * r.2 - r.1 * p.2) (fun p r => p.2 * r.2))) := by
  refine FnG.of F scMinus (fun ds μ Q J ⟨d, e, e1, _⟩ => by rw [e1]; rfl) fun cdv A outer s H E ds μ Q J hr hg ⟨d, e, e1, pd, md, sd, pe, me, se, e2, j1, j2, q⟩ => ?_
  subst e1 e2
  have hN : (["one", "other", "first", "second"] : List Str).Nodup := by decide +kernel
  refine dSs_cons (dS_par 2 3 rfl hN rfl rfl (dA_cons (dE_go f_told hr hg (dA_cons (dE_var 0 rfl rfl (dA_nil (mk_call0 (by simp [mfs, md]) ⟨d, rfl, pd, md, sd, rfl, fun p hp _ => ⟨rfl, ?_⟩, fun hn _ => ⟨by simp [erF, mff, md], j1 hn _⟩⟩)))))))
  refine dA_cons (dE_go f_told hr hg (dA_cons (dE_var 1 rfl rfl (dA_nil (mk_call0 (by simp [mfs, me]) ⟨e, rfl, pe, me, se, rfl, fun r hr3 _ => ⟨rfl, ?_⟩, fun hn _ => ⟨by simp [erF, mff, me], j2 p hp hn _⟩⟩)))))
  refine dA_nil ⟨_, _, rfl, ?_⟩
  obtain ⟨p1, r1, e1, h1, h2, h3, h4, _, q5⟩ := q p r hp hr3
  obtain ⟨rfl, rfl⟩ : p = p1 ∧ r = r1 := by
    simp only [List.cons.injEq, qD, Dt.tup.injEq, Dt.int.injEq, and_true] at e1
    exact ⟨Prod.ext e1.1.1 e1.1.2, Prod.ext e1.2.1 e1.2.2⟩
  exact dSs_cons (dS_ret (dE_go f_in (hr.mono (by decide)) hg (dA_cons (dE_var 2 rfl rfl (dA_cons (dE_var 3 rfl rfl (dA_nil (mk_call0 rfl ⟨p, r, rfl, h1, h2, h3, h4, rfl, fun _ => ⟨rfl, q5 _⟩⟩))))))))
abbrev sTimes : Stmt := tp 24
theorem scTimes : FnScope ["one", "other", "first", "second"] ["one", "other"] (defScope sTimes) := ⟨rfl, rfl, rfl, by decide +kernel, rfl, by decide +kernel, by decide +kernel⟩
theorem okTimes {CR : Addr} {f : Addr} {fd : FuncData} (F : Fun K "times" "times" sTimes f fd) (f_told : DefP P w K mg base 3 "told" ["ratio"] (rTold CR)) (f_in : DefP P w K mg base 2 "scaled" ["one", "other"] (rOp (fun p r => p.1 * r.1) (fun p r => p.2 * r.2))) : FnG P w K mg base 4 f fd ["one", "other"] (rTwo CR (rOp (fun p r => p.1 * r.1) (fun p r => p.2 * r.2))) := by
  refine FnG.of F scTimes (fun ds μ Q J ⟨d, e, e1, _⟩ => by rw [e1]; rfl) fun cdv A outer s H E ds μ Q J hr hg ⟨d, e, e1, pd, md, sd, pe, me, se, e2, j1, j2, q⟩ => ?_
  subst e1 e2
  have hN : (["one", "other", "first", "second"] : List Str).Nodup := by decide +kernel
  refine dSs_cons (dS_par 2 3 rfl hN rfl rfl (dA_cons (dE_go f_told hr hg (dA_cons (dE_var 0 rfl rfl (dA_nil (mk_call0 (by simp [mfs, md]) ⟨d, rfl, pd, md, sd, rfl, fun p hp _ => ⟨rfl, ?_⟩, fun hn _ => ⟨by simp [erF, mff, md], j1 hn _⟩⟩)))))))
  refine dA_cons (dE_go f_told hr hg (dA_cons (dE_var 1 rfl rfl (dA_nil (mk_call0 (by simp [mfs, me]) ⟨e, rfl, pe, me, se, rfl, fun r hr3 _ => ⟨rfl, ?_⟩, fun hn _ => ⟨by simp [erF, mff, me], j2 p hp hn _⟩⟩)))))
  refine dA_nil ⟨_, _, rfl, ?_⟩
  obtain ⟨p1, r1, e1, h1, h2, h3, h4, _, q5⟩ := q p r hp hr3
  obtain ⟨rfl, rfl⟩ : p = p1 ∧ r = r1 := by
    simp only [List.cons.injEq, qD, Dt.tup.injEq, Dt.int.injEq, and_true] at e1
    exact ⟨Prod.ext e1.1.1 e1.1.2, Prod.ext e1.2.1 e1.2.2⟩
  exact dSs_cons (dS_ret (dE_go f_in (hr.mono (by decide)) hg (dA_cons (dE_var 2 rfl rfl (dA_cons (dE_var 3 rfl rfl (dA_nil (mk_call0 rfl ⟨p, r, rfl, h1, h2, h3, h4, rfl, fun _ => ⟨rfl, q5 _⟩⟩))))))))
abbrev sLess : Stmt := tp 26
theorem scLess : FnScope ["one", "other", "first", "second"] ["one", "other"] (defScope sLess) := ⟨rfl, rfl, rfl, by decide +kernel, rfl, by decide +kernel, by decide +kernel⟩
theorem okLess {CR : Addr} {f : Addr} {fd : FuncData} (F : Fun K "less" "less" sLess f fd) (f_told : DefP P w K mg base 3 "told" ["ratio"] (rTold CR)) (f_in : DefP P w K mg base 1 "below" ["one", "other"] (rCmp (fun p r => decide (p.1 * r.2 < r.1 * p.2)))) : FnG P w K mg base 4 f fd ["one", "other"] (rTwo CR (rCmp (fun p r => decide (p.1 * r.2 < r.1 * p.2)))) := by
  refine FnG.of F scLess (fun ds μ Q J ⟨d, e, e1, _⟩ => by rw [e1]; rfl) fun cdv A outer s H E ds μ Q J hr hg ⟨d, e, e1, pd, md, sd, pe, me, se, e2, j1, j2, q⟩ => ?_
  subst e1 e2
  have hN : (["one", "other", "first", "second"] : List Str).Nodup := by decide +kernel
  refine dSs_cons (dS_par 2 3 rfl hN rfl rfl (dA_cons (dE_go f_told hr hg (dA_cons (dE_var 0 rfl rfl (dA_nil (mk_call0 (by simp [mfs, md]) ⟨d, rfl, pd, md, sd, rfl, fun p hp _ => ⟨rfl, ?_⟩, fun hn _ => ⟨by simp [erF, mff, md], j1 hn _⟩⟩)))))))
  refine dA_cons (dE_go f_told hr hg (dA_cons (dE_var 1 rfl rfl (dA_nil (mk_call0 (by simp [mfs, me]) ⟨e, rfl, pe, me, se, rfl, fun r hr3 _ => ⟨rfl, ?_⟩, fun hn _ => ⟨by simp [erF, mff, me], j2 p hp hn _⟩⟩)))))
  refine dA_nil ⟨_, _, rfl, ?_⟩
  obtain ⟨p1, r1, e1, h1, h2, _, q5⟩ := q p r hp hr3
  obtain ⟨rfl, rfl⟩ : p = p1 ∧ r = r1 := by
    simp only [List.cons.injEq, qD, Dt.tup.injEq, Dt.int.injEq, and_true] at e1
    exact ⟨Prod.ext e1.1.1 e1.1.2, Prod.ext e1.2.1 e1.2.2⟩
  exact dSs_cons (dS_ret (dE_go f_in (hr.mono (by decide)) hg (dA_cons (dE_var 2 rfl rfl (dA_cons (dE_var 3 rfl rfl (dA_nil (mk_call0 rfl ⟨p, r, rfl, h1, h2, rfl, fun _ => ⟨rfl, q5 _⟩⟩))))))))
end
end Law

/-! M8: the ratios' law: share. -/
namespace Law
open PySem PySem.Spec PyProof.Rows L2 DL
section
variable {P : Program} {w : World} {K : PySem.W.Frag} {mg : Str → Option Value} {base : Heap}
/-- share: by 0 is an error behind those of what is told -/
def rShare (CR CB : Addr) : Spc := fun ds μ Q J => ∃ d e, ds = [d, e] ∧ Plain1 d ∧ d.mf = true ∧ SmallP d ∧ Plain1 e ∧ e.mf = true ∧ SmallP e ∧ μ = [] ∧
  (toldD d = none → ∀ μ', J CR (erF ["row"] [d]) μ') ∧ (∀ p, toldD d = some p → toldD e = none → ∀ μ', J CR (erF ["row"] [e]) μ') ∧
  (∀ p r, toldD d = some p → toldD e = some r → r.1 = 0 → ∀ μ', J CB (erF ["what", "number"] [.str "share", .int 0]) μ') ∧
  ∀ p r, toldD d = some p → toldD e = some r → r.1 ≠ 0 → rOp (fun p r => p.1 * r.2) (fun p r => p.2 * r.1) [qD p, qD r] [] Q J
abbrev sShare : Stmt := tp 25
theorem scShare : FnScope ["one", "other", "first", "second"] ["one", "other"] (defScope sShare) := ⟨rfl, rfl, rfl, by decide +kernel, rfl, by decide +kernel, by decide +kernel⟩
theorem okShare {CR CB : Addr} {f : Addr} {fd : FuncData} (F : Fun K "share" "share" sShare f fd) (f_told : DefP P w K mg base 3 "told" ["ratio"] (rTold CR)) (f_in : DefP P w K mg base 2 "parted" ["one", "other"] (rOp (fun p r => p.1 * r.2) (fun p r => p.2 * r.1)))
    (Er : ErK P w K mg base CB ["what", "number"]) (gB : mg "BadNumber" = some (.ref CB)) : FnG P w K mg base 4 f fd ["one", "other"] (rShare CR CB) := by
  refine FnG.of F scShare (fun ds μ Q J ⟨d, e, e1, _⟩ => by rw [e1]; rfl) fun cdv A outer s H E ds μ Q J hr hg ⟨d, e, e1, pd, md, sd, pe, me, se, e2, j1, j2, j3, q⟩ => ?_
  subst e1 e2
  have hN : (["one", "other", "first", "second"] : List Str).Nodup := by decide +kernel
  refine dSs_cons (dS_par 2 3 rfl hN rfl rfl (dA_cons (dE_go f_told hr hg (dA_cons (dE_var 0 rfl rfl (dA_nil (mk_call0 (by simp [mfs, md]) ⟨d, rfl, pd, md, sd, rfl, fun p hp _ => ⟨rfl, ?_⟩, fun hn _ => ⟨by simp [erF, mff, md], j1 hn _⟩⟩)))))))
  refine dA_cons (dE_go f_told hr hg (dA_cons (dE_var 1 rfl rfl (dA_nil (mk_call0 (by simp [mfs, me]) ⟨e, rfl, pe, me, se, rfl, fun r hr3 _ => ⟨rfl, ?_⟩, fun hn _ => ⟨by simp [erF, mff, me], j2 p hp hn _⟩⟩)))))
  refine dA_nil ⟨_, _, rfl, ?_⟩
  refine dSs_cons (dS_if (dT_cmp od_eqF (dE_idx (dE_var 3 rfl rfl (dE_int ⟨_, _, _, rfl, rfl, rfl, dE_int ⟨_, rfl, mk_B ?_⟩⟩)))))
  refine iteB (fun z => ?_) (fun z => dSs_nil ?_)
  · have h0 : r.1 = 0 := by simpa using z
    exact dSs_cons (dS_raiseE rfl Er (hr.mono (by decide)) gB (by simp) (dA_cons (dE_str (dA_cons (dE_int (dA_nil ⟨rfl, j3 p r hp hr3 h0 _⟩))))))
  · have h0 : r.1 ≠ 0 := by simpa using z
    obtain ⟨p1, r1, e1, h1, h2, h3, h4, _, q5⟩ := q p r hp hr3 h0
    obtain ⟨rfl, rfl⟩ : p = p1 ∧ r = r1 := by
      simp only [List.cons.injEq, qD, Dt.tup.injEq, Dt.int.injEq, and_true] at e1
      exact ⟨Prod.ext e1.1.1 e1.1.2, Prod.ext e1.2.1 e1.2.2⟩
    exact dSs_cons (dS_ret (dE_go f_in (hr.mono (by decide)) hg (dA_cons (dE_var 2 rfl rfl (dA_cons (dE_var 3 rfl rfl (dA_nil (mk_call0 rfl ⟨p, r, rfl, h1, h2, h3, h4, rfl, fun _ => ⟨rfl, q5 _⟩⟩))))))))
end
end Law

/-! M9: the ratios' law: its own greatest common part. -/
namespace Law
open PySem PySem.Spec PyProof.Rows L2 DL
/-- what stands behind i laps: x, y of now, y0 the second number -/
def Eu (y0 g i : Nat) (x y : Nat) : Prop := Nat.gcd x y = g ∧ ∃ j, (i = 2 * j ∧ y * 2 ^ j ≤ y0) ∨ (i = 2 * j + 1 ∧ x * 2 ^ j ≤ y0 ∧ y < x)
theorem Eu.start {x y : Nat} : Eu y (Nat.gcd x y) 0 x y := ⟨rfl, 0, .inl ⟨rfl, by simp⟩⟩
theorem Eu.step {y0 g i x y : Nat} (h : Eu y0 g i x y) (hy : 0 < y) : Eu y0 g (i + 1) y (x % y) := by
  obtain ⟨h1, j, h2⟩ := h
  refine ⟨?_, ?_⟩
  · rw [← h1, Nat.gcd_comm x y, Nat.gcd_rec y x, Nat.gcd_comm]
  · rcases h2 with ⟨h2, h3⟩ | ⟨h2, h3, h4⟩
    · exact ⟨j, .inr ⟨by omega, h3, Nat.mod_lt _ hy⟩⟩
    · refine ⟨j + 1, .inl ⟨by omega, ?_⟩⟩
      have h5 : 2 * (x % y) ≤ x := by
        have := Nat.mod_lt x hy
        have h6 := Nat.div_add_mod x y
        have h7 : 1 ≤ x / y := (Nat.one_le_div_iff hy).mpr (Nat.le_of_lt h4)
        have h8 : y * 1 ≤ y * (x / y) := Nat.mul_le_mul_left y h7
        omega
      have h6 : (2 * (x % y)) * 2 ^ j ≤ x * 2 ^ j := Nat.mul_le_mul_right _ h5
      have h7 : (x % y) * 2 ^ (j + 1) = (2 * (x % y)) * 2 ^ j := by rw [Nat.pow_succ]; ac_rfl
      omega
theorem Eu.stop {y0 g n x y : Nat} (h : Eu y0 g (4 + 2 * n) x y) (hb : y0 < 2 ^ n) : x = g := by
  obtain ⟨h1, j, h2⟩ := h
  rcases h2 with ⟨h2, h3⟩ | ⟨h2, _⟩
  · have e : j = n + 2 := by omega
    subst e
    have : y = 0 := by
      rcases Nat.eq_zero_or_pos y with z | z
      · exact z
      · have h4 : 2 ^ n ≤ 2 ^ (n + 2) := Nat.pow_le_pow_right (by decide) (by omega)
        have h5 : 1 * 2 ^ (n + 2) ≤ y * 2 ^ (n + 2) := Nat.mul_le_mul_right _ z
        omega
    subst this
    simpa using h1
  · omega
theorem Eu.done {y0 g i x : Nat} (h : Eu y0 g i x 0) : x = g := by simpa using h.1
end Law

/-! M10: the ratios' law: _law_gcd. -/
namespace Law
open PySem PySem.Spec PyProof.Rows L2 DL
local macro_rules | `(tactic| walk_at "lz") => `(tactic| first | exact pen_len | (rw [sizeLine_eq]; simp; done) | (rw [sizeLine_eq]; simp; omega))
section
variable {P : Program} {w : World} {K : PySem.W.Frag} {mg : Str → Option Value} {base : Heap}
def rGcd : Spc := fun ds μ Q _ => ∃ a b : Int, ds = [.int a, .int b] ∧ b.natAbs < 2 ^ 60 ∧ μ = [] ∧ ∀ μ', Q (.int (Int.gcd a b)) μ'
abbrev sGcd : Stmt := tp 31
theorem scGcd : FnScope ["one", "two", "lap"] ["one", "two"] (defScope sGcd) := ⟨rfl, rfl, rfl, by decide +kernel, rfl, by decide +kernel, by decide +kernel⟩
theorem abs_nat (a : Int) : (if a < 0 then -a else a) = (a.natAbs : Int) := by split <;> omega
theorem bits_nat {b : Nat} : b < 2 ^ (Builtin.Int.intBits (b : Int)) ∧ (b < 2 ^ 60 → Builtin.Int.intBits (b : Int) ≤ 60) := by
  unfold Builtin.Int.intBits
  by_cases h : b = 0
  · subst h; simp
  · have h0 : ¬ ((b : Int) = 0) := by omega
    simp only [Int.natAbs_natCast]
    split
    · rename_i z
      simp at z
      omega
    · exact ⟨Nat.lt_log2_self, fun z => (Nat.log2_lt h).mpr z⟩
theorem okGcd {f : Addr} {fd : FuncData} (F : Fun K "_law_gcd" "_law_gcd" sGcd f fd) (n_int : mg "int" = none) (n_abs : mg "abs" = none) (n_range : mg "range" = none) : FnG P w K mg base 1 f fd ["one", "two"] rGcd := by
  refine FnG.of F scGcd (fun ds μ Q J ⟨a, b, e, _⟩ => by rw [e]; rfl) fun cdv A outer s H E ds μ Q J hr hg ⟨a, b, e, hb, e2, q⟩ => ?_
  subst e e2
  have hN : (["one", "two", "lap"] : List Str).Nodup := by decide +kernel
  refine dSs_cons (dS_par 0 1 rfl hN rfl rfl (dA_cons (dE_callB (hv := Boot.«abs») cd_abs n_abs (dA_cons (dE_var 0 rfl rfl (dA_nil ⟨a, rfl, dA_cons (dE_callB (hv := Boot.«abs») cd_abs n_abs (dA_cons (dE_var 1 rfl rfl (dA_nil ⟨b, rfl, dA_nil ⟨_, _, rfl, ?_⟩⟩))))⟩))))))
  rw [abs_nat, abs_nat]
  show dSs _ _ _ [some (.int a.natAbs), some (.int b.natAbs), none] [] _
  obtain ⟨b1, b2⟩ := bits_nat (b := b.natAbs)
  have b3 := b2 hb
  refine dSs_cons (dS_for (passes_of rfl) rfl (dI_range1 n_range (dA_cons (dE_bin od_add (dE_int (dE_bin od_mul (dE_int (dE_bits (dE_callTy (hv := Boot.«int») cd_int n_int (dA_cons (dE_var 1 rfl rfl (dA_nil (.inl ⟨_, rfl, ⟨_, rfl, mk_I (C := CMul) (.inl ⟨by decide, by decide⟩) (mk_I0 (dA_nil ⟨_, rfl, by omega, by omega, ?_⟩))⟩⟩)))))))))))))
  refine ⟨fun i ρ' μ' => μ' = [] ∧ ∃ (x y : Nat) (c : Option Dt), Eu b.natAbs (Int.gcd a b) i x y ∧ ρ' = [some (.int x), some (.int y), c], ⟨rfl, _, _, none, Eu.start, rfl⟩, fun _ _ _ _ => trivial, ?_, ?_⟩
  · rintro i z ρ' μ' hx ⟨rfl, x, y, c, eu, rfl⟩
    refine dG_name 2 hN rfl ?_
    refine dSs_cons (dS_if (dT_cmp od_eqF (dE_var 1 rfl rfl (dE_int ⟨_, rfl, mk_B ?_⟩))))
    refine iteB (fun h => ?_) (fun h => dSs_nil ?_)
    · have h0 : y = 0 := by simpa using h
      subst h0
      refine dSs_cons (dS_break ?_)
      refine dSs_cons (dS_ret (dE_var 0 rfl rfl ?_))
      rw [eu.done]
      exact q _
    · have h0 : 0 < y := by
        have : y ≠ 0 := by simpa using h
        omega
      refine dSs_cons (dS_par 0 1 rfl hN rfl rfl (dA_cons (dE_var 1 rfl rfl (dA_cons (dE_bin od_mod (dE_callTy (hv := Boot.«int») cd_int n_int (dA_cons (dE_var 0 rfl rfl (dA_nil (.inl ⟨_, rfl, dE_var 1 rfl rfl (mk_mod (by omega) (dA_nil ⟨_, _, rfl, ?_⟩))⟩))))))))))
      refine dSs_nil ⟨rfl, y, x % y, some z, eu.step h0, ?_⟩
      rfl
  · rintro ρ' μ' ⟨rfl, x, y, c, eu, rfl⟩
    refine dSs_cons (dS_ret (dE_var 0 rfl rfl ?_))
    have e : (rng 0 (4 + 2 * ((Builtin.Int.intBits (b.natAbs : Int) : Nat) : Int)).toNat).length = 4 + 2 * Builtin.Int.intBits (b.natAbs : Int) := by simp [rng]; omega
    rw [e] at eu
    rw [eu.stop b1]
    exact q _
end
end Law

/-! M11: the ratios' law: _law_q. -/
namespace Law
open PySem PySem.Spec PyProof.Rows L2 DL
local macro_rules | `(tactic| walk_at "lz") => `(tactic| first | exact pen_len | (rw [sizeLine_eq]; simp; done) | (rw [sizeLine_eq]; simp; omega))
section
variable {P : Program} {w : World} {K : PySem.W.Frag} {mg : Str → Option Value} {base : Heap}
abbrev sQ : Stmt := tp 32
theorem scQ : FnScope ["top", "bottom", "by"] ["top", "bottom"] (defScope sQ) := ⟨rfl, rfl, rfl, by decide +kernel, rfl, by decide +kernel, by decide +kernel⟩
theorem okQ {f : Addr} {fd : FuncData} (F : Fun K "_law_q" "_law_q" sQ f fd) (f_gcd : DefP P w K mg base 1 "_law_gcd" ["one", "two"] rGcd) : FnG P w K mg base 2 f fd ["top", "bottom"] rLow := by
  refine FnG.of F scQ (fun ds μ Q J ⟨t, b, e, _⟩ => by rw [e]; rfl) fun cdv A outer s H E ds μ Q J hr hg ⟨t, b, e, h0, hb, e2, q⟩ => ?_
  subst e e2
  have hN : (["top", "bottom", "by"] : List Str).Nodup := by decide +kernel
  have ok := sgG_ok (t := t) h0 hb
  refine dSs_cons (dS_set 2 hN rfl (dE_go f_gcd hr hg (dA_cons (dE_var 0 rfl rfl (dA_cons (dE_var 1 rfl rfl (dA_nil (mk_call0 rfl ⟨t, b, rfl, by omega, rfl, fun _ => ⟨rfl, ?_⟩⟩))))))))
  have rest : ∀ g : Int, g = sgG t b → dSs (cxOf (L2.CX P w) P w K mg base ["top", "bottom", "by"] "_law_q" (defScope sQ) f cdv A outer s H E) J ((defBody sQ).drop 2) [some (.int t), some (.int b), some (.int g)] [] { nx := fun _ μ' => Q .non μ', rt := Q } := by
    intro g eg
    subst eg
    refine dSs_cons (dS_ret (dE_tup (dA_cons (dE_bin od_fdivN (dE_var 0 rfl rfl (dE_var 2 rfl rfl (mk_I (C := CDivN) ok (dA_cons (dE_bin od_fdivN (dE_var 1 rfl rfl (dE_var 2 rfl rfl (mk_I (C := CDivN) ok (dA_nil ⟨by walk_at "lz", q _⟩)))))))))))))
  refine dSs_cons (dS_set 2 hN rfl (dE_ifExp (dT_cmp od_lt (dE_var 1 rfl rfl (dE_int (mk_I0 (mk_B ?_)))))))
  refine iteD (fun h => ?_) (fun h => ?_)
  · refine dE_neg (dE_var 2 rfl rfl ⟨_, rfl, ?_⟩)
    exact rest _ (by unfold sgG; rw [if_neg (by omega)])
  · refine dE_var 2 rfl rfl ?_
    exact rest _ (by unfold sgG; rw [if_pos (by omega)])
end
end Law

/-! M12: the ratios' law: the law's own sums, differences, products, shares. -/
namespace Law
open PySem PySem.Spec PyProof.Rows L2 DL
local macro_rules | `(tactic| walk_at "sd") => `(tactic| first | assumption | exact Or.inl ‹_›)
section
variable {P : Program} {w : World} {K : PySem.W.Frag} {mg : Str → Option Value} {base : Heap}
abbrev sLplus : Stmt := tp 33
theorem scLplus : FnScope ["one", "two"] ["one", "two"] (defScope sLplus) := ⟨rfl, rfl, rfl, by decide +kernel, rfl, by decide +kernel, by decide +kernel⟩
theorem okLplus {f : Addr} {fd : FuncData} (F : Fun K "_law_plus" "_law_plus" sLplus f fd) (f_low : DefP P w K mg base 2 "_law_q" ["top", "bottom"] rLow) : FnG P w K mg base 3 f fd ["one", "two"] (rOp (fun p r => p.1 * r.2 + r.1 * p.2) (fun p r => p.2 * r.2)) := by
  refine FnG.of F scLplus (fun ds μ Q J ⟨p, r, e, _⟩ => by rw [e]; rfl) fun cdv A outer s H E ds μ Q J hr hg ⟨p, r, e, hp, hr2, h0, h1, e2, q⟩ => ?_
  subst e e2
  refine dSs_cons (dS_ret (dE_go f_low hr hg (dA_cons (dE_bin od_add (dE_bin od_mul (dE_idx (dE_var 0 rfl rfl (dE_int ⟨_, _, _, rfl, rfl, rfl, dE_idx (dE_var 1 rfl rfl (dE_int ⟨_, _, _, rfl, rfl, rfl, mk_I (C := CMul) (.inl ⟨hp.1.1, hp.1.2⟩) (dE_bin od_mul (dE_idx (dE_var 1 rfl rfl (dE_int ⟨_, _, _, rfl, rfl, rfl, dE_idx (dE_var 0 rfl rfl (dE_int ⟨_, _, _, rfl, rfl, rfl, mk_I (C := CMul) (.inl ⟨hr2.1.1, hr2.1.2⟩) (mk_I0 (dA_cons (dE_bin od_mul (dE_idx (dE_var 0 rfl rfl (dE_int ⟨_, _, _, rfl, rfl, rfl, dE_idx (dE_var 1 rfl rfl (dE_int ⟨_, _, _, rfl, rfl, rfl, mk_I (C := CMul) (.inl ⟨hp.2.1, hp.2.2⟩) (dA_nil (mk_call0 rfl ⟨_, _, rfl, h0, h1, rfl, fun _ => ⟨rfl, q _⟩⟩))⟩))⟩))))))⟩))⟩))))⟩))⟩))))))))
abbrev sLminus : Stmt := tp 36
theorem scLminus : FnScope ["one", "two"] ["one", "two"] (defScope sLminus) := ⟨rfl, rfl, rfl, by decide +kernel, rfl, by decide +kernel, by decide +kernel⟩
theorem okLminus {f : Addr} {fd : FuncData} (F : Fun K "_law_minus" "_law_minus" sLminus f fd) (f_low : DefP P w K mg base 2 "_law_q" ["top", "bottom"] rLow) : FnG P w K mg base 3 f fd ["one", "two"] (rOp (fun p r => p.1 * r.2 - r.1 * p.2) (fun p r => p.2 * r.2)) := by
  refine FnG.of F scLminus (fun ds μ Q J ⟨p, r, e, _⟩ => by rw [e]; rfl) fun cdv A outer s H E ds μ Q J hr hg ⟨p, r, e, hp, hr2, h0, h1, e2, q⟩ => ?_
  subst e e2
  refine dSs_cons (dS_ret (dE_go f_low hr hg (dA_cons (dE_bin od_sub (dE_bin od_mul (dE_idx (dE_var 0 rfl rfl (dE_int ⟨_, _, _, rfl, rfl, rfl, dE_idx (dE_var 1 rfl rfl (dE_int ⟨_, _, _, rfl, rfl, rfl, mk_I (C := CMul) (.inl ⟨hp.1.1, hp.1.2⟩) (dE_bin od_mul (dE_idx (dE_var 1 rfl rfl (dE_int ⟨_, _, _, rfl, rfl, rfl, dE_idx (dE_var 0 rfl rfl (dE_int ⟨_, _, _, rfl, rfl, rfl, mk_I (C := CMul) (.inl ⟨hr2.1.1, hr2.1.2⟩) (mk_I0 (dA_cons (dE_bin od_mul (dE_idx (dE_var 0 rfl rfl (dE_int ⟨_, _, _, rfl, rfl, rfl, dE_idx (dE_var 1 rfl rfl (dE_int ⟨_, _, _, rfl, rfl, rfl, mk_I (C := CMul) (.inl ⟨hp.2.1, hp.2.2⟩) (dA_nil (mk_call0 rfl ⟨_, _, rfl, h0, h1, rfl, fun _ => ⟨rfl, q _⟩⟩))⟩))⟩))))))⟩))⟩))))⟩))⟩))))))))
abbrev sLtimes : Stmt := tp 34
theorem scLtimes : FnScope ["one", "two"] ["one", "two"] (defScope sLtimes) := ⟨rfl, rfl, rfl, by decide +kernel, rfl, by decide +kernel, by decide +kernel⟩
theorem okLtimes {f : Addr} {fd : FuncData} (F : Fun K "_law_times" "_law_times" sLtimes f fd) (f_low : DefP P w K mg base 2 "_law_q" ["top", "bottom"] rLow) : FnG P w K mg base 3 f fd ["one", "two"] (rOp (fun p r => p.1 * r.1) (fun p r => p.2 * r.2)) := by
  refine FnG.of F scLtimes (fun ds μ Q J ⟨p, r, e, _⟩ => by rw [e]; rfl) fun cdv A outer s H E ds μ Q J hr hg ⟨p, r, e, hp, hr2, h0, h1, e2, q⟩ => ?_
  subst e e2
  refine dSs_cons (dS_ret (dE_go f_low hr hg (dA_cons (dE_bin od_mul (dE_idx (dE_var 0 rfl rfl (dE_int ⟨_, _, _, rfl, rfl, rfl, dE_idx (dE_var 1 rfl rfl (dE_int ⟨_, _, _, rfl, rfl, rfl, mk_I (C := CMul) (.inl ⟨hp.1.1, hp.1.2⟩) (dA_cons (dE_bin od_mul (dE_idx (dE_var 0 rfl rfl (dE_int ⟨_, _, _, rfl, rfl, rfl, dE_idx (dE_var 1 rfl rfl (dE_int ⟨_, _, _, rfl, rfl, rfl, mk_I (C := CMul) (.inl ⟨hp.2.1, hp.2.2⟩) (dA_nil (mk_call0 rfl ⟨_, _, rfl, h0, h1, rfl, fun _ => ⟨rfl, q _⟩⟩))⟩))⟩)))))⟩))⟩)))))))
abbrev sLshare : Stmt := tp 37
theorem scLshare : FnScope ["one", "two"] ["one", "two"] (defScope sLshare) := ⟨rfl, rfl, rfl, by decide +kernel, rfl, by decide +kernel, by decide +kernel⟩
theorem okLshare {f : Addr} {fd : FuncData} (F : Fun K "_law_share" "_law_share" sLshare f fd) (f_low : DefP P w K mg base 2 "_law_q" ["top", "bottom"] rLow) : FnG P w K mg base 3 f fd ["one", "two"] (rOp (fun p r => p.1 * r.2) (fun p r => p.2 * r.1)) := by
  refine FnG.of F scLshare (fun ds μ Q J ⟨p, r, e, _⟩ => by rw [e]; rfl) fun cdv A outer s H E ds μ Q J hr hg ⟨p, r, e, hp, hr2, h0, h1, e2, q⟩ => ?_
  subst e e2
  refine dSs_cons (dS_ret (dE_go f_low hr hg (dA_cons (dE_bin od_mul (dE_idx (dE_var 0 rfl rfl (dE_int ⟨_, _, _, rfl, rfl, rfl, dE_idx (dE_var 1 rfl rfl (dE_int ⟨_, _, _, rfl, rfl, rfl, mk_I (C := CMul) (.inl ⟨hp.1.1, hp.1.2⟩) (dA_cons (dE_bin od_mul (dE_idx (dE_var 0 rfl rfl (dE_int ⟨_, _, _, rfl, rfl, rfl, dE_idx (dE_var 1 rfl rfl (dE_int ⟨_, _, _, rfl, rfl, rfl, mk_I (C := CMul) (.inl ⟨hp.2.1, hp.2.2⟩) (dA_nil (mk_call0 rfl ⟨_, _, rfl, h0, h1, rfl, fun _ => ⟨rfl, q _⟩⟩))⟩))⟩)))))⟩))⟩)))))))
abbrev sLless : Stmt := tp 35
theorem scLless : FnScope ["one", "two"] ["one", "two"] (defScope sLless) := ⟨rfl, rfl, rfl, by decide +kernel, rfl, by decide +kernel, by decide +kernel⟩
theorem okLless {f : Addr} {fd : FuncData} (F : Fun K "_law_less" "_law_less" sLless f fd) : FnG P w K mg base 1 f fd ["one", "two"] (rCmp (fun p r => decide (p.1 * r.2 < r.1 * p.2))) := by
  refine FnG.of F scLless (fun ds μ Q J ⟨p, r, e, _⟩ => by rw [e]; rfl) fun cdv A outer s H E ds μ Q J hr hg ⟨p, r, e, hp, hr2, e2, q⟩ => ?_
  subst e e2
  refine dSs_cons (dS_ret (dE_cmp od_lt (dE_bin od_mul (dE_idx (dE_var 0 rfl rfl (dE_int ⟨_, _, _, rfl, rfl, rfl, dE_idx (dE_var 1 rfl rfl (dE_int ⟨_, _, _, rfl, rfl, rfl, mk_I (C := CMul) (.inl ⟨hp.1.1, hp.1.2⟩) (dE_bin od_mul (dE_idx (dE_var 1 rfl rfl (dE_int ⟨_, _, _, rfl, rfl, rfl, dE_idx (dE_var 0 rfl rfl (dE_int ⟨_, _, _, rfl, rfl, rfl, mk_I (C := CMul) (.inl ⟨hr2.1.1, hr2.1.2⟩) (mk_I0 (q _))⟩))⟩))))⟩))⟩))))))
end
end Law

/-! M13: the ratios' law: _law_number. -/
namespace Law
open PySem PySem.Spec PyProof.Rows L2 DL
local macro_rules | `(tactic| walk_at "lz") => `(tactic| first | exact pen_len | (rw [sizeLine_eq]; simp; done) | (rw [sizeLine_eq]; simp; omega))
section
variable {P : Program} {w : World} {K : PySem.W.Frag} {mg : Str → Option Value} {base : Heap}
def rNum : Spc := fun ds μ Q _ => ∃ (B : Nat) (most : Int) (m : Mo), ds = [.mut 0, .int most] ∧ μ = [m] ∧ Pen B m ∧ B + 2 < 2 ^ 40 ∧ 0 ≤ most ∧ most < 536870912 ∧ ∀ (t c : Int) m', -most ≤ t → t ≤ most → 1 ≤ c → c ≤ 3 → Pen (B + 2) m' → Q (qD (lowQ t c)) [m']
abbrev sNum : Stmt := tp 38
theorem scNum : FnScope ["pen", "most", "top"] ["pen", "most"] (defScope sNum) := ⟨rfl, rfl, rfl, by decide +kernel, rfl, by decide +kernel, by decide +kernel⟩
theorem okNum {f : Addr} {fd : FuncData} (F : Fun K "_law_number" "_law_number" sNum f fd) (f_draw : DefP P w K mg base 1 "_law_draw" ["pen", "many"] rDraw) (f_pick : DefP P w K mg base 2 "_law_pick" ["pen", "some"] rPick) (f_q : DefP P w K mg base 2 "_law_q" ["top", "bottom"] rLow) : FnG P w K mg base 3 f fd ["pen", "most"] rNum := by
  refine FnG.of F scNum (fun ds μ Q J ⟨B, most, m, e, _⟩ => by rw [e]; rfl) fun cdv A outer s H E ds μ Q J hr hg ⟨B, most, m, e, e2, pen, hB, h0, h1, q⟩ => ?_
  subst e e2
  have hN : (["pen", "most", "top"] : List Str).Nodup := by decide +kernel
  refine dSs_cons (dS_set 2 hN rfl (dE_bin od_sub (dE_go f_draw (hr.mono (by decide)) hg (dA_cons (dE_var 0 rfl rfl (dA_cons (dE_bin od_add (dE_bin od_mul (dE_int (dE_var 1 rfl rfl (mk_I (C := CMul) (.inl ⟨by decide, by decide⟩) (dE_int (mk_I0 (dA_nil ?_))))))))))))))
  refine mk_call1 rfl pen.ng pen.mf rfl ⟨B, 2 * most + 1, m, rfl, rfl, pen, by omega, by omega, by omega, fun r m' r1 r2 pm => ⟨rfl, m', rfl, pm.ng, pm.mf, dE_var 1 rfl rfl (mk_I0 ?_)⟩⟩
  show dSs _ _ _ [some (.mut 0), some (.int most), some (.int (r - most))] [m'] _
  refine dSs_cons (dS_ret (dE_go f_q hr hg (dA_cons (dE_var 2 rfl rfl (dA_cons (dE_go f_pick hr hg (dA_cons (dE_var 0 rfl rfl (dA_cons (dE_lst (dA_cons (dE_int (dA_cons (dE_int (dA_cons (dE_int (dA_cons (dE_int (dA_cons (dE_int (dA_nil ⟨by walk_at "lz", dA_nil ?_⟩)))))))))))))))))))))
  refine mk_call1 rfl pm.ng pm.mf rfl ⟨B + 1, [.int 1, .int 1, .int 1, .int 2, .int 3], _, m', rfl, .inl rfl, rfl, pm, by omega, by simp, by decide, fun x hx m2 p2 => ?_⟩
  obtain ⟨c, rfl, c1, c2⟩ : ∃ c : Int, x = .int c ∧ 1 ≤ c ∧ c ≤ 3 := by
    simp only [List.mem_cons, List.not_mem_nil, or_false] at hx
    rcases hx with rfl | rfl | rfl | rfl | rfl <;> exact ⟨_, rfl, by decide, by decide⟩
  refine ⟨rfl, m2, rfl, p2.ng, p2.mf, dA_nil (mk_call0 rfl ⟨r - most, c, rfl, by omega, by omega, rfl, fun _ => ⟨rfl, ?_⟩⟩)⟩
  exact q _ c m2 (by omega) (by omega) c1 c2 p2
end
end Law

/-! M14: the ratios' law: _law_handed; lowest terms. -/
namespace Law
open PySem PySem.Spec PyProof.Rows L2 DL
local macro_rules | `(tactic| walk_at "lz") => `(tactic| first | exact pen_len | (rw [sizeLine_eq]; simp; done) | (rw [sizeLine_eq]; simp; omega))
/-! ### lowest terms -/
structure LowP (p : Int × Int) : Prop where
  pos : 0 < p.2
  one : Int.gcd p.1 p.2 = 1
theorem lowQ_eq {t b : Int} (h : 0 < b) : lowQ t b = (t / (Int.gcd t b : Int), b / (Int.gcd t b : Int)) := by
  unfold lowQ sgG
  rw [if_pos h, Int.fdiv_eq_ediv_of_nonneg _ (Int.natCast_nonneg _), Int.fdiv_eq_ediv_of_nonneg _ (Int.natCast_nonneg _)]
theorem lowQ_low {t b : Int} (h : 0 < b) : LowP (lowQ t b) := by
  have g0 : 0 < Int.gcd t b := Int.gcd_pos_of_ne_zero_right t (by omega)
  rw [lowQ_eq h]
  refine ⟨?_, ?_⟩
  · have d : (Int.gcd t b : Int) ∣ b := Int.gcd_dvd_right _ _
    exact Int.ediv_pos_of_pos_of_dvd h (by omega) d
  · exact Int.gcd_ediv_gcd_ediv_gcd g0
theorem lowQ_le {t b : Int} (h : 0 < b) : (lowQ t b).1.natAbs ≤ t.natAbs ∧ (lowQ t b).2.natAbs ≤ b.natAbs := by
  rw [lowQ_eq h]
  exact ⟨Int.natAbs_ediv_le_natAbs _ _, Int.natAbs_ediv_le_natAbs _ _⟩
theorem lowQ_again {p : Int × Int} {k : Int} (l : LowP p) (hk : 0 < k) : lowQ (p.1 * k) (p.2 * k) = p := by
  have g : Int.gcd (p.1 * k) (p.2 * k) = k.natAbs := by rw [Int.gcd_mul_right, l.one, Nat.one_mul]
  have e : ((Int.gcd (p.1 * k) (p.2 * k) : Nat) : Int) = k := by rw [g]; omega
  rw [lowQ_eq (Int.mul_pos l.pos hk), e, Int.mul_ediv_cancel _ (by omega), Int.mul_ediv_cancel _ (by omega)]
/-! ### what is handed -/
def Handed (p : Int × Int) (d : Dt) : Prop := (p.2 = 1 ∧ d = .int p.1) ∨ ∃ k : Int, 1 ≤ k ∧ k ≤ 5 ∧ (d = .tup [.int (p.1 * k), .int (p.2 * k)] ∨ d = .lst [.int (p.1 * k), .int (p.2 * k)])
def lstB : Dt → Bool
  | .lst _ => true
  | _ => false
theorem Handed.told {p : Int × Int} {d : Dt} (h : Handed p d) (l : LowP p) : toldD d = some p := by
  have go : ∀ k : Int, 1 ≤ k → toldL [.int (p.1 * k), .int (p.2 * k)] = some p := fun k hk => by
    show (if 0 < p.2 * k then some (lowQ (p.1 * k) (p.2 * k)) else none) = some p
    rw [if_pos (Int.mul_pos l.pos (by omega)), lowQ_again l (by omega)]
  rcases h with ⟨e, rfl⟩ | ⟨k, h1, h2, rfl | rfl⟩
  · show some (p.1, (1 : Int)) = some p
    rw [← e]
  · exact go k h1
  · exact go k h1
theorem Handed.plain {p : Int × Int} {d : Dt} (h : Handed p d) : Plain1 d := by
  rcases h with ⟨e, rfl⟩ | ⟨k, h1, h2, rfl | rfl⟩
  · exact ⟨⟨_, rfl⟩, fun x hx => by simp [itemsD] at hx⟩
  · exact ⟨⟨_, rfl⟩, fun x hx => by
      simp only [itemsD, List.mem_cons, List.not_mem_nil, or_false] at hx
      rcases hx with rfl | rfl <;> exact ⟨_, rfl⟩⟩
  · exact ⟨⟨_, rfl⟩, fun x hx => by
      simp only [itemsD, List.mem_cons, List.not_mem_nil, or_false] at hx
      rcases hx with rfl | rfl <;> exact ⟨_, rfl⟩⟩
theorem Handed.mf {p : Int × Int} {d : Dt} (h : Handed p d) : d.mf = true := by
  rcases h with ⟨e, rfl⟩ | ⟨k, h1, h2, rfl | rfl⟩ <;> rfl
theorem Handed.small {p : Int × Int} {d : Dt} (h : Handed p d) (l : LowP p) (s : p.2 < 100000000) : SmallP d := by
  have p0 := l.pos
  have go : ∀ (k : Int), 1 ≤ k → k ≤ 5 → ∀ a b : Int, [Dt.int (p.1 * k), .int (p.2 * k)] = [.int a, .int b] → b.natAbs < 1073741824 := fun k h1 h2 a b e => by
    simp only [List.cons.injEq, Dt.int.injEq, and_true] at e
    obtain ⟨_, e⟩ := e
    have u : p.2 * k ≤ p.2 * 5 := Int.mul_le_mul_of_nonneg_left h2 (by omega)
    have v : 0 ≤ p.2 * k := Int.mul_nonneg (by omega) (by omega)
    omega
  rcases h with ⟨e, rfl⟩ | ⟨k, h1, h2, rfl | rfl⟩
  · intro a b e
    cases e
  · exact go k h1 h2
  · exact go k h1 h2
theorem Handed.ratio {p : Int × Int} {d : Dt} (h : Handed p d) (l : LowP p) : ratioD d = !lstB d := by
  rcases h with ⟨e, rfl⟩ | ⟨k, h1, h2, rfl | rfl⟩
  · rfl
  · show (false || (true && decide (0 < p.2 * k))) = true
    rw [decide_eq_true (Int.mul_pos l.pos (by omega))]
    rfl
  · rfl
section
variable {P : Program} {w : World} {K : PySem.W.Frag} {mg : Str → Option Value} {base : Heap}
def rHanded : Spc := fun ds μ Q _ => ∃ (B : Nat) (p : Int × Int) (m : Mo), ds = [.mut 0, qD p] ∧ μ = [m] ∧ Pen B m ∧ B + 3 < 2 ^ 40 ∧ SmP p ∧ ∀ d m', Handed p d → Pen (B + 3) m' → Q d [m']
abbrev sHanded : Stmt := tp 39
theorem scHanded : FnScope ["pen", "ratio", "by"] ["pen", "ratio"] (defScope sHanded) := ⟨rfl, rfl, rfl, by decide +kernel, rfl, by decide +kernel, by decide +kernel⟩
theorem okHanded {f : Addr} {fd : FuncData} (F : Fun K "_law_handed" "_law_handed" sHanded f fd) (f_draw : DefP P w K mg base 1 "_law_draw" ["pen", "many"] rDraw) (f_pick : DefP P w K mg base 2 "_law_pick" ["pen", "some"] rPick) : FnG P w K mg base 3 f fd ["pen", "ratio"] rHanded := by
  refine FnG.of F scHanded (fun ds μ Q J ⟨B, p, m, e, _⟩ => by rw [e]; rfl) fun cdv A outer s H E ds μ Q J hr hg ⟨B, p, m, e, e2, pen, hB, hs, q⟩ => ?_
  subst e e2
  have hN : (["pen", "ratio", "by"] : List Str).Nodup := by decide +kernel
  -- the rest, with a pen of one draw at most
  have rest : ∀ m', Pen (B + 1) m' → dSs (cxOf (L2.CX P w) P w K mg base ["pen", "ratio", "by"] "_law_handed" (defScope sHanded) f cdv A outer s H E) J ((defBody sHanded).drop 1) [some (.mut 0), some (qD p), none] [m'] { nx := fun _ μ' => Q .non μ', rt := Q } := by
    intro m' pm
    refine dSs_cons (dS_set 2 hN rfl (dE_go f_pick (hr.mono (by decide)) hg (dA_cons (dE_var 0 rfl rfl (dA_cons (dE_lst (dA_cons (dE_int (dA_cons (dE_int (dA_cons (dE_int (dA_cons (dE_int (dA_nil ⟨by walk_at "lz", dA_nil ?_⟩)))))))))))))))
    refine mk_call1 rfl pm.ng pm.mf rfl ⟨B + 1, [.int 1, .int 1, .int 2, .int 5], _, m', rfl, .inl rfl, rfl, pm, by omega, by simp, by decide, fun x hx m2 p2 => ?_⟩
    obtain ⟨k, rfl, k1, k2⟩ : ∃ c : Int, x = .int c ∧ 1 ≤ c ∧ c ≤ 5 := by
      simp only [List.mem_cons, List.not_mem_nil, or_false] at hx
      rcases hx with rfl | rfl | rfl | rfl <;> exact ⟨_, rfl, by decide, by decide⟩
    refine ⟨rfl, m2, rfl, p2.ng, p2.mf, ?_⟩
    show dSs _ _ _ [some (.mut 0), some (qD p), some (.int k)] [m2] _
    have c1 : CMul p.1 k := .inl ⟨hs.1.1, hs.1.2⟩
    have c2 : CMul p.2 k := .inl ⟨hs.2.1, hs.2.2⟩
    refine dSs_cons <| dS_ret <| dE_go f_pick (hr.mono (by decide)) hg <| dA_cons <| dE_var 0 rfl rfl <| dA_cons <| dE_lst <| dA_cons <| dE_tup <| dA_cons <| dE_bin od_mul <| dE_idx <| dE_var 1 rfl rfl <| dE_int ⟨_, _, _, rfl, rfl, rfl, dE_var 2 rfl rfl <| mk_I (C := CMul) c1 <| dA_cons <| dE_bin od_mul <| dE_idx <| dE_var 1 rfl rfl <| dE_int ⟨_, _, _, rfl, rfl, rfl, dE_var 2 rfl rfl <| mk_I (C := CMul) c2 <| dA_nil ⟨by walk_at "lz", dA_cons <| dE_lst <| dA_cons <| dE_bin od_mul <| dE_idx <| dE_var 1 rfl rfl <| dE_int ⟨_, _, _, rfl, rfl, rfl, dE_var 2 rfl rfl <| mk_I (C := CMul) c1 <| dA_cons <| dE_bin od_mul <| dE_idx <| dE_var 1 rfl rfl <| dE_int ⟨_, _, _, rfl, rfl, rfl, dE_var 2 rfl rfl <| mk_I (C := CMul) c2 <| dA_nil ⟨by walk_at "lz", dA_nil ⟨by walk_at "lz", dA_nil ?_⟩⟩⟩⟩⟩⟩⟩
    refine mk_call1 rfl p2.ng p2.mf rfl ⟨B + 2, [.tup [.int (p.1 * k), .int (p.2 * k)], .lst [.int (p.1 * k), .int (p.2 * k)]], _, m2, rfl, .inl rfl, rfl, p2, by omega, by simp, by simp, fun x hx m3 p3 => ?_⟩
    simp only [List.mem_cons, List.not_mem_nil, or_false] at hx
    rcases hx with rfl | rfl
    · exact ⟨rfl, m3, rfl, p3.ng, p3.mf, q _ m3 (.inr ⟨k, k1, k2, .inl rfl⟩) p3⟩
    · exact ⟨rfl, m3, rfl, p3.ng, p3.mf, q _ m3 (.inr ⟨k, k1, k2, .inr rfl⟩) p3⟩
  refine dSs_cons (dS_if (dT_bool (dW_and (dT_cmp od_eqF (dE_idx (dE_var 1 rfl rfl (dE_int ⟨_, _, _, rfl, rfl, rfl, dE_int ⟨_, rfl, mk_B ?_⟩⟩)))))))
  refine iteB (fun h1 => ?_) (fun _ => dSs_nil (rest m (pen.mono (by omega))))
  have e1 : p.2 = 1 := by simpa using h1
  refine dW_and1 (dT_cmp od_eqF (dE_go f_draw (hr.mono (by decide)) hg (dA_cons (dE_var 0 rfl rfl (dA_cons (dE_int (dA_nil (mk_call1 rfl pen.ng pen.mf rfl ⟨B, 2, m, rfl, rfl, pen, by omega, by decide, by decide, fun r m' r1 r2 pm => ⟨rfl, m', rfl, pm.ng, pm.mf, dE_int ⟨_, rfl, mk_B ?_⟩⟩⟩))))))))
  refine iteB (fun _ => ?_) (fun _ => dSs_nil (rest m' pm))
  exact dSs_cons (dS_ret (dE_idx (dE_var 1 rfl rfl (dE_int ⟨_, _, _, rfl, rfl, rfl, q _ m' (.inl ⟨e1, rfl⟩) (pm.mono (by omega))⟩))))
end
end Law

/-! M15: _law_fault, _law_are_due. -/
namespace Law
open PySem PySem.Spec PyProof.Rows L2 DL
local macro_rules | `(tactic| walk_at "lz") => `(tactic| first | exact pen_len | (rw [sizeLine_eq]; simp; done) | (rw [sizeLine_eq]; simp; omega))
section
variable {P : Program} {w : World} {K : PySem.W.Frag} {mg : Str → Option Value} {base : Heap}
abbrev sFault : Stmt := tp 40
theorem scFault : FnScope ["work", "fault"] ["work"] (defScope sFault) := ⟨rfl, rfl, rfl, by decide +kernel, rfl, by decide +kernel, by decide +kernel⟩
theorem okFault {k : Nat} {C7 : Fin 7 → Addr} {f : Addr} {fd : FuncData} (F : Fun K "_law_fault" "_law_fault" sFault f fd) (T : Er7 K mg C7) : FnG P w K mg base (k + 2) f fd ["work"] (rFault P w K mg base k C7) := by
  refine FnG.of F scFault (fun ds μ Q J ⟨L, cs, cds, Qd, Jd, e, _⟩ => by rw [e]; rfl) fun cdv A outer s H E ds μ Q J hr hg ⟨L, cs, cds, Qd, Jd, e, LD, hc, hq, hj⟩ => ?_
  subst e
  have hN : (["work", "fault"] : List Str).Nodup := by decide +kernel
  refine dSs_cons (dS_try hN rfl rfl fun pn xe hp => dSs_one (dS_expr (dE_act (i := 0) (k := k) rfl rfl LD.ok LD.nd LD.inj hc LD.mf LD.bind hr hg fun f c' A outer s H E hr2 hg2 => ?_)))
  refine dE_imp ((LD.body f c' A outer s H E hr2 hg2).imp fun d μ' z => ⟨z.1, dSs_cons (dS_ret (dE_non (hq d z.2)))⟩) fun C gs μ' z => ⟨z.1, ?_⟩
  obtain ⟨d, ⟨i, rfl, ys, rfl, py⟩, q⟩ := hj C gs z.1 z.2
  match i, py, q with
  | 0, .cons h0 .nil, q =>
    have ne : gs ≠ [] := fun z => by rw [z] at h0; cases h0
    exact ⟨nm7 0, _, some "fault", _, _, _, .ref (C7 0), true, rfl, ⟨rfl, by decide, .inl (T.g 0)⟩, T.exm 0 0, fun z => absurd z (by decide), fun _ a oe d pn hz hd dz => ⟨1, rfl, rfl, dSs_cons (dS_ret (dE_tup (dA_cons (dE_str (dA_cons (dE_fldC (T.xf 0) (T.no 0 "lot" (by decide +kernel)) hz hd (dE_var 1 rfl rfl ⟨_, _, rfl, h0, dz ne, dA_nil ⟨by walk_at "lz", q⟩⟩)))))))⟩⟩
  | 1, .cons h0 (.cons h1 .nil), q =>
    have ne : gs ≠ [] := fun z => by rw [z] at h0; cases h0
    exact ⟨nm7 0, _, some "fault", _, _, _, .ref (C7 0), false, rfl, ⟨rfl, by decide, .inl (T.g 0)⟩, T.exm 1 0, fun _ => ⟨nm7 1, _, some "fault", _, _, _, .ref (C7 1), true, rfl, ⟨rfl, by decide, .inl (T.g 1)⟩, T.exm 1 1, fun z => absurd z (by decide), fun _ a oe d pn hz hd dz => ⟨1, rfl, rfl, dSs_cons (dS_ret (dE_tup (dA_cons (dE_str (dA_cons (dE_fldC (T.xf 1) (T.no 1 "what" (by decide +kernel)) hz hd (dE_var 1 rfl rfl ⟨_, _, rfl, h0, dz ne, dA_cons (dE_fldC (T.xf 1) (T.no 1 "number" (by decide +kernel)) hz hd (dE_var 1 rfl rfl ⟨_, _, rfl, h1, dz ne, dA_nil ⟨by walk_at "lz", q⟩⟩))⟩)))))))⟩⟩, fun z => absurd z (by decide)⟩
  | 2, .cons h0 .nil, q =>
    have ne : gs ≠ [] := fun z => by rw [z] at h0; cases h0
    exact ⟨nm7 0, _, some "fault", _, _, _, .ref (C7 0), false, rfl, ⟨rfl, by decide, .inl (T.g 0)⟩, T.exm 2 0, fun _ => ⟨nm7 1, _, some "fault", _, _, _, .ref (C7 1), false, rfl, ⟨rfl, by decide, .inl (T.g 1)⟩, T.exm 2 1, fun _ => ⟨nm7 2, _, some "fault", _, _, _, .ref (C7 2), true, rfl, ⟨rfl, by decide, .inl (T.g 2)⟩, T.exm 2 2, fun z => absurd z (by decide), fun _ a oe d pn hz hd dz => ⟨1, rfl, rfl, dSs_cons (dS_ret (dE_tup (dA_cons (dE_str (dA_cons (dE_fldC (T.xf 2) (T.no 2 "row" (by decide +kernel)) hz hd (dE_var 1 rfl rfl ⟨_, _, rfl, h0, dz ne, dA_nil ⟨by walk_at "lz", q⟩⟩)))))))⟩⟩, fun z => absurd z (by decide)⟩, fun z => absurd z (by decide)⟩
  | 3, .cons h0 .nil, q =>
    have ne : gs ≠ [] := fun z => by rw [z] at h0; cases h0
    exact ⟨nm7 0, _, some "fault", _, _, _, .ref (C7 0), false, rfl, ⟨rfl, by decide, .inl (T.g 0)⟩, T.exm 3 0, fun _ => ⟨nm7 1, _, some "fault", _, _, _, .ref (C7 1), false, rfl, ⟨rfl, by decide, .inl (T.g 1)⟩, T.exm 3 1, fun _ => ⟨nm7 2, _, some "fault", _, _, _, .ref (C7 2), false, rfl, ⟨rfl, by decide, .inl (T.g 2)⟩, T.exm 3 2, fun _ => ⟨nm7 3, _, some "fault", _, _, _, .ref (C7 3), true, rfl, ⟨rfl, by decide, .inl (T.g 3)⟩, T.exm 3 3, fun z => absurd z (by decide), fun _ a oe d pn hz hd dz => ⟨1, rfl, rfl, dSs_cons (dS_ret (dE_tup (dA_cons (dE_str (dA_cons (dE_fldC (T.xf 3) (T.no 3 "table" (by decide +kernel)) hz hd (dE_var 1 rfl rfl ⟨_, _, rfl, h0, dz ne, dA_nil ⟨by walk_at "lz", q⟩⟩)))))))⟩⟩, fun z => absurd z (by decide)⟩, fun z => absurd z (by decide)⟩, fun z => absurd z (by decide)⟩
  | 4, .cons h0 (.cons h1 .nil), q =>
    have ne : gs ≠ [] := fun z => by rw [z] at h0; cases h0
    exact ⟨nm7 0, _, some "fault", _, _, _, .ref (C7 0), false, rfl, ⟨rfl, by decide, .inl (T.g 0)⟩, T.exm 4 0, fun _ => ⟨nm7 1, _, some "fault", _, _, _, .ref (C7 1), false, rfl, ⟨rfl, by decide, .inl (T.g 1)⟩, T.exm 4 1, fun _ => ⟨nm7 2, _, some "fault", _, _, _, .ref (C7 2), false, rfl, ⟨rfl, by decide, .inl (T.g 2)⟩, T.exm 4 2, fun _ => ⟨nm7 3, _, some "fault", _, _, _, .ref (C7 3), false, rfl, ⟨rfl, by decide, .inl (T.g 3)⟩, T.exm 4 3, fun _ => ⟨nm7 4, _, some "fault", _, _, _, .ref (C7 4), true, rfl, ⟨rfl, by decide, .inl (T.g 4)⟩, T.exm 4 4, fun z => absurd z (by decide), fun _ a oe d pn hz hd dz => ⟨1, rfl, rfl, dSs_cons (dS_ret (dE_tup (dA_cons (dE_str (dA_cons (dE_fldC (T.xf 4) (T.no 4 "what" (by decide +kernel)) hz hd (dE_var 1 rfl rfl ⟨_, _, rfl, h0, dz ne, dA_cons (dE_fldC (T.xf 4) (T.no 4 "value" (by decide +kernel)) hz hd (dE_var 1 rfl rfl ⟨_, _, rfl, h1, dz ne, dA_nil ⟨by walk_at "lz", q⟩⟩))⟩)))))))⟩⟩, fun z => absurd z (by decide)⟩, fun z => absurd z (by decide)⟩, fun z => absurd z (by decide)⟩, fun z => absurd z (by decide)⟩
  | 5, .cons h0 (.cons h1 (.cons h2 .nil)), q =>
    have ne : gs ≠ [] := fun z => by rw [z] at h0; cases h0
    exact ⟨nm7 0, _, some "fault", _, _, _, .ref (C7 0), false, rfl, ⟨rfl, by decide, .inl (T.g 0)⟩, T.exm 5 0, fun _ => ⟨nm7 1, _, some "fault", _, _, _, .ref (C7 1), false, rfl, ⟨rfl, by decide, .inl (T.g 1)⟩, T.exm 5 1, fun _ => ⟨nm7 2, _, some "fault", _, _, _, .ref (C7 2), false, rfl, ⟨rfl, by decide, .inl (T.g 2)⟩, T.exm 5 2, fun _ => ⟨nm7 3, _, some "fault", _, _, _, .ref (C7 3), false, rfl, ⟨rfl, by decide, .inl (T.g 3)⟩, T.exm 5 3, fun _ => ⟨nm7 4, _, some "fault", _, _, _, .ref (C7 4), false, rfl, ⟨rfl, by decide, .inl (T.g 4)⟩, T.exm 5 4, fun _ => ⟨nm7 5, _, some "fault", _, _, _, .ref (C7 5), true, rfl, ⟨rfl, by decide, .inl (T.g 5)⟩, T.exm 5 5, fun z => absurd z (by decide), fun _ a oe d pn hz hd dz => ⟨1, rfl, rfl, dSs_cons (dS_ret (dE_tup (dA_cons (dE_str (dA_cons (dE_fldC (T.xf 5) (T.no 5 "what" (by decide +kernel)) hz hd (dE_var 1 rfl rfl ⟨_, _, rfl, h0, dz ne, dA_cons (dE_fldC (T.xf 5) (T.no 5 "many" (by decide +kernel)) hz hd (dE_var 1 rfl rfl ⟨_, _, rfl, h1, dz ne, dA_cons (dE_fldC (T.xf 5) (T.no 5 "limit" (by decide +kernel)) hz hd (dE_var 1 rfl rfl ⟨_, _, rfl, h2, dz ne, dA_nil ⟨by walk_at "lz", q⟩⟩))⟩))⟩)))))))⟩⟩, fun z => absurd z (by decide)⟩, fun z => absurd z (by decide)⟩, fun z => absurd z (by decide)⟩, fun z => absurd z (by decide)⟩, fun z => absurd z (by decide)⟩
  | 6, .cons h0 .nil, q =>
    have ne : gs ≠ [] := fun z => by rw [z] at h0; cases h0
    exact ⟨nm7 0, _, some "fault", _, _, _, .ref (C7 0), false, rfl, ⟨rfl, by decide, .inl (T.g 0)⟩, T.exm 6 0, fun _ => ⟨nm7 1, _, some "fault", _, _, _, .ref (C7 1), false, rfl, ⟨rfl, by decide, .inl (T.g 1)⟩, T.exm 6 1, fun _ => ⟨nm7 2, _, some "fault", _, _, _, .ref (C7 2), false, rfl, ⟨rfl, by decide, .inl (T.g 2)⟩, T.exm 6 2, fun _ => ⟨nm7 3, _, some "fault", _, _, _, .ref (C7 3), false, rfl, ⟨rfl, by decide, .inl (T.g 3)⟩, T.exm 6 3, fun _ => ⟨nm7 4, _, some "fault", _, _, _, .ref (C7 4), false, rfl, ⟨rfl, by decide, .inl (T.g 4)⟩, T.exm 6 4, fun _ => ⟨nm7 5, _, some "fault", _, _, _, .ref (C7 5), false, rfl, ⟨rfl, by decide, .inl (T.g 5)⟩, T.exm 6 5, fun _ => ⟨nm7 6, _, some "fault", _, _, _, .ref (C7 6), true, rfl, ⟨rfl, by decide, .inl (T.g 6)⟩, T.exm 6 6, fun z => absurd z (by decide), fun _ a oe d pn hz hd dz => ⟨1, rfl, rfl, dSs_cons (dS_ret (dE_tup (dA_cons (dE_str (dA_cons (dE_fldC (T.xf 6) (T.no 6 "what" (by decide +kernel)) hz hd (dE_var 1 rfl rfl ⟨_, _, rfl, h0, dz ne, dA_nil ⟨by walk_at "lz", q⟩⟩)))))))⟩⟩, fun z => absurd z (by decide)⟩, fun z => absurd z (by decide)⟩, fun z => absurd z (by decide)⟩, fun z => absurd z (by decide)⟩, fun z => absurd z (by decide)⟩, fun z => absurd z (by decide)⟩
abbrev sDue : Stmt := tp 41
theorem scDue : FnScope ["tries", "work", "due"] ["tries"] (defScope sDue) := ⟨rfl, rfl, rfl, by decide +kernel, rfl, by decide +kernel, by decide +kernel⟩
theorem okDue {k : Nat} {C7 : Fin 7 → Addr} {f : Addr} {fd : FuncData} (F : Fun K "_law_are_due" "_law_are_due" sDue f fd) (f_fault : DefP P w K mg base (k + 2) "_law_fault" ["work"] (rFault P w K mg base k C7)) (n_all : mg "all" = none) (n_repr : mg "repr" = none) : FnG P w K mg base (k + 3) f fd ["tries"] (rDue P w K mg base k C7) := by
  refine FnG.of F scDue (fun ds μ Q J ⟨tries, e, _⟩ => by rw [e]; rfl) fun cdv A outer s H E ds μ Q J hr hg ⟨tries, e, hl, hall, q⟩ => ?_
  subst e
  have hN : (["tries", "work", "due"] : List Str).Nodup := by decide +kernel
  have hu9 : ∀ u : Nat, u + 16 * (k + 2) + 200 < cLine → u + 9 < cLine := fun u h => by omega
  refine dSs_cons (dS_ret (dE_callB (hv := Boot.«all») (cd_all rfl) n_all (dA_cons (dE_lc [("work", 1), ("due", 2)] rfl hN (blkOk_by (by show blkC (["tries", "work", "due"] : List Str) (defScope sDue) _ _ = true; decide +kernel)) (dI_seq (dE_var 0 rfl rfl ⟨_, rfl, ?_⟩))))))
  have step : ∀ {x : Dt} {y : Str} (i : Nat), tries[i]? = some x → ((List.replicate i true).map Dt.bl).length < sizeLine ∧ (List.replicate i true).map Dt.bl ++ [Dt.bl (y == y)] = (List.replicate (i + 1) true).map Dt.bl ∧ μ = μ := fun {x y} i hx => by
    have hi := (List.getElem?_eq_some_iff.mp hx).1
    refine ⟨?_, ?_, rfl⟩
    · rw [sizeLine_eq]; simp; omega
    · rw [List.replicate_succ']; simp
  refine ⟨fun i acc μ' => acc = (List.replicate i true).map Dt.bl ∧ μ' = μ, ⟨rfl, rfl⟩, ?_, ?_, ?_⟩
  · rintro i acc μ' ⟨_, rfl⟩
    rfl
  · rintro i x acc μ' hx ⟨rfl, rfl⟩
    obtain ⟨L, cs, cds, Qd, Jd, due, rfl, LD, hc, hq, hj, p, hp, hs, hz, hd⟩ := hall x (List.mem_of_getElem? hx)
    intro s1 H1 C1 cl1 fp1
    refine dGv_tup rfl rfl (dGsv_cons (dGv_name 1 hN rfl (dGsv_cons (dGv_name 2 hN rfl (dGsv_nil ?_)))))
    intro s2 H2 C2 cl2 fp2
    refine dTs_nil ?_
    rw [if_pos rfl]
    intro s3 H3 C3 cl3 fp3
    refine dE_cmp od_eqF (dE_callB (hv := Boot.«repr») (cd_repr hg (n := 9) (hu9 _ hr.un)) n_repr (dA_cons (dE_goA f_fault hr hg (dA_cons (dE_var 1 rfl rfl (dA_nil ?_))))))
    refine ⟨L, cs, cds, Qd, Jd, rfl, LD, hc, fun d z => ?_, fun C gs mg z => ⟨due, hj C gs mg z, ?_⟩⟩
    · have e := hq d z
      subst e
      refine dA_nil ⟨_, p, rfl, hp, hs, hz, hd, dE_callB (hv := Boot.«repr») (cd_repr hg (n := 9) (hu9 _ hr.un)) n_repr (dA_cons (dE_var 2 rfl rfl (dA_nil ⟨_, p, rfl, hp, hs, hz, hd, ⟨_, rfl, ?_⟩⟩)))⟩
      exact step i hx
    · refine dA_nil ⟨_, p, rfl, hp, hs, hz, hd, dE_callB (hv := Boot.«repr») (cd_repr hg (n := 9) (hu9 _ hr.un)) n_repr (dA_cons (dE_var 2 rfl rfl (dA_nil ⟨_, p, rfl, hp, hs, hz, hd, ⟨_, rfl, ?_⟩⟩)))⟩
      exact step i hx
  · rintro acc μ' ⟨rfl, rfl⟩
    refine dA_nil ⟨_, rfl, ?_⟩
    have e : (List.replicate tries.length true).all id = true := by simp
    rw [e]
    exact q
end
end Law

/-! M16: the ratios' law: one lap. -/
namespace Law
open PySem PySem.Spec PyProof.Rows L2 DL
local macro_rules | `(tactic| walk_at "lz") => `(tactic| first | exact pen_len | (rw [sizeLine_eq]; simp; done) | (rw [sizeLine_eq]; simp; omega))
section
variable {P : Program} {w : World} {K : PySem.W.Frag} {mg : Str → Option Value} {base : Heap}
/-! ### bounds -/
/-- a ratio as the law draws it -/
structure Drawn (p : Int × Int) (T B : Int) : Prop where
  low : LowP p
  top : p.1.natAbs ≤ T
  bot : p.2 ≤ B
theorem drawn_low {t b T B : Int} (h : 0 < b) (ht : (t.natAbs : Int) ≤ T) (hb : b ≤ B) : Drawn (lowQ t b) T B := by
  obtain ⟨h1, h2⟩ := lowQ_le (t := t) h
  have l := lowQ_low (t := t) h
  have := l.pos
  exact ⟨l, by omega, by omega⟩
theorem Drawn.sm {p : Int × Int} {T B : Int} (h : Drawn p T B) (hT : T ≤ 2 ^ 40) (hB : B ≤ 2 ^ 40) : SmP p := by
  have := h.low.pos
  have := h.top
  have := h.bot
  exact ⟨⟨by omega, by omega⟩, ⟨by omega, by omega⟩⟩
theorem mul_bd {a b A B : Int} (ha : (a.natAbs : Int) ≤ A) (hb : (b.natAbs : Int) ≤ B) : ((a * b).natAbs : Int) ≤ A * B := by
  rw [Int.natAbs_mul, Int.natCast_mul]
  exact Int.mul_le_mul ha hb (by omega) (by omega)
theorem kitLst {d : Dt} {T : String} (h : tyS d = some T) : PySem.W.kitOne K (.type T) (.type "list") = some (lstB d) := by
  cases d <;> simp only [tyS, Option.some.injEq, reduceCtorEq] at h <;> subst h
  · exact kit_ty (show kitB _ _ = some false by decide +kernel)
  · exact kit_ty (show kitB _ _ = some false by decide +kernel)
  · exact kit_ty (show kitB _ _ = some false by decide +kernel)
  · exact kit_ty (show kitB _ _ = some false by decide +kernel)
  · exact kit_ty (show kitB _ _ = some true by decide +kernel)
  · exact kit_ty (show kitB _ _ = some false by decide +kernel)
  · exact kit_ty (show kitB _ _ = some false by decide +kernel)
theorem sm_lowQ {t b : Int} (h : b ≠ 0) (ht : t.natAbs < 2 ^ 64) (hb : b.natAbs < 2 ^ 64) : (lowQ t b).1.natAbs < 2 ^ 64 ∧ (lowQ t b).2.natAbs < 2 ^ 64 := by
  have g : sgG t b ≠ 0 := by
    have h1 : 0 < Int.gcd t b := Int.gcd_pos_of_ne_zero_right t h
    unfold sgG
    split <;> omega
  have d1 : sgG t b ∣ t := by
    unfold sgG
    split
    · exact Int.gcd_dvd_left _ _
    · exact Int.neg_dvd.mpr (Int.gcd_dvd_left _ _)
  have d2 : sgG t b ∣ b := by
    unfold sgG
    split
    · exact Int.gcd_dvd_right _ _
    · exact Int.neg_dvd.mpr (Int.gcd_dvd_right _ _)
  have go : ∀ x : Int, sgG t b ∣ x → x.natAbs < 2 ^ 64 → (x.fdiv (sgG t b)).natAbs < 2 ^ 64 := fun x d hx => by
    obtain ⟨y, rfl⟩ := d
    rw [Int.mul_fdiv_cancel_left _ g]
    rw [Int.natAbs_mul] at hx
    have : 1 ≤ (sgG t b).natAbs := by omega
    exact Nat.lt_of_le_of_lt (Nat.le_mul_of_pos_left _ (by omega)) hx
  exact ⟨go t d1 ht, go b d2 hb⟩
theorem rep_q {p : Int × Int} (h1 : p.1.natAbs < 2 ^ 64) (h2 : p.2.natAbs < 2 ^ 64) : RepOk (qD p) :=
  repOk_of (p := .tuple [.int p.1, .int p.2]) rfl (by simp only [smP, smPs, decide_eq_true h1, decide_eq_true h2]; rfl) (by kernel_rfl) (by kernel_rfl)
theorem rep_due {a b c d : Int × Int} {k : Bool} (h1 : a.1.natAbs < 2 ^ 64 ∧ a.2.natAbs < 2 ^ 64) (h2 : b.1.natAbs < 2 ^ 64 ∧ b.2.natAbs < 2 ^ 64) (h3 : c.1.natAbs < 2 ^ 64 ∧ c.2.natAbs < 2 ^ 64) (h4 : d.1.natAbs < 2 ^ 64 ∧ d.2.natAbs < 2 ^ 64) : RepOk (.lst [qD a, qD b, qD c, qD d, .bl k]) :=
  repOk_of (p := .list [.tuple [.int a.1, .int a.2], .tuple [.int b.1, .int b.2], .tuple [.int c.1, .int c.2], .tuple [.int d.1, .int d.2], .bool k]) rfl
    (by simp only [smP, smPs, decide_eq_true h1.1, decide_eq_true h1.2, decide_eq_true h2.1, decide_eq_true h2.2, decide_eq_true h3.1, decide_eq_true h3.2, decide_eq_true h4.1, decide_eq_true h4.2]; rfl) (by kernel_rfl) (by kernel_rfl)
abbrev sLaw : Stmt := tp 42
abbrev nmLaw : List Str := ["script", "pen", "lap", "one", "two", "a", "b", "due", "bad", "odd", "zero", "tries"]
theorem scLaw : FnScope nmLaw ["script"] (defScope sLaw) := ⟨rfl, rfl, rfl, by decide +kernel, rfl, by decide +kernel, by decide +kernel⟩
def forB : Stmt → List Stmt
  | .For _ _ b _ _ => b
  | _ => []
abbrev lapB : List Stmt := forB ((defBody sLaw).getD 1 (.Pass ⟨0, 0, 0, 0⟩))
/-- what the law calls -/
structure Fns (P : Program) (w : World) (K : PySem.W.Frag) (mg : Str → Option Value) (base : Heap) (CR CB : Addr) : Prop where
  pen : DefP P w K mg base 1 "_law_pen" ["script"] rPen
  draw : DefP P w K mg base 1 "_law_draw" ["pen", "many"] rDraw
  pick : DefP P w K mg base 2 "_law_pick" ["pen", "some"] rPick
  num : DefP P w K mg base 3 "_law_number" ["pen", "most"] rNum
  handed : DefP P w K mg base 3 "_law_handed" ["pen", "ratio"] rHanded
  q : DefP P w K mg base 2 "_law_q" ["top", "bottom"] rLow
  lplus : DefP P w K mg base 3 "_law_plus" ["one", "two"] (rOp (fun p r => p.1 * r.2 + r.1 * p.2) (fun p r => p.2 * r.2))
  lminus : DefP P w K mg base 3 "_law_minus" ["one", "two"] (rOp (fun p r => p.1 * r.2 - r.1 * p.2) (fun p r => p.2 * r.2))
  ltimes : DefP P w K mg base 3 "_law_times" ["one", "two"] (rOp (fun p r => p.1 * r.1) (fun p r => p.2 * r.2))
  lshare : DefP P w K mg base 3 "_law_share" ["one", "two"] (rOp (fun p r => p.1 * r.2) (fun p r => p.2 * r.1))
  lless : DefP P w K mg base 1 "_law_less" ["one", "two"] (rCmp (fun p r => decide (p.1 * r.2 < r.1 * p.2)))
  told : DefP P w K mg base 3 "told" ["ratio"] (rTold CR)
  plus : DefP P w K mg base 4 "plus" ["one", "other"] (rTwo CR (rOp (fun p r => p.1 * r.2 + r.1 * p.2) (fun p r => p.2 * r.2)))
  minus : DefP P w K mg base 4 "minus" ["one", "other"] (rTwo CR (rOp (fun p r => p.1 * r.2 - r.1 * p.2) (fun p r => p.2 * r.2)))
  times : DefP P w K mg base 4 "times" ["one", "other"] (rTwo CR (rOp (fun p r => p.1 * r.1) (fun p r => p.2 * r.2)))
  less : DefP P w K mg base 4 "less" ["one", "other"] (rTwo CR (rCmp (fun p r => decide (p.1 * r.2 < r.1 * p.2))))
  share : DefP P w K mg base 4 "share" ["one", "other"] (rShare CR CB)
  ratio : DefP P w K mg base 3 "is_ratio" ["value"] rRatio
  repr : mg "repr" = none
  isi : mg "isinstance" = none
  lst : mg "list" = none
  range : mg "range" = none
end
end Law

/-! M17: the ratios' law: one lap. -/
namespace Law
open PySem PySem.Spec PyProof.Rows L2 DL
local macro_rules | `(tactic| walk_at "lz") => `(tactic| first | exact pen_len | (rw [sizeLine_eq]; simp; done) | (rw [sizeLine_eq]; simp; omega))
section
variable {P : Program} {w : World} {K : PySem.W.Frag} {mg : Str → Option Value} {base : Heap}
theorem hN12 : nmLaw.Nodup := by decide +kernel
theorem lapOk {CR CB f : Addr} {cdv : Value} {A : Around} {outer : List Env} {s : Shared} {H : Hp} {E : XK} {J : JX} {D : DEnds} (T : Fns P w K mg base CR CB) (hr : Room 7 (A.deeper (envOfC "law" (defScope sLaw) s.heap.objs.size f cdv))) (hg : A.guards = some [])
    {B : Nat} {m t0 : Mo} {scr lap : Dt} {x3 x4 x5 x6 x7 : Option Dt} (pen : Pen B m) (hB : B + 12 < 2 ^ 40)
    (nx : ∀ y3 y4 y5 y6 y7 m', Pen (B + 12) m' → D.nx [some scr, some (.mut 1), some lap, y3, y4, y5, y6, y7, none, none, none, none] [t0, m']) :
    dSs (cxOf (L2.CX P w) P w K mg base nmLaw "law" (defScope sLaw) f cdv A outer s H E) J lapB [some scr, some (.mut 1), some lap, x3, x4, x5, x6, x7, none, none, none, none] [t0, m] D := by
  have hN := hN12
  have hu9 : ∀ u : Nat, u + 16 * 7 + 200 < cLine → u + 9 < cLine := fun u h => by omega
  have sl : ∀ n : Nat, n ≤ 1000 → n ≤ sizeLine := fun n h => by rw [sizeLine_eq]; omega
  -- behind the drawing of both
  have rest : ∀ (p r : Int × Int) (m : Mo), Drawn p 600000 1000000 → Drawn r 9 3 → Pen (B + 6) m →
      dSs (cxOf (L2.CX P w) P w K mg base nmLaw "law" (defScope sLaw) f cdv A outer s H E) J (lapB.drop 2) [some scr, some (.mut 1), some lap, some (qD p), some (qD r), x5, x6, x7, none, none, none, none] [t0, m] D := by
    intro p r m dp dr pen
    have sp := dp.sm (by decide) (by decide)
    have sr := dr.sm (by decide) (by decide)
    have p0 := dp.low.pos
    have r0 := dr.low.pos
    have p1 := dp.top
    have p2 := dp.bot
    have r1 := dr.top
    have r2 := dr.bot
    refine dSs_cons <| dS_par 5 6 rfl hN rfl rfl <| dA_cons <| dE_go T.handed (hr.mono (by decide)) hg <| dA_cons <| dE_var 1 rfl rfl <| dA_cons <| dE_var 3 rfl rfl <| dA_nil <| mk_call1 rfl pen.ng pen.mf rfl
      ⟨B + 6, p, m, rfl, rfl, pen, by omega, sp, fun a m1 ha pm1 => ⟨ha.mf, m1, rfl, pm1.ng, pm1.mf, dA_cons <| dE_go T.handed (hr.mono (by decide)) hg <| dA_cons <| dE_var 1 rfl rfl <| dA_cons <| dE_var 4 rfl rfl <| dA_nil <| mk_call1 rfl pm1.ng pm1.mf rfl
        ⟨B + 9, r, m1, rfl, rfl, pm1, by omega, sr, fun b m2 hb pm2 => ⟨hb.mf, m2, rfl, pm2.ng, pm2.mf, dA_nil ⟨_, _, rfl, ?_⟩⟩⟩⟩⟩
    show dSs _ _ _ [some scr, some (.mut 1), some lap, some (qD p), some (qD r), some a, some b, x7, none, none, none, none] [t0, m2] _
    have ta := ha.told dp.low
    have tb := hb.told dr.low
    have pa := ha.plain
    have pb := hb.plain
    have ma := ha.mf
    have mb := hb.mf
    have sa := ha.small dp.low (by omega)
    have sb := hb.small dr.low (by omega)
    have bb : p.2 * r.2 ≠ 0 ∧ (p.2 * r.2).natAbs < 1073741824 := by
      have h1 : 0 < p.2 * r.2 := Int.mul_pos p0 r0
      have h2 := mul_bd (a := p.2) (b := r.2) (A := 1000000) (B := 3) (by omega) (by omega)
      exact ⟨by omega, by omega⟩
    have hpr := mul_bd (a := p.1) (b := r.2) (A := 600000) (B := 3) p1 (by omega)
    have hrp := mul_bd (a := r.1) (b := p.2) (A := 9) (B := 1000000) r1 (by omega)
    have hpp := mul_bd (a := p.1) (b := r.1) (A := 600000) (B := 9) p1 r1
    have hpq := mul_bd (a := p.2) (b := r.1) (A := 1000000) (B := 9) (by omega) r1
    have rd : RepOk (.lst [qD p, qD (lowQ (p.1 * r.2 + r.1 * p.2) (p.2 * r.2)), qD (lowQ (p.1 * r.2 - r.1 * p.2) (p.2 * r.2)), qD (lowQ (p.1 * r.1) (p.2 * r.2)), .bl (decide (p.1 * r.2 < r.1 * p.2))]) :=
      rep_due ⟨by omega, by omega⟩ (sm_lowQ bb.1 (by omega) (by omega)) (sm_lowQ bb.1 (by omega) (by omega)) (sm_lowQ bb.1 (by omega) (by omega))
    refine dSs_cons <| dS_set 7 hN rfl <| dE_lst <| dA_cons <| dE_var 3 rfl rfl <| dA_cons <| dE_go T.lplus (hr.mono (by decide)) hg <| dA_cons <| dE_var 3 rfl rfl <| dA_cons <| dE_var 4 rfl rfl <| dA_nil <| mk_call0 rfl ⟨p, r, rfl, sp, sr, bb.1, bb.2, rfl, fun _ => ⟨rfl, ?_⟩⟩
    refine dA_cons <| dE_go T.lminus (hr.mono (by decide)) hg <| dA_cons <| dE_var 3 rfl rfl <| dA_cons <| dE_var 4 rfl rfl <| dA_nil <| mk_call0 rfl ⟨p, r, rfl, sp, sr, bb.1, bb.2, rfl, fun _ => ⟨rfl, ?_⟩⟩
    refine dA_cons <| dE_go T.ltimes (hr.mono (by decide)) hg <| dA_cons <| dE_var 3 rfl rfl <| dA_cons <| dE_var 4 rfl rfl <| dA_nil <| mk_call0 rfl ⟨p, r, rfl, sp, sr, bb.1, bb.2, rfl, fun _ => ⟨rfl, ?_⟩⟩
    refine dA_cons <| dE_go T.lless (hr.mono (by decide)) hg <| dA_cons <| dE_var 3 rfl rfl <| dA_cons <| dE_var 4 rfl rfl <| dA_nil <| mk_call0 rfl ⟨p, r, rfl, sp, sr, rfl, fun _ => ⟨rfl, dA_nil ⟨by walk_at "lz", ?_⟩⟩⟩
    generalize hd : Dt.lst [qD p, qD (lowQ (p.1 * r.2 + r.1 * p.2) (p.2 * r.2)), qD (lowQ (p.1 * r.2 - r.1 * p.2) (p.2 * r.2)), qD (lowQ (p.1 * r.1) (p.2 * r.2)), .bl (decide (p.1 * r.2 < r.1 * p.2))] = due at rd ⊢
    show dSs _ _ _ [some scr, some (.mut 1), some lap, some (qD p), some (qD r), some a, some b, some due, none, none, none, none] [t0, m2] _
    obtain ⟨pd, rd1, rd2, rd3, rd4⟩ := rd
    have mab : mfs [a, b] = true := by simp [mfs, ma, mb]
    have none_ : ∀ {d : Dt} {z : Int × Int} {X : Prop}, toldD d = some z → toldD d = none → X := fun h h2 => by rw [h] at h2; cases h2
    have same : ∀ {d : Dt} {z z' : Int × Int}, toldD d = some z → toldD d = some z' → z = z' := fun h h2 => by rw [h] at h2; exact Option.some.inj h2
    refine dSs_cons <| dS_if <| dT_cmp od_neF <| dE_callB (hv := Boot.«repr») (cd_repr hg (n := 9) (hu9 _ hr.un)) T.repr <| dA_cons <| dE_lst <| dA_cons <| dE_go T.told (hr.mono (by decide)) hg <| dA_cons <| dE_var 5 rfl rfl <| dA_nil <| mk_call0 (by simp [mfs, ma])
      ⟨a, rfl, pa, ma, sa, rfl, fun z hz _ => ⟨rfl, ?_⟩, fun hn _ => none_ ta hn⟩
    cases same ta hz
    refine dA_cons <| dE_go T.plus (hr.mono (by decide)) hg <| dA_cons <| dE_var 5 rfl rfl <| dA_cons <| dE_var 6 rfl rfl <| dA_nil <| mk_call0 mab
      ⟨a, b, rfl, pa, ma, sa, pb, mb, sb, rfl, fun hn _ => none_ ta hn, fun _ _ hn _ => none_ tb hn, fun z z' hz hz' => ?_⟩
    cases same ta hz
    cases same tb hz'
    refine ⟨p, r, rfl, sp, sr, bb.1, bb.2, rfl, fun _ => ⟨rfl, ?_⟩⟩
    refine dA_cons <| dE_go T.minus (hr.mono (by decide)) hg <| dA_cons <| dE_var 5 rfl rfl <| dA_cons <| dE_var 6 rfl rfl <| dA_nil <| mk_call0 mab
      ⟨a, b, rfl, pa, ma, sa, pb, mb, sb, rfl, fun hn _ => none_ ta hn, fun _ _ hn _ => none_ tb hn, fun z z' hz hz' => ?_⟩
    cases same ta hz
    cases same tb hz'
    refine ⟨p, r, rfl, sp, sr, bb.1, bb.2, rfl, fun _ => ⟨rfl, ?_⟩⟩
    refine dA_cons <| dE_go T.times (hr.mono (by decide)) hg <| dA_cons <| dE_var 5 rfl rfl <| dA_cons <| dE_var 6 rfl rfl <| dA_nil <| mk_call0 mab
      ⟨a, b, rfl, pa, ma, sa, pb, mb, sb, rfl, fun hn _ => none_ ta hn, fun _ _ hn _ => none_ tb hn, fun z z' hz hz' => ?_⟩
    cases same ta hz
    cases same tb hz'
    refine ⟨p, r, rfl, sp, sr, bb.1, bb.2, rfl, fun _ => ⟨rfl, ?_⟩⟩
    refine dA_cons <| dE_go T.less (hr.mono (by decide)) hg <| dA_cons <| dE_var 5 rfl rfl <| dA_cons <| dE_var 6 rfl rfl <| dA_nil <| mk_call0 mab
      ⟨a, b, rfl, pa, ma, sa, pb, mb, sb, rfl, fun hn _ => none_ ta hn, fun _ _ hn _ => none_ tb hn, fun z z' hz hz' => ?_⟩
    cases same ta hz
    cases same tb hz'
    refine ⟨p, r, rfl, sp, sr, rfl, fun _ => ⟨rfl, dA_nil ⟨by walk_at "lz", ?_⟩⟩⟩
    rw [hd]
    refine dA_nil ⟨_, pd, rfl, rd1, rd2, rd3, rd4, dE_callB (hv := Boot.«repr») (cd_repr hg (n := 9) (hu9 _ hr.un)) T.repr <| dA_cons <| dE_var 7 rfl rfl <| dA_nil ⟨_, pd, rfl, rd1, rd2, rd3, rd4, _, rfl, mk_B ?_⟩⟩
    refine iteB (fun z => absurd z (by simp)) fun _ => dSs_nil ?_
    -- is_ratio
    obtain ⟨Ta, hTa⟩ := pa.1
    have rb : ∀ k : Bool, RepOk (.bl k) := fun k => repOk_of (p := .bool k) rfl rfl rfl rfl
    obtain ⟨pb1, rb1, rb2, rb3, rb4⟩ := rb (!lstB a)
    refine dSs_cons <| dS_if <| dT_cmp od_neF <| dE_callB (hv := Boot.«repr») (cd_repr hg (n := 9) (hu9 _ hr.un)) T.repr <| dA_cons <| dE_go T.ratio (hr.mono (by decide)) hg <| dA_cons <| dE_var 5 rfl rfl <| dA_nil <| mk_call0 (by simp [mfs, ma])
      ⟨a, rfl, pa, ma, rfl, fun _ => ⟨rfl, ?_⟩⟩
    rw [ha.ratio dp.low]
    refine dA_nil ⟨_, pb1, rfl, rb1, rb2, rb3, rb4, dE_callB (hv := Boot.«repr») (cd_repr hg (n := 9) (hu9 _ hr.un)) T.repr <| dA_cons <| dE_not <| dE_callB (hv := Boot.«isinstance») cd_isi T.isi <| dA_cons <| dE_var 5 rfl rfl <| dA_cons <| dE_bty (hv := Boot.«list») (T := "list") T.lst <| dA_nil ⟨_, _, _, _, _, rfl, .ty "list", tyM_of hTa, kitLst hTa, mk_B ?_⟩⟩
    refine dA_nil ⟨_, pb1, rfl, rb1, rb2, rb3, rb4, _, rfl, mk_B ?_⟩
    refine iteB (fun z => absurd z (by simp)) fun _ => dSs_nil ?_
    -- share
    refine dSs_cons <| dS_if <| dT_bool <| dW_and <| dT_cmp od_neF <| dE_idx <| dE_var 4 rfl rfl <| dE_int ⟨_, _, _, rfl, rfl, rfl, dE_int ⟨_, rfl, mk_B ?_⟩⟩
    have fin : D.nx [some scr, some (.mut 1), some lap, some (qD p), some (qD r), some a, some b, some due, none, none, none, none] [t0, m2] := nx _ _ _ _ _ m2 (pm2.mono (by omega))
    refine iteB (fun z => ?_) fun z => dSs_nil (dSs_nil fin)
    have h0 : r.1 ≠ 0 := by simpa using z
    have bs : p.2 * r.1 ≠ 0 ∧ (p.2 * r.1).natAbs < 1073741824 := ⟨Int.mul_ne_zero (by omega) h0, by omega⟩
    obtain ⟨h3, h4⟩ := sm_lowQ (t := p.1 * r.2) bs.1 (by omega) (by omega)
    obtain ⟨pc, rc1, rc2, rc3, rc4⟩ := rep_q h3 h4
    refine dW_and1 <| dT_cmp od_neF <| dE_callB (hv := Boot.«repr») (cd_repr hg (n := 9) (hu9 _ hr.un)) T.repr <| dA_cons <| dE_go T.share (hr.mono (by decide)) hg <| dA_cons <| dE_var 5 rfl rfl <| dA_cons <| dE_var 6 rfl rfl <| dA_nil <| mk_call0 mab
      ⟨a, b, rfl, pa, ma, sa, pb, mb, sb, rfl, fun hn _ => none_ ta hn, fun _ _ hn _ => none_ tb hn, fun z z' hz hz' h _ => absurd h (by cases same tb hz'; exact h0), fun z z' hz hz' _ => ?_⟩
    cases same ta hz
    cases same tb hz'
    refine ⟨p, r, rfl, sp, sr, bs.1, bs.2, rfl, fun _ => ⟨rfl, dA_nil ⟨_, pc, rfl, rc1, rc2, rc3, rc4, ?_⟩⟩⟩
    refine dE_callB (hv := Boot.«repr») (cd_repr hg (n := 9) (hu9 _ hr.un)) T.repr <| dA_cons <| dE_go T.lshare (hr.mono (by decide)) hg <| dA_cons <| dE_var 3 rfl rfl <| dA_cons <| dE_var 4 rfl rfl <| dA_nil <| mk_call0 rfl ⟨p, r, rfl, sp, sr, bs.1, bs.2, rfl, fun _ => ⟨rfl, ?_⟩⟩
    refine dA_nil ⟨_, pc, rfl, rc1, rc2, rc3, rc4, _, rfl, mk_B ?_⟩
    exact iteB (fun z => absurd z (by simp)) fun _ => dSs_nil (dSs_nil fin)
  refine dSs_cons <| dS_par 3 4 rfl hN rfl rfl <| dA_cons <| dE_go T.num (hr.mono (by decide)) hg <| dA_cons <| dE_var 1 rfl rfl <| dA_cons <| dE_go T.pick (hr.mono (by decide)) hg <| dA_cons <| dE_var 1 rfl rfl <| dA_cons <| dE_lst <| dA_cons <| dE_int <| dA_cons <| dE_int <| dA_nil ⟨by walk_at "lz", dA_nil ?_⟩
  refine mk_call1 rfl pen.ng pen.mf rfl ⟨B, [.int 4, .int 99999], _, m, rfl, .inl rfl, rfl, pen, by omega, by simp, by simp, fun x hx m1 pm1 => ?_⟩
  obtain ⟨most, rfl, k1, k2⟩ : ∃ c : Int, x = .int c ∧ 0 ≤ c ∧ c ≤ 99999 := by
    simp only [List.mem_cons, List.not_mem_nil, or_false] at hx
    rcases hx with rfl | rfl <;> exact ⟨_, rfl, by decide, by decide⟩
  refine ⟨rfl, m1, rfl, pm1.ng, pm1.mf, dA_nil <| mk_call1 rfl pm1.ng pm1.mf rfl ⟨B + 1, most, m1, rfl, rfl, pm1, by omega, k1, by omega, fun t c m2 t1 t2 c1 c2 pm2 => ⟨rfl, m2, rfl, pm2.ng, pm2.mf, ?_⟩⟩⟩
  refine dA_cons <| dE_go T.num (hr.mono (by decide)) hg <| dA_cons <| dE_var 1 rfl rfl <| dA_cons <| dE_int <| dA_nil <| mk_call1 rfl pm2.ng pm2.mf rfl ⟨B + 3, 9, m2, rfl, rfl, pm2, by omega, by decide, by decide, fun t' c' m3 t1' t2' c1' c2' pm3 => ⟨rfl, m3, rfl, pm3.ng, pm3.mf, dA_nil ⟨_, _, rfl, ?_⟩⟩⟩
  have dp : Drawn (lowQ t c) 99999 3 := drawn_low (by omega) (by omega) (by omega)
  have dr : Drawn (lowQ t' c') 9 3 := drawn_low (by omega) (by omega) (by omega)
  generalize lowQ t c = p at dp ⊢
  generalize lowQ t' c' = r at dr ⊢
  show dSs _ _ _ [some scr, some (.mut 1), some lap, some (qD p), some (qD r), x5, x6, x7, none, none, none, none] [t0, m3] _
  refine dSs_cons <| dS_if <| dT_cmp od_eqF <| dE_go T.draw (hr.mono (by decide)) hg <| dA_cons <| dE_var 1 rfl rfl <| dA_cons <| dE_int <| dA_nil <| mk_call1 rfl pm3.ng pm3.mf rfl ⟨B + 5, 3, m3, rfl, rfl, pm3, by omega, by decide, by decide, fun k m4 _ _ pm4 => ⟨rfl, m4, rfl, pm4.ng, pm4.mf, dE_int ⟨_, rfl, mk_B ?_⟩⟩⟩
  have p1 := dp.top
  refine iteB (fun _ => ?_) fun _ => dSs_nil (rest p r m4 ⟨dp.low, by omega, by have := dp.bot; omega⟩ dr pm4)
  have sp := dp.sm (by decide) (by decide)
  refine dSs_cons <| dS_set 3 hN rfl <| dE_go T.q (hr.mono (by decide)) hg <| dA_cons <| dE_bin od_sub <| dE_bin od_mul <| dE_idx <| dE_var 3 rfl rfl <| dE_int ⟨_, _, _, rfl, rfl, rfl, dE_int <| mk_I (C := CMul) (.inl ⟨sp.1.1, sp.1.2⟩) <| dE_int <| mk_I0 <| dA_cons <| dE_int <| dA_nil <| mk_call0 rfl ⟨p.1 * 5 - 3, 999959, rfl, by decide, by decide, rfl, fun _ => ⟨rfl, dSs_nil ?_⟩⟩⟩
  exact rest _ r m4 (drawn_low (by decide) (by omega) (by decide)) dr pm4
end
end Law

/-! M18: the ratios' law: what is none; the lambdas. -/
namespace Law
open PySem PySem.Spec PyProof.Rows L2 DL
local macro_rules | `(tactic| walk_at "lz") => `(tactic| first | exact pen_len | (rw [sizeLine_eq]; simp; done) | (rw [sizeLine_eq]; simp; omega))
section
variable {P : Program} {w : World} {K : PySem.W.Frag} {mg : Str → Option Value} {base : Heap}
structure BadV (d : Dt) : Prop where
  told : toldD d = none
  plain : Plain1 d
  mf : d.mf = true
  small : SmallP d
  rep : RepOk (.tup [.str "row", d])
def badsD : List Dt := [.non, .str "1", .tup [.int 1], .tup [.int 1, .int 0], .tup [.int 1, .int (-2)], .tup [.bl true, .int 2], .tup [.int 1, .bl true], .bl true, .tup [.int 1, .int 2, .int 3], .lst [], .dic []]
def oddsD : List Dt := [.str "x", .tup [.int 0, .int 0], .non]
def zerosD : List Dt := [.int 0, .tup [.int 0, .int 6]]
def plainB (d : Dt) : Bool := (tyS d).isSome && (itemsD d).all fun x => (tyS x).isSome
theorem plain_of {d : Dt} (h : plainB d = true) : Plain1 d := by
  unfold plainB at h
  simp only [Bool.and_eq_true, List.all_eq_true] at h
  exact ⟨Option.isSome_iff_exists.mp h.1, fun x hx => Option.isSome_iff_exists.mp (h.2 x hx)⟩
def smallB (d : Dt) : Bool := match itemsD d with
  | [.int _, .int b] => decide (b.natAbs < 1073741824)
  | _ => true
theorem small_of {d : Dt} (h : smallB d = true) : SmallP d := fun a b e => by
  unfold smallB at h
  rw [e] at h
  exact of_decide_eq_true h
def repB (d : Dt) : Bool := match toPy d with
  | some p => smP p && Nat.ble (widP p) 100000 && Nat.ble (p.depth + 1) 9
  | none => false
theorem rep_of {d : Dt} (h : repB d = true) : RepOk d := by
  unfold repB at h
  cases e : toPy d with
  | none => rw [e] at h; cases h
  | some p =>
    rw [e] at h
    simp only [Bool.and_eq_true] at h
    exact repOk_of e h.1.1 h.1.2 h.2
def badB (d : Dt) : Bool := (toldD d).isNone && plainB d && d.mf && smallB d && repB (.tup [.str "row", d])
theorem bad_of {d : Dt} (h : badB d = true) : BadV d := by
  unfold badB at h
  simp only [Bool.and_eq_true, Option.isNone_iff_eq_none] at h
  exact ⟨h.1.1.1.1, plain_of h.1.1.1.2, h.1.1.2, small_of h.1.2, rep_of h.2⟩
theorem bads_ok : ∀ d ∈ badsD, BadV d ∧ ratioD d = false := fun d hd => by
  have h : badsD.all (fun d => badB d && !ratioD d) = true := by decide +kernel
  have z := List.all_eq_true.mp h d hd
  simp only [Bool.and_eq_true, Bool.not_eq_true'] at z
  exact ⟨bad_of z.1, z.2⟩
theorem odds_ok : ∀ d ∈ oddsD, BadV d := fun d hd => by
  have h : oddsD.all badB = true := by decide +kernel
  exact bad_of (List.all_eq_true.mp h d hd)
structure ZeroV (d : Dt) : Prop where
  told : ∃ r : Int × Int, toldD d = some r ∧ r.1 = 0
  plain : Plain1 d
  mf : d.mf = true
  small : SmallP d
theorem zeros_ok : ∀ d ∈ zerosD, ZeroV d := fun d hd => by
  simp only [zerosD, List.mem_cons, List.not_mem_nil, or_false] at hd
  rcases hd with rfl | rfl
  · exact ⟨⟨_, rfl, rfl⟩, plain_of rfl, rfl, small_of rfl⟩
  · exact ⟨⟨_, rfl, by decide +kernel⟩, plain_of rfl, rfl, small_of (by decide +kernel)⟩
theorem badMf : mfs badsD = true := by kernel_rfl
/-! ### the lambdas -/
abbrev lamQ : Str := (envOfC "law" (defScope sLaw) 0 0 .none).qual ++ "<lambda>"
def lamT : Expr → List LamI
  | .Tuple (.Lambda a b sc _ :: _) _ _ => [⟨lamQ, a, b, sc⟩]
  | _ => []
def lamS : Stmt → List LamI
  | .Assign _ (.List es _) _ => es.flatMap lamT
  | .Expr (.Call _ es _ _) _ => es.flatMap lamT
  | _ => []
def lams : List LamI := (defBody sLaw).flatMap lamS
theorem lams8 : lams.length = 8 := by kernel_rfl
abbrev lamAt (i : Fin 8) : LamI := lams.get ⟨i.1, by rw [lams8]; exact i.2⟩
variable {C7 : Fin 7 → Addr} {μ : Mu} {bad odd zero : Dt} {cb co cz : Addr}
abbrev JRow (C7 : Fin 7 → Addr) (d : Dt) : Addr → List (Str × Dt) → Prop := fun C gs => C = C7 2 ∧ gs = erF ["row"] [d]
abbrev JNum (C7 : Fin 7 → Addr) : Addr → List (Str × Dt) → Prop := fun C gs => C = C7 1 ∧ gs = erF ["what", "number"] [.str "share", .int 0]
theorem dueRow {L : LamI} {cs : List (Str × Addr)} {cds : List Dt} {d : Dt} (LD : LamD P w K mg base 4 L cs cds (fun _ => False) (JRow C7 d)) (hc : CellsD μ cs cds) (r : RepOk (.tup [.str "row", d])) :
    DueD P w K mg base 4 C7 μ (.tup [.clo L cs, .tup [.str "row", d]]) :=
  ⟨L, cs, cds, _, _, _, rfl, LD, hc, fun _ z => z.elim, fun C gs _ ⟨h1, h2⟩ => ⟨2, h1, [d], rfl, .cons (by rw [h2]; rfl) .nil⟩, r⟩
theorem dueNum {L : LamI} {cs : List (Str × Addr)} {cds : List Dt} (LD : LamD P w K mg base 4 L cs cds (fun _ => False) (JNum C7)) (hc : CellsD μ cs cds) :
    DueD P w K mg base 4 C7 μ (.tup [.clo L cs, .tup [.str "number", .str "share", .int 0]]) :=
  ⟨L, cs, cds, _, _, _, rfl, LD, hc, fun _ z => z.elim, fun C gs _ ⟨h1, h2⟩ => ⟨1, h1, [.str "share", .int 0], rfl, .cons (by rw [h2]; kernel_rfl) (.cons (by rw [h2]; kernel_rfl) .nil)⟩, rep_of (by decide +kernel)⟩
theorem inj1 {a : Str} {c : Addr} : ∀ (x y : Str) (d : Addr), ([(a, c)] : List (Str × Addr)).lookup x = some d → ([(a, c)] : List (Str × Addr)).lookup y = some d → x = y := fun x y d h1 h2 => by
  have m1 := PySem.mem_of_lookup h1
  have m2 := PySem.mem_of_lookup h2
  simp only [List.mem_cons, List.not_mem_nil, or_false, Prod.mk.injEq] at m1 m2
  rw [m1.1, m2.1]
theorem inj2 {a b : Str} {c e : Addr} (n : c ≠ e) : ∀ (x y : Str) (d : Addr), ([(a, c), (b, e)] : List (Str × Addr)).lookup x = some d → ([(a, c), (b, e)] : List (Str × Addr)).lookup y = some d → x = y := fun x y d h1 h2 => by
  have m1 := PySem.mem_of_lookup h1
  have m2 := PySem.mem_of_lookup h2
  simp only [List.mem_cons, List.not_mem_nil, or_false, Prod.mk.injEq] at m1 m2
  rcases m1 with ⟨rfl, z1⟩ | ⟨rfl, z1⟩ <;> rcases m2 with ⟨rfl, z2⟩ | ⟨rfl, z2⟩
  · rfl
  · exact absurd (z1.symm.trans z2) n
  · exact absurd (z2.symm.trans z1) n
  · rfl
theorem lam0 (T : Fns P w K mg base (C7 2) (C7 1)) (b : BadV bad) : LamD P w K mg base 4 (lamAt 0) [("bad", cb)] [bad] (fun _ => False) (JRow C7 bad) := by
  have mb : mfs [bad] = true := by simp [mfs, b.mf]
  refine ⟨lamN_by (by show lamNB (lamAt 0).scope ["bad"] = true; decide +kernel), (by show (["bad"] : List Str).Nodup; decide +kernel), inj1, mb, fun _ _ _ => rfl, fun f c' A outer s H E hr hg => ?_⟩
  refine dE_go T.told (hr.mono (by decide)) hg <| dA_cons <| dE_var 0 rfl rfl <| dA_nil <| mk_call0 (by simp [mfs, Dt.mf, b.mf]) ⟨bad, rfl, b.plain, b.mf, b.small, rfl, fun q hq => ?_, fun _ _ => ⟨?_, ?_, rfl, rfl⟩⟩
  · rw [b.told] at hq; cases hq
  · simp [erF, mff, b.mf]
  · simp [erF, mff, b.mf]
theorem lam1 (T : Fns P w K mg base (C7 2) (C7 1)) (n : co ≠ cb) (b : BadV bad) (o : BadV odd) : LamD P w K mg base 4 (lamAt 1) [("odd", co), ("bad", cb)] [odd, bad] (fun _ => False) (JRow C7 bad) := by
  have mb : mfs [odd, bad] = true := by simp [mfs, b.mf, o.mf]
  refine ⟨lamN_by (by show lamNB (lamAt 1).scope ["odd", "bad"] = true; decide +kernel), (by show (["odd", "bad"] : List Str).Nodup; decide +kernel), inj2 n, mb, fun _ _ _ => rfl, fun f c' A outer s H E hr hg => ?_⟩
  refine dE_go T.plus (hr.mono (by decide)) hg <| dA_cons <| dE_var 1 rfl rfl <| dA_cons <| dE_var 0 rfl rfl <| dA_nil <| mk_call0 (by simp [mfs, Dt.mf, b.mf, o.mf]) ⟨bad, odd, rfl, b.plain, b.mf, b.small, o.plain, o.mf, o.small, rfl, fun _ _ => ⟨by simp [erF, mff, Dt.mf, b.mf, o.mf], by simp [erF, mff, Dt.mf, b.mf, o.mf], rfl, rfl⟩, fun q hq _ _ => absurd hq (by rw [b.told]; simp), fun q r hq hr2 => absurd hq (by rw [b.told]; simp)⟩
theorem lam2 (T : Fns P w K mg base (C7 2) (C7 1)) (b : BadV bad) : LamD P w K mg base 4 (lamAt 2) [("bad", cb)] [bad] (fun _ => False) (JRow C7 bad) := by
  have mb : mfs [bad] = true := by simp [mfs, b.mf]
  refine ⟨lamN_by (by show lamNB (lamAt 2).scope ["bad"] = true; decide +kernel), (by show (["bad"] : List Str).Nodup; decide +kernel), inj1, mb, fun _ _ _ => rfl, fun f c' A outer s H E hr hg => ?_⟩
  refine dE_go T.minus (hr.mono (by decide)) hg <| dA_cons <| dE_int <| dA_cons <| dE_var 0 rfl rfl <| dA_nil <| mk_call0 (by simp [mfs, Dt.mf, b.mf]) ⟨.int 1, bad, rfl, plain_of (by decide +kernel), rfl, small_of (by decide +kernel), b.plain, b.mf, b.small, rfl, fun hn _ => absurd hn (by decide +kernel), fun q hq _ _ => ⟨by simp [erF, mff, Dt.mf, b.mf], by simp [erF, mff, Dt.mf, b.mf], rfl, rfl⟩, fun q r hq hr2 => absurd hr2 (by rw [b.told]; simp)⟩
theorem lam3 (T : Fns P w K mg base (C7 2) (C7 1)) (n : co ≠ cb) (b : BadV bad) (o : BadV odd) : LamD P w K mg base 4 (lamAt 3) [("odd", co), ("bad", cb)] [odd, bad] (fun _ => False) (JRow C7 odd) := by
  have mb : mfs [odd, bad] = true := by simp [mfs, b.mf, o.mf]
  refine ⟨lamN_by (by show lamNB (lamAt 3).scope ["odd", "bad"] = true; decide +kernel), (by show (["odd", "bad"] : List Str).Nodup; decide +kernel), inj2 n, mb, fun _ _ _ => rfl, fun f c' A outer s H E hr hg => ?_⟩
  refine dE_go T.times (hr.mono (by decide)) hg <| dA_cons <| dE_var 0 rfl rfl <| dA_cons <| dE_var 1 rfl rfl <| dA_nil <| mk_call0 (by simp [mfs, Dt.mf, b.mf, o.mf]) ⟨odd, bad, rfl, o.plain, o.mf, o.small, b.plain, b.mf, b.small, rfl, fun _ _ => ⟨by simp [erF, mff, Dt.mf, b.mf, o.mf], by simp [erF, mff, Dt.mf, b.mf, o.mf], rfl, rfl⟩, fun q hq _ _ => absurd hq (by rw [o.told]; simp), fun q r hq hr2 => absurd hq (by rw [o.told]; simp)⟩
theorem lam4 (T : Fns P w K mg base (C7 2) (C7 1)) (b : BadV bad) : LamD P w K mg base 4 (lamAt 4) [("bad", cb)] [bad] (fun _ => False) (JRow C7 bad) := by
  have mb : mfs [bad] = true := by simp [mfs, b.mf]
  refine ⟨lamN_by (by show lamNB (lamAt 4).scope ["bad"] = true; decide +kernel), (by show (["bad"] : List Str).Nodup; decide +kernel), inj1, mb, fun _ _ _ => rfl, fun f c' A outer s H E hr hg => ?_⟩
  refine dE_go T.less (hr.mono (by decide)) hg <| dA_cons <| dE_tup <| dA_cons <| dE_int <| dA_cons <| dE_int <| dA_nil ⟨by walk_at "lz", dA_cons <| dE_var 0 rfl rfl <| dA_nil <| mk_call0 (by simp [mfs, Dt.mf, b.mf]) ⟨.tup [.int 1, .int 2], bad, rfl, plain_of (by decide +kernel), rfl, small_of (by decide +kernel), b.plain, b.mf, b.small, rfl, fun hn _ => absurd hn (by decide +kernel), fun q hq _ _ => ⟨by simp [erF, mff, Dt.mf, b.mf], by simp [erF, mff, Dt.mf, b.mf], rfl, rfl⟩, fun q r hq hr2 => absurd hr2 (by rw [b.told]; simp)⟩⟩
theorem lam5 (T : Fns P w K mg base (C7 2) (C7 1)) (b : BadV bad) : LamD P w K mg base 4 (lamAt 5) [("bad", cb)] [bad] (fun _ => False) (JRow C7 bad) := by
  have mb : mfs [bad] = true := by simp [mfs, b.mf]
  refine ⟨lamN_by (by show lamNB (lamAt 5).scope ["bad"] = true; decide +kernel), (by show (["bad"] : List Str).Nodup; decide +kernel), inj1, mb, fun _ _ _ => rfl, fun f c' A outer s H E hr hg => ?_⟩
  refine dE_go T.share (hr.mono (by decide)) hg <| dA_cons <| dE_var 0 rfl rfl <| dA_cons <| dE_int <| dA_nil <| mk_call0 (by simp [mfs, Dt.mf, b.mf]) ⟨bad, .int 0, rfl, b.plain, b.mf, b.small, plain_of (by decide +kernel), rfl, small_of (by decide +kernel), rfl, fun _ _ => ⟨by simp [erF, mff, Dt.mf, b.mf], by simp [erF, mff, Dt.mf, b.mf], rfl, rfl⟩, fun q hq _ _ => absurd hq (by rw [b.told]; simp), fun q r hq hr2 h0 _ => absurd hq (by rw [b.told]; simp), fun q r hq hr2 h0 => absurd hq (by rw [b.told]; simp)⟩
theorem lam6 (T : Fns P w K mg base (C7 2) (C7 1)) (b : BadV bad) : LamD P w K mg base 4 (lamAt 6) [("bad", cb)] [bad] (fun _ => False) (JRow C7 bad) := by
  have mb : mfs [bad] = true := by simp [mfs, b.mf]
  refine ⟨lamN_by (by show lamNB (lamAt 6).scope ["bad"] = true; decide +kernel), (by show (["bad"] : List Str).Nodup; decide +kernel), inj1, mb, fun _ _ _ => rfl, fun f c' A outer s H E hr hg => ?_⟩
  refine dE_go T.share (hr.mono (by decide)) hg <| dA_cons <| dE_int <| dA_cons <| dE_var 0 rfl rfl <| dA_nil <| mk_call0 (by simp [mfs, Dt.mf, b.mf]) ⟨.int 1, bad, rfl, plain_of (by decide +kernel), rfl, small_of (by decide +kernel), b.plain, b.mf, b.small, rfl, fun hn _ => absurd hn (by decide +kernel), fun q hq _ _ => ⟨by simp [erF, mff, Dt.mf, b.mf], by simp [erF, mff, Dt.mf, b.mf], rfl, rfl⟩, fun q r hq hr2 h0 _ => absurd hr2 (by rw [b.told]; simp), fun q r hq hr2 h0 => absurd hr2 (by rw [b.told]; simp)⟩
theorem lam7 (T : Fns P w K mg base (C7 2) (C7 1)) (z : ZeroV zero) : LamD P w K mg base 4 (lamAt 7) [("zero", cz)] [zero] (fun _ => False) (JNum C7) := by
  have mb : mfs [zero] = true := by simp [mfs, z.mf]
  refine ⟨lamN_by (by show lamNB (lamAt 7).scope ["zero"] = true; decide +kernel), (by show (["zero"] : List Str).Nodup; decide +kernel), inj1, mb, fun _ _ _ => rfl, fun f c' A outer s H E hr hg => ?_⟩
  refine dE_go T.share (hr.mono (by decide)) hg <| dA_cons <| dE_int <| dA_cons <| dE_var 0 rfl rfl <| dA_nil <| mk_call0 (by simp [mfs, Dt.mf, z.mf]) ⟨.int 3, zero, rfl, plain_of (by decide +kernel), rfl, small_of (by decide +kernel), z.plain, z.mf, z.small, rfl, fun hn _ => absurd hn (by decide +kernel), fun q hq hn _ => (by obtain ⟨r, h1, h2⟩ := z.told; rw [h1] at hn; cases hn), fun q r hq hr2 h0 _ => ⟨rfl, rfl, rfl, rfl⟩, fun q r hq hr2 h0 => (by obtain ⟨r', h1, h2⟩ := z.told; rw [h1] at hr2; cases hr2; exact absurd h2 h0)⟩
end
end Law

/-! M19: the ratios' law. -/
namespace Law
open PySem PySem.Spec PyProof.Rows L2 DL
local macro_rules | `(tactic| walk_at "lz") => `(tactic| first | exact pen_len | (rw [sizeLine_eq]; simp; done) | (rw [sizeLine_eq]; simp; omega))
section
variable {P : Program} {w : World} {K : PySem.W.Frag} {mg : Str → Option Value} {base : Heap}
theorem cellsD1 {μ : Mu} {n : Nat} {oc : Obj} {x : Str} {c : Addr} {d : Dt} (h : μ[n]? = some (.cell n c oc d)) : CellsD μ [(x, c)] [d] := ⟨rfl, fun i y e f h1 h2 => by
  cases i with
  | zero =>
    simp at h1 h2
    obtain ⟨rfl, rfl⟩ := h1
    subst h2
    exact ⟨n, oc, h⟩
  | succ i => simp at h1⟩
theorem cellsD2 {μ : Mu} {n n2 : Nat} {oc oc2 : Obj} {x x2 : Str} {c c2 : Addr} {d d2 : Dt} (h : μ[n]? = some (.cell n c oc d)) (h' : μ[n2]? = some (.cell n2 c2 oc2 d2)) : CellsD μ [(x, c), (x2, c2)] [d, d2] := ⟨rfl, fun i y e f h1 h2 => by
  match i, h1, h2 with
  | 0, h1, h2 =>
    simp at h1 h2
    obtain ⟨rfl, rfl⟩ := h1
    subst h2
    exact ⟨n, oc, h⟩
  | 1, h1, h2 =>
    simp at h1 h2
    obtain ⟨rfl, rfl⟩ := h1
    subst h2
    exact ⟨n2, oc2, h'⟩
  | i + 2, h1, h2 => simp at h1⟩
def rLaw (T : Addr) : Spc := fun ds μ Q _ => ∃ ns : List Int, ds = [.lst (ns.map .int)] ∧ μ = [.tab 0 T lamQ] ∧ ∀ μ', Q (.bl true) μ'
theorem okLaw {C7 : Fin 7 → Addr} {c T f : Addr} {fd : FuncData} (F : Fun K "law" "law" sLaw f fd) (hcd : fd.code = .ref c) (TB : LamX.TabB base mg c T) (Fs : Fns P w K mg base (C7 2) (C7 1))
    (f_due : DefP P w K mg base 7 "_law_are_due" ["tries"] (rDue P w K mg base 4 C7)) : FnG P w K mg base 8 f fd ["script"] (rLaw T) := by
  refine FnG.ofC F scLaw (fun ds μ Q J ⟨ns, e, _⟩ => by rw [e]; rfl) fun cdv hcdv A outer s H E ds μ Q J hr hg ⟨ns, e, e2, q⟩ => ?_
  subst e e2
  have hN := hN12
  obtain rfl : cdv = .ref c := hcdv.symm.trans hcd
  have hcode : (cxOf (L2.CX P w) P w K mg base nmLaw "law" (defScope sLaw) f (.ref c) A outer s H E).env.code = .ref c := rfl
  refine dSs_cons <| dS_set 1 hN rfl <| dE_goN Fs.pen (hr.mono (by decide)) hg <| dA_cons <| dE_var 0 rfl rfl <| dA_nil ⟨by simp [mfs, Dt.mf, mfs_ints], ⟨ns, rfl, rfl, fun m pm => ⟨0, m, rfl, rfl, pm.ng, pm.mf, ?_⟩⟩⟩
  generalize Dt.lst (ns.map .int) = scr
  show dSs _ _ _ [some scr, some (.mut 1), none, none, none, none, none, none, none, none, none, none] [.tab 0 T lamQ, m] _
  refine dSs_cons <| dS_for (passes_of rfl) rfl <| dI_range1 Fs.range <| dA_cons <| dE_int <| dA_nil ⟨6, rfl, by decide, by decide, ?_⟩
  refine ⟨fun i ρ' μ' => ∃ m' x2 x3 x4 x5 x6 x7, ρ' = [some scr, some (.mut 1), x2, x3, x4, x5, x6, x7, none, none, none, none] ∧ μ' = [.tab 0 T lamQ, m'] ∧ Pen (12 * i) m', ⟨m, none, none, none, none, none, none, rfl, rfl, pm⟩, fun _ _ _ _ => trivial, ?_, ?_⟩
  · rintro i x ρ' μ' hx ⟨m', x2, x3, x4, x5, x6, x7, rfl, rfl, pm'⟩
    have hi : i < 6 := (List.getElem?_eq_some_iff.mp hx).1
    refine dG_name 2 hN rfl ?_
    exact lapOk Fs hr hg pm' (by omega) fun y3 y4 y5 y6 y7 m2 p2 => ⟨m2, some x, y3, y4, y5, y6, y7, rfl, rfl, p2⟩
  rintro ρ' μ' ⟨m', x2, x3, x4, x5, x6, x7, rfl, rfl, pm'⟩
  have pm' : Pen 72 m' := pm'
  show dSs _ _ _ _ _ _
  refine dSs_cons <| dS_set 8 hN rfl <| dE_go Fs.pick (hr.mono (by decide)) hg <| dA_cons <| dE_var 1 rfl rfl <| dA_cons <| dE_lst <| dA_cons <| dE_non <| dA_cons <| dE_str <| dA_cons <| dE_tup <| dA_cons <| dE_int <| dA_nil ⟨by walk_at "lz", dA_cons <| dE_tup <| dA_cons <| dE_int <| dA_cons <| dE_int <| dA_nil ⟨by walk_at "lz", dA_cons <| dE_tup <| dA_cons <| dE_int <| dA_cons <| dE_neg <| dE_int ⟨_, rfl, dA_nil ⟨by walk_at "lz", dA_cons <| dE_tup <| dA_cons <| dE_bl <| dA_cons <| dE_int <| dA_nil ⟨by walk_at "lz", dA_cons <| dE_tup <| dA_cons <| dE_int <| dA_cons <| dE_bl <| dA_nil ⟨by walk_at "lz", dA_cons <| dE_bl <| dA_cons <| dE_tup <| dA_cons <| dE_int <| dA_cons <| dE_int <| dA_cons <| dE_int <| dA_nil ⟨by walk_at "lz", dA_cons <| dE_lst <| dA_nil ⟨by walk_at "lz", dA_cons <| dE_dnew <| dA_nil ⟨by walk_at "lz", dA_nil ?_⟩⟩⟩⟩⟩⟩⟩⟩⟩
  refine mk_call1 rfl pm'.ng pm'.mf (by simp only [mfs, Dt.mf, Bool.and_true]; exact badMf) ⟨72, badsD, _, m', rfl, .inl rfl, rfl, pm', by omega, by simp [badsD], by simp [badsD], fun bad hb m1 p1 => ?_⟩
  obtain ⟨b, br⟩ := bads_ok bad hb
  refine ⟨b.mf, m1, rfl, p1.ng, p1.mf, ?_⟩
  show dSs _ _ _ [some scr, some (.mut 1), x2, x3, x4, x5, x6, x7, some bad, none, none, none] [.tab 0 T lamQ, m1] _
  refine dSs_cons <| dS_asg <| dE_tup <| dA_cons <| dE_go Fs.pick (hr.mono (by decide)) hg <| dA_cons <| dE_var 1 rfl rfl <| dA_cons <| dE_lst <| dA_cons <| dE_str <| dA_cons <| dE_tup <| dA_cons <| dE_int <| dA_cons <| dE_int <| dA_nil ⟨by walk_at "lz", dA_cons <| dE_non <| dA_nil ⟨by walk_at "lz", dA_nil ?_⟩⟩
  refine mk_call1 rfl p1.ng p1.mf rfl ⟨73, oddsD, _, m1, rfl, .inl rfl, rfl, p1, by omega, by simp [oddsD], by simp [oddsD], fun odd ho m2 p2 => ?_⟩
  have od := odds_ok odd ho
  refine ⟨od.mf, m2, rfl, p2.ng, p2.mf, ?_⟩
  refine dA_cons <| dE_go Fs.pick (hr.mono (by decide)) hg <| dA_cons <| dE_var 1 rfl rfl <| dA_cons <| dE_lst <| dA_cons <| dE_int <| dA_cons <| dE_tup <| dA_cons <| dE_int <| dA_cons <| dE_int <| dA_nil ⟨by walk_at "lz", dA_nil ⟨by walk_at "lz", dA_nil ?_⟩⟩
  refine mk_call1 rfl p2.ng p2.mf rfl ⟨74, zerosD, _, m2, rfl, .inl rfl, rfl, p2, by omega, by simp [zerosD], by simp [zerosD], fun zero hz m3 p3 => ?_⟩
  have zo := zeros_ok zero hz
  refine ⟨zo.mf, m3, rfl, p3.ng, p3.mf, dA_nil ⟨by walk_at "lz", dG_tup rfl rfl <| dGs_cons <| dG_name 9 hN rfl <| dGs_cons <| dG_name 10 hN rfl <| dGs_nil ?_⟩⟩
  show dSs _ _ _ [some scr, some (.mut 1), x2, x3, x4, x5, x6, x7, some bad, some odd, some zero, none] [.tab 0 T lamQ, m3] _
  obtain ⟨cb, hcb⟩ : ∃ x, x = s.heap.objs.size + 1 := ⟨_, rfl⟩
  obtain ⟨co, hco⟩ : ∃ x, x = s.heap.objs.size + 1 + 1 := ⟨_, rfl⟩
  obtain ⟨cz, hcz⟩ : ∃ x, x = s.heap.objs.size + 1 + 1 + 1 := ⟨_, rfl⟩
  refine dSs_cons <| dS_set 11 hN rfl <| dE_lstM <| dA_cons <| dE_tup <| dA_cons <| dE_lam (n := 0) TB hcode rfl (LamX.lamS_by (by show LamX.lamSB (defScope sLaw) _ = true; decide +kernel)) <| dA_cons <| dE_tup <| dA_cons <| dE_str <| dA_cons <| dE_var 8 rfl rfl <| dA_nil ⟨by walk_at "lz", dA_nil ⟨by walk_at "lz", dA_nil ⟨by walk_at "lz", ?_⟩⟩⟩
  have k0 : ∀ (t : Dt), t = .tup [.clo (lamAt 0) [("bad", cb)], .tup [.str "row", bad]] → dSs (cxOf (L2.CX P w) P w K mg base nmLaw "law" (defScope sLaw) f (.ref c) A outer s H E) J ((defBody sLaw).drop 5) [some scr, some (.mut 1), x2, x3, x4, x5, x6, x7, some bad, some odd, some zero, some (.mut 2)] [.tab 0 T lamQ, m3, .lst [t]] { nx := fun _ μ' => Q .non μ', rt := Q } := ?_
  · exact k0 _ (by rw [hcb]; rfl)
  rintro t0 e0
  refine dSs_cons <| dS_expr <| dE_lm PySem.F.slot_list_append PySem.F.type_list_append md_append <| dE_var 11 rfl rfl ⟨⟨⟨_, rfl⟩, fun _ z => by cases z⟩, dA_cons <| dE_tup <| dA_cons <| dE_lam (n := 0) TB hcode rfl (LamX.lamS_by (by show LamX.lamSB (defScope sLaw) _ = true; decide +kernel)) <| dA_cons <| dE_tup <| dA_cons <| dE_str <| dA_cons <| dE_var 8 rfl rfl <| dA_nil ⟨by walk_at "lz", dA_nil ⟨by walk_at "lz", dA_nil ⟨2, _, _, rfl, rfl, rfl, by walk_at "lz", ?_⟩⟩⟩⟩
  generalize e1 : Dt.tup [.clo _ _, _] = t1
  have e1 : t1 = .tup [.clo (lamAt 1) [("odd", co), ("bad", cb)], .tup [.str "row", bad]] := e1.symm.trans (by rw [hco, hcb]; rfl)
  show dSs _ _ _ [some scr, some (.mut 1), x2, x3, x4, x5, x6, x7, some bad, some odd, some zero, some (.mut 2)] [.tab 0 T lamQ, m3, .lst [t0, t1]] _
  refine dSs_cons <| dS_expr <| dE_lm PySem.F.slot_list_append PySem.F.type_list_append md_append <| dE_var 11 rfl rfl ⟨⟨⟨_, rfl⟩, fun _ z => by cases z⟩, dA_cons <| dE_tup <| dA_cons <| dE_lam (n := 0) TB hcode rfl (LamX.lamS_by (by show LamX.lamSB (defScope sLaw) _ = true; decide +kernel)) <| dA_cons <| dE_tup <| dA_cons <| dE_str <| dA_cons <| dE_var 8 rfl rfl <| dA_nil ⟨by walk_at "lz", dA_nil ⟨by walk_at "lz", dA_nil ⟨2, _, _, rfl, rfl, rfl, by walk_at "lz", ?_⟩⟩⟩⟩
  generalize e2 : Dt.tup [.clo _ _, _] = t2
  have e2 : t2 = .tup [.clo (lamAt 2) [("bad", cb)], .tup [.str "row", bad]] := e2.symm.trans (by rw [hcb]; rfl)
  show dSs _ _ _ [some scr, some (.mut 1), x2, x3, x4, x5, x6, x7, some bad, some odd, some zero, some (.mut 2)] [.tab 0 T lamQ, m3, .lst [t0, t1, t2]] _
  refine dSs_cons <| dS_expr <| dE_lm PySem.F.slot_list_append PySem.F.type_list_append md_append <| dE_var 11 rfl rfl ⟨⟨⟨_, rfl⟩, fun _ z => by cases z⟩, dA_cons <| dE_tup <| dA_cons <| dE_lam (n := 0) TB hcode rfl (LamX.lamS_by (by show LamX.lamSB (defScope sLaw) _ = true; decide +kernel)) <| dA_cons <| dE_tup <| dA_cons <| dE_str <| dA_cons <| dE_var 9 rfl rfl <| dA_nil ⟨by walk_at "lz", dA_nil ⟨by walk_at "lz", dA_nil ⟨2, _, _, rfl, rfl, rfl, by walk_at "lz", ?_⟩⟩⟩⟩
  generalize e3 : Dt.tup [.clo _ _, _] = t3
  have e3 : t3 = .tup [.clo (lamAt 3) [("odd", co), ("bad", cb)], .tup [.str "row", odd]] := e3.symm.trans (by rw [hco, hcb]; rfl)
  show dSs _ _ _ [some scr, some (.mut 1), x2, x3, x4, x5, x6, x7, some bad, some odd, some zero, some (.mut 2)] [.tab 0 T lamQ, m3, .lst [t0, t1, t2, t3]] _
  refine dSs_cons <| dS_expr <| dE_lm PySem.F.slot_list_append PySem.F.type_list_append md_append <| dE_var 11 rfl rfl ⟨⟨⟨_, rfl⟩, fun _ z => by cases z⟩, dA_cons <| dE_tup <| dA_cons <| dE_lam (n := 0) TB hcode rfl (LamX.lamS_by (by show LamX.lamSB (defScope sLaw) _ = true; decide +kernel)) <| dA_cons <| dE_tup <| dA_cons <| dE_str <| dA_cons <| dE_var 8 rfl rfl <| dA_nil ⟨by walk_at "lz", dA_nil ⟨by walk_at "lz", dA_nil ⟨2, _, _, rfl, rfl, rfl, by walk_at "lz", ?_⟩⟩⟩⟩
  generalize e4 : Dt.tup [.clo _ _, _] = t4
  have e4 : t4 = .tup [.clo (lamAt 4) [("bad", cb)], .tup [.str "row", bad]] := e4.symm.trans (by rw [hcb]; rfl)
  show dSs _ _ _ [some scr, some (.mut 1), x2, x3, x4, x5, x6, x7, some bad, some odd, some zero, some (.mut 2)] [.tab 0 T lamQ, m3, .lst [t0, t1, t2, t3, t4]] _
  refine dSs_cons <| dS_expr <| dE_lm PySem.F.slot_list_append PySem.F.type_list_append md_append <| dE_var 11 rfl rfl ⟨⟨⟨_, rfl⟩, fun _ z => by cases z⟩, dA_cons <| dE_tup <| dA_cons <| dE_lam (n := 0) TB hcode rfl (LamX.lamS_by (by show LamX.lamSB (defScope sLaw) _ = true; decide +kernel)) <| dA_cons <| dE_tup <| dA_cons <| dE_str <| dA_cons <| dE_var 8 rfl rfl <| dA_nil ⟨by walk_at "lz", dA_nil ⟨by walk_at "lz", dA_nil ⟨2, _, _, rfl, rfl, rfl, by walk_at "lz", ?_⟩⟩⟩⟩
  generalize e5 : Dt.tup [.clo _ _, _] = t5
  have e5 : t5 = .tup [.clo (lamAt 5) [("bad", cb)], .tup [.str "row", bad]] := e5.symm.trans (by rw [hcb]; rfl)
  show dSs _ _ _ [some scr, some (.mut 1), x2, x3, x4, x5, x6, x7, some bad, some odd, some zero, some (.mut 2)] [.tab 0 T lamQ, m3, .lst [t0, t1, t2, t3, t4, t5]] _
  refine dSs_cons <| dS_expr <| dE_lm PySem.F.slot_list_append PySem.F.type_list_append md_append <| dE_var 11 rfl rfl ⟨⟨⟨_, rfl⟩, fun _ z => by cases z⟩, dA_cons <| dE_tup <| dA_cons <| dE_lam (n := 0) TB hcode rfl (LamX.lamS_by (by show LamX.lamSB (defScope sLaw) _ = true; decide +kernel)) <| dA_cons <| dE_tup <| dA_cons <| dE_str <| dA_cons <| dE_var 8 rfl rfl <| dA_nil ⟨by walk_at "lz", dA_nil ⟨by walk_at "lz", dA_nil ⟨2, _, _, rfl, rfl, rfl, by walk_at "lz", ?_⟩⟩⟩⟩
  generalize e6 : Dt.tup [.clo _ _, _] = t6
  have e6 : t6 = .tup [.clo (lamAt 6) [("bad", cb)], .tup [.str "row", bad]] := e6.symm.trans (by rw [hcb]; rfl)
  show dSs _ _ _ [some scr, some (.mut 1), x2, x3, x4, x5, x6, x7, some bad, some odd, some zero, some (.mut 2)] [.tab 0 T lamQ, m3, .lst [t0, t1, t2, t3, t4, t5, t6]] _
  refine dSs_cons <| dS_expr <| dE_lm PySem.F.slot_list_append PySem.F.type_list_append md_append <| dE_var 11 rfl rfl ⟨⟨⟨_, rfl⟩, fun _ z => by cases z⟩, dA_cons <| dE_tup <| dA_cons <| dE_lam (n := 0) TB hcode rfl (LamX.lamS_by (by show LamX.lamSB (defScope sLaw) _ = true; decide +kernel)) <| dA_cons <| dE_tup <| dA_cons <| dE_str <| dA_cons <| dE_str <| dA_cons <| dE_int <| dA_nil ⟨by walk_at "lz", dA_nil ⟨by walk_at "lz", dA_nil ⟨2, _, _, rfl, rfl, rfl, by walk_at "lz", ?_⟩⟩⟩⟩
  generalize e7 : Dt.tup [.clo _ _, _] = t7
  have e7 : t7 = .tup [.clo (lamAt 7) [("zero", cz)], .tup [.str "number", .str "share", .int 0]] := e7.symm.trans (by rw [hcz]; rfl)
  show dSs _ _ _ [some scr, some (.mut 1), x2, x3, x4, x5, x6, x7, some bad, some odd, some zero, some (.mut 2)] [.tab 0 T lamQ, m3, .lst [t0, t1, t2, t3, t4, t5, t6, t7]] _
  refine dS_freeze 11 2 [t0, t1, t2, t3, t4, t5, t6, t7] rfl rfl ?_
  show dSs _ _ _ [some scr, some (.mut 1), x2, x3, x4, x5, x6, x7, some bad, some odd, some zero, some (.lst [t0, t1, t2, t3, t4, t5, t6, t7])] [.tab 0 T lamQ, m3, .gone] _
  refine dSs_cons <| dS_ret <| dE_and <| dE_cmp od_isB <| dE_go Fs.ratio (hr.mono (by decide)) hg <| dA_cons <| dE_var 8 rfl rfl <| dA_nil <| mk_call0 (by simp [mfs, b.mf]) ⟨bad, rfl, b.plain, b.mf, rfl, fun _ => ⟨rfl, dE_bl ⟨_, _, rfl, rfl, mk_B ?_⟩⟩⟩
  rw [br]
  refine iteB (fun _ => ?_) fun z => absurd z (by decide)
  have ne1 : co ≠ cb := by omega
  refine dE_one <| dE_cells (cl := [(cb, bad), (co, odd), (cz, zero)]) f_due (hr.mono (by decide)) hg ?_ ?_ <| dA_cons <| dE_var 11 rfl rfl <| dA_nil ⟨?_, fun g => ⟨[t0, t1, t2, t3, t4, t5, t6, t7], rfl, by simp, ?_, rfl, fun j hj => rfl, q _⟩⟩
  · intro t ht
    simp only [List.mem_cons, List.not_mem_nil, or_false] at ht
    rcases ht with rfl | rfl | rfl
    · exact ⟨b.mf, 8, "bad", rfl, rfl, rfl, by rw [hcb]; rfl, rfl⟩
    · exact ⟨od.mf, 9, "odd", rfl, rfl, rfl, by rw [hco]; rfl, rfl⟩
    · exact ⟨zo.mf, 10, "zero", rfl, rfl, rfl, by rw [hcz]; rfl, rfl⟩
  · have n1 : cb ≠ co := by omega
    have n2 : cb ≠ cz := by omega
    have n3 : co ≠ cz := by omega
    simp [n1, n2, n3]
  · rw [e0, e1, e2, e3, e4, e5, e6, e7]
    simp [mfs, Dt.mf, b.mf, od.mf]
  · have u0 : (cellMu g 0 [(cb, bad), (co, odd), (cz, zero)])[0]? = some (.cell 0 cb (g cb) bad) := rfl
    have u1 : (cellMu g 0 [(cb, bad), (co, odd), (cz, zero)])[1]? = some (.cell 1 co (g co) odd) := rfl
    have u2 : (cellMu g 0 [(cb, bad), (co, odd), (cz, zero)])[2]? = some (.cell 2 cz (g cz) zero) := rfl
    intro t ht
    simp only [List.mem_cons, List.not_mem_nil, or_false] at ht
    rcases ht with rfl | rfl | rfl | rfl | rfl | rfl | rfl | rfl
    · rw [e0]
      exact dueRow (lam0 Fs b) (cellsD1 u0) b.rep
    · rw [e1]
      exact dueRow (lam1 Fs ne1 b od) (cellsD2 u1 u0) b.rep
    · rw [e2]
      exact dueRow (lam2 Fs b) (cellsD1 u0) b.rep
    · rw [e3]
      exact dueRow (lam3 Fs ne1 b od) (cellsD2 u1 u0) od.rep
    · rw [e4]
      exact dueRow (lam4 Fs b) (cellsD1 u0) b.rep
    · rw [e5]
      exact dueRow (lam5 Fs b) (cellsD1 u0) b.rep
    · rw [e6]
      exact dueRow (lam6 Fs b) (cellsD1 u0) b.rep
    · rw [e7]
      exact dueNum (lam7 Fs zo) (cellsD1 u2)
end
end Law

/-! What the text says; the law. -/
namespace Law
open PySem PySem.Spec PyProof.Rows L2 DL
theorem all_mk {P : Program} {w : World} {K : PySem.W.Frag} {h : Heap} {mg : Str → Option Value} {fa : Addr} (X : K.In h) (G : h.Ns mainGlobals mg) (hfa : mg "law" = some (.ref fa))
    {CW C0 fI0 C1 fI1 C2 fI2 C3 fI3 C4 fI4 C5 fI5 C6 fI6 cC TT g0 g1 g2 g3 g4 g5 g6 g7 g8 g9 g10 g11 g12 g13 g14 g15 g16 g17 g18 g19 g20 g21 g22 g23 g24 g25 g26 g27 g28 g29 : Addr}
    {nmW qnW : Str} {NW : Addr} {bsW : List Value} {snW : List Str} {subW : List Value} {abW : Bool} {colW : Option Bool} {ddW : Option Addr} {m0W m1W m2W m3W m5W : Option Value}
    {nmE0 qnE0 : Str} {NE0 : Addr} {bsE0 : List Value} {snE0 : List Str} {subE0 : List Value} {abE0 : Bool} {colE0 : Option Bool} {ddE0 : Option Addr} {m0E0 m1E0 m2E0 m3E0 m5E0 : Option Value}
    {odE0 anE0 : Option Addr} {slE0 : Array (Option Value)} {ocE0 kVE0 dcE0 pmE0 cdE0 ctE0 : Value}
    {nmE1 qnE1 : Str} {NE1 : Addr} {bsE1 : List Value} {snE1 : List Str} {subE1 : List Value} {abE1 : Bool} {colE1 : Option Bool} {ddE1 : Option Addr} {m0E1 m1E1 m2E1 m3E1 m5E1 : Option Value}
    {odE1 anE1 : Option Addr} {slE1 : Array (Option Value)} {ocE1 kVE1 dcE1 pmE1 cdE1 ctE1 : Value}
    {nmE2 qnE2 : Str} {NE2 : Addr} {bsE2 : List Value} {snE2 : List Str} {subE2 : List Value} {abE2 : Bool} {colE2 : Option Bool} {ddE2 : Option Addr} {m0E2 m1E2 m2E2 m3E2 m5E2 : Option Value}
    {odE2 anE2 : Option Addr} {slE2 : Array (Option Value)} {ocE2 kVE2 dcE2 pmE2 cdE2 ctE2 : Value}
    {nmE3 qnE3 : Str} {NE3 : Addr} {bsE3 : List Value} {snE3 : List Str} {subE3 : List Value} {abE3 : Bool} {colE3 : Option Bool} {ddE3 : Option Addr} {m0E3 m1E3 m2E3 m3E3 m5E3 : Option Value}
    {odE3 anE3 : Option Addr} {slE3 : Array (Option Value)} {ocE3 kVE3 dcE3 pmE3 cdE3 ctE3 : Value}
    {nmE4 qnE4 : Str} {NE4 : Addr} {bsE4 : List Value} {snE4 : List Str} {subE4 : List Value} {abE4 : Bool} {colE4 : Option Bool} {ddE4 : Option Addr} {m0E4 m1E4 m2E4 m3E4 m5E4 : Option Value}
    {odE4 anE4 : Option Addr} {slE4 : Array (Option Value)} {ocE4 kVE4 dcE4 pmE4 cdE4 ctE4 : Value}
    {nmE5 qnE5 : Str} {NE5 : Addr} {bsE5 : List Value} {snE5 : List Str} {subE5 : List Value} {abE5 : Bool} {colE5 : Option Bool} {ddE5 : Option Addr} {m0E5 m1E5 m2E5 m3E5 m5E5 : Option Value}
    {odE5 anE5 : Option Addr} {slE5 : Array (Option Value)} {ocE5 kVE5 dcE5 pmE5 cdE5 ctE5 : Value}
    {nmE6 qnE6 : Str} {NE6 : Addr} {bsE6 : List Value} {snE6 : List Str} {subE6 : List Value} {abE6 : Bool} {colE6 : Option Bool} {ddE6 : Option Addr} {m0E6 m1E6 m2E6 m3E6 m5E6 : Option Value}
    {odE6 anE6 : Option Addr} {slE6 : Array (Option Value)} {ocE6 kVE6 dcE6 pmE6 cdE6 ctE6 : Value}
    {odF0 anF0 : Option Addr} {slF0 : Array (Option Value)} {ocF0 kVF0 dcF0 pmF0 cdF0 ctF0 : Value}
    {odF1 anF1 : Option Addr} {slF1 : Array (Option Value)} {ocF1 kVF1 dcF1 pmF1 cdF1 ctF1 : Value}
    {odF2 anF2 : Option Addr} {slF2 : Array (Option Value)} {ocF2 kVF2 dcF2 pmF2 cdF2 ctF2 : Value}
    {odF3 anF3 : Option Addr} {slF3 : Array (Option Value)} {ocF3 kVF3 dcF3 pmF3 cdF3 ctF3 : Value}
    {odF4 anF4 : Option Addr} {slF4 : Array (Option Value)} {ocF4 kVF4 dcF4 pmF4 cdF4 ctF4 : Value}
    {odF5 anF5 : Option Addr} {slF5 : Array (Option Value)} {ocF5 kVF5 dcF5 pmF5 cdF5 ctF5 : Value}
    {odF6 anF6 : Option Addr} {slF6 : Array (Option Value)} {ocF6 kVF6 dcF6 pmF6 cdF6 ctF6 : Value}
    {odF7 anF7 : Option Addr} {slF7 : Array (Option Value)} {ocF7 kVF7 dcF7 pmF7 cdF7 ctF7 : Value}
    {odF8 anF8 : Option Addr} {slF8 : Array (Option Value)} {ocF8 kVF8 dcF8 pmF8 cdF8 ctF8 : Value}
    {odF9 anF9 : Option Addr} {slF9 : Array (Option Value)} {ocF9 kVF9 dcF9 pmF9 cdF9 ctF9 : Value}
    {odF10 anF10 : Option Addr} {slF10 : Array (Option Value)} {ocF10 kVF10 dcF10 pmF10 cdF10 ctF10 : Value}
    {odF11 anF11 : Option Addr} {slF11 : Array (Option Value)} {ocF11 kVF11 dcF11 pmF11 cdF11 ctF11 : Value}
    {odF12 anF12 : Option Addr} {slF12 : Array (Option Value)} {ocF12 kVF12 dcF12 pmF12 cdF12 ctF12 : Value}
    {odF13 anF13 : Option Addr} {slF13 : Array (Option Value)} {ocF13 kVF13 dcF13 pmF13 cdF13 ctF13 : Value}
    {odF14 anF14 : Option Addr} {slF14 : Array (Option Value)} {ocF14 kVF14 dcF14 pmF14 cdF14 ctF14 : Value}
    {odF15 anF15 : Option Addr} {slF15 : Array (Option Value)} {ocF15 kVF15 dcF15 pmF15 cdF15 ctF15 : Value}
    {odF16 anF16 : Option Addr} {slF16 : Array (Option Value)} {ocF16 kVF16 dcF16 pmF16 cdF16 ctF16 : Value}
    {odF17 anF17 : Option Addr} {slF17 : Array (Option Value)} {ocF17 kVF17 dcF17 pmF17 cdF17 ctF17 : Value}
    {odF18 anF18 : Option Addr} {slF18 : Array (Option Value)} {ocF18 kVF18 dcF18 pmF18 cdF18 ctF18 : Value}
    {odF19 anF19 : Option Addr} {slF19 : Array (Option Value)} {ocF19 kVF19 dcF19 pmF19 cdF19 ctF19 : Value}
    {odF20 anF20 : Option Addr} {slF20 : Array (Option Value)} {ocF20 kVF20 dcF20 pmF20 cdF20 ctF20 : Value}
    {odF21 anF21 : Option Addr} {slF21 : Array (Option Value)} {ocF21 kVF21 dcF21 pmF21 cdF21 ctF21 : Value}
    {odF22 anF22 : Option Addr} {slF22 : Array (Option Value)} {ocF22 kVF22 dcF22 pmF22 cdF22 ctF22 : Value}
    {odF23 anF23 : Option Addr} {slF23 : Array (Option Value)} {ocF23 kVF23 dcF23 pmF23 cdF23 ctF23 : Value}
    {odF24 anF24 : Option Addr} {slF24 : Array (Option Value)} {ocF24 kVF24 dcF24 pmF24 cdF24 ctF24 : Value}
    {odF25 anF25 : Option Addr} {slF25 : Array (Option Value)} {ocF25 kVF25 dcF25 pmF25 cdF25 ctF25 : Value}
    {odF26 anF26 : Option Addr} {slF26 : Array (Option Value)} {ocF26 kVF26 dcF26 pmF26 cdF26 ctF26 : Value}
    {odF27 anF27 : Option Addr} {slF27 : Array (Option Value)} {ocF27 kVF27 dcF27 pmF27 cdF27 ctF27 : Value}
    {odF28 anF28 : Option Addr} {slF28 : Array (Option Value)} {ocF28 kVF28 dcF28 pmF28 cdF28 ctF28 : Value}
    {odF29 anF29 : Option Addr} {slF29 : Array (Option Value)} {ocF29 kVF29 dcF29 pmF29 ctF29 : Value}
    {ddC : Option Addr} {vsC : Array Value} {slC : Array (Option Value)}
    (aW : PySem.W.nsIn K mainGlobals "WebError" = some (some (.ref CW)))
    (xW : K.lookup CW = some (excClassObj nmW qnW CW NW bsW [.type "ValueError", .type "Exception", .type "BaseException", .type "object"] true snW subW abW colW ddW m0W m1W m2W m3W m5W "ValueError.__new__"))
    (rdW : PySem.W.readsIn K CW (.type "type") = true)
    (gaW : PySem.W.specialIn K (.ref CW) "__getattribute__" = some (some (.builtin "type.__getattribute__")))
    (vW : PySem.W.findCls K (.ref CW) (.type "type") "__init__" = some (.val (.builtin "ValueError.__init__")))
    (hn : PySem.W.specialIn K (.builtin "object.__class__") "__get__" = some (some (.builtin "getset_descriptor.__get__")))
    (ht : PySem.W.takesIn K (.builtin "object.__class__") = some true)
    (aE0 : PySem.W.nsIn K mainGlobals "BadLot" = some (some (.ref C0)))
    (xE0 : K.lookup C0 = some (excClassObj nmE0 qnE0 C0 NE0 bsE0 [.ref CW, .type "ValueError", .type "Exception", .type "BaseException", .type "object"] true snE0 subE0 abE0 colE0 ddE0 m0E0 m1E0 m2E0 m3E0 m5E0 "ValueError.__new__"))
    (saE0 : PySem.W.findIn K (.ref C0) "__setattr__" = some (some (.builtin "object.__setattr__")))
    (gaE0 : PySem.W.findIn K (.ref C0) "__getattribute__" = some (some (.builtin "BaseException.__getattribute__")))
    (ggE0 : PySem.W.findIn K (.ref C0) "__getattr__" = some none)
    (haE0 : PySem.W.findIn K (.ref C0) "__class__" = some (some (.builtin "object.__class__")))
    (kcE0 : PySem.W.keepIn K (.ref C0) = true)
    (icE0 : PySem.W.findIn K (.ref C0) "__init__" = some (some (.ref fI0)))
    (tiE0 : PySem.W.typeIn K (.ref fI0) = some (.type "function"))
    (n0E0 : PySem.W.findIn K (.ref C0) "lot" = some none)
    (lE0 : K.lookup fI0 = some ⟨ocE0, odE0, .func (PySem.W.fnOf "__init__" "BadLot.__init__" (defArgs (inClass (tp 5) 0)) (defBody (inClass (tp 5) 0)) (defScope (inClass (tp 5) 0)) .none kVE0 dcE0 pmE0 anE0 cdE0 ctE0), slE0⟩)
    (cE0 : PySem.W.codeIn K cdE0 "BadLot.__init__" = true)
    (kE0 : PySem.W.keepIn K (.ref fI0) = true)
    (aE1 : PySem.W.nsIn K mainGlobals "BadNumber" = some (some (.ref C1)))
    (xE1 : K.lookup C1 = some (excClassObj nmE1 qnE1 C1 NE1 bsE1 [.ref CW, .type "ValueError", .type "Exception", .type "BaseException", .type "object"] true snE1 subE1 abE1 colE1 ddE1 m0E1 m1E1 m2E1 m3E1 m5E1 "ValueError.__new__"))
    (saE1 : PySem.W.findIn K (.ref C1) "__setattr__" = some (some (.builtin "object.__setattr__")))
    (gaE1 : PySem.W.findIn K (.ref C1) "__getattribute__" = some (some (.builtin "BaseException.__getattribute__")))
    (ggE1 : PySem.W.findIn K (.ref C1) "__getattr__" = some none)
    (haE1 : PySem.W.findIn K (.ref C1) "__class__" = some (some (.builtin "object.__class__")))
    (kcE1 : PySem.W.keepIn K (.ref C1) = true)
    (icE1 : PySem.W.findIn K (.ref C1) "__init__" = some (some (.ref fI1)))
    (tiE1 : PySem.W.typeIn K (.ref fI1) = some (.type "function"))
    (n0E1 : PySem.W.findIn K (.ref C1) "what" = some none)
    (n1E1 : PySem.W.findIn K (.ref C1) "number" = some none)
    (lE1 : K.lookup fI1 = some ⟨ocE1, odE1, .func (PySem.W.fnOf "__init__" "BadNumber.__init__" (defArgs (inClass (tp 3) 0)) (defBody (inClass (tp 3) 0)) (defScope (inClass (tp 3) 0)) .none kVE1 dcE1 pmE1 anE1 cdE1 ctE1), slE1⟩)
    (cE1 : PySem.W.codeIn K cdE1 "BadNumber.__init__" = true)
    (kE1 : PySem.W.keepIn K (.ref fI1) = true)
    (aE2 : PySem.W.nsIn K mainGlobals "BadRow" = some (some (.ref C2)))
    (xE2 : K.lookup C2 = some (excClassObj nmE2 qnE2 C2 NE2 bsE2 [.ref CW, .type "ValueError", .type "Exception", .type "BaseException", .type "object"] true snE2 subE2 abE2 colE2 ddE2 m0E2 m1E2 m2E2 m3E2 m5E2 "ValueError.__new__"))
    (saE2 : PySem.W.findIn K (.ref C2) "__setattr__" = some (some (.builtin "object.__setattr__")))
    (gaE2 : PySem.W.findIn K (.ref C2) "__getattribute__" = some (some (.builtin "BaseException.__getattribute__")))
    (ggE2 : PySem.W.findIn K (.ref C2) "__getattr__" = some none)
    (haE2 : PySem.W.findIn K (.ref C2) "__class__" = some (some (.builtin "object.__class__")))
    (kcE2 : PySem.W.keepIn K (.ref C2) = true)
    (icE2 : PySem.W.findIn K (.ref C2) "__init__" = some (some (.ref fI2)))
    (tiE2 : PySem.W.typeIn K (.ref fI2) = some (.type "function"))
    (n0E2 : PySem.W.findIn K (.ref C2) "row" = some none)
    (lE2 : K.lookup fI2 = some ⟨ocE2, odE2, .func (PySem.W.fnOf "__init__" "BadRow.__init__" (defArgs (inClass (tp 6) 0)) (defBody (inClass (tp 6) 0)) (defScope (inClass (tp 6) 0)) .none kVE2 dcE2 pmE2 anE2 cdE2 ctE2), slE2⟩)
    (cE2 : PySem.W.codeIn K cdE2 "BadRow.__init__" = true)
    (kE2 : PySem.W.keepIn K (.ref fI2) = true)
    (aE3 : PySem.W.nsIn K mainGlobals "BadTable" = some (some (.ref C3)))
    (xE3 : K.lookup C3 = some (excClassObj nmE3 qnE3 C3 NE3 bsE3 [.ref CW, .type "ValueError", .type "Exception", .type "BaseException", .type "object"] true snE3 subE3 abE3 colE3 ddE3 m0E3 m1E3 m2E3 m3E3 m5E3 "ValueError.__new__"))
    (saE3 : PySem.W.findIn K (.ref C3) "__setattr__" = some (some (.builtin "object.__setattr__")))
    (gaE3 : PySem.W.findIn K (.ref C3) "__getattribute__" = some (some (.builtin "BaseException.__getattribute__")))
    (ggE3 : PySem.W.findIn K (.ref C3) "__getattr__" = some none)
    (haE3 : PySem.W.findIn K (.ref C3) "__class__" = some (some (.builtin "object.__class__")))
    (kcE3 : PySem.W.keepIn K (.ref C3) = true)
    (icE3 : PySem.W.findIn K (.ref C3) "__init__" = some (some (.ref fI3)))
    (tiE3 : PySem.W.typeIn K (.ref fI3) = some (.type "function"))
    (n0E3 : PySem.W.findIn K (.ref C3) "table" = some none)
    (lE3 : K.lookup fI3 = some ⟨ocE3, odE3, .func (PySem.W.fnOf "__init__" "BadTable.__init__" (defArgs (inClass (tp 7) 0)) (defBody (inClass (tp 7) 0)) (defScope (inClass (tp 7) 0)) .none kVE3 dcE3 pmE3 anE3 cdE3 ctE3), slE3⟩)
    (cE3 : PySem.W.codeIn K cdE3 "BadTable.__init__" = true)
    (kE3 : PySem.W.keepIn K (.ref fI3) = true)
    (aE4 : PySem.W.nsIn K mainGlobals "BadWeb" = some (some (.ref C4)))
    (xE4 : K.lookup C4 = some (excClassObj nmE4 qnE4 C4 NE4 bsE4 [.ref CW, .type "ValueError", .type "Exception", .type "BaseException", .type "object"] true snE4 subE4 abE4 colE4 ddE4 m0E4 m1E4 m2E4 m3E4 m5E4 "ValueError.__new__"))
    (saE4 : PySem.W.findIn K (.ref C4) "__setattr__" = some (some (.builtin "object.__setattr__")))
    (gaE4 : PySem.W.findIn K (.ref C4) "__getattribute__" = some (some (.builtin "BaseException.__getattribute__")))
    (ggE4 : PySem.W.findIn K (.ref C4) "__getattr__" = some none)
    (haE4 : PySem.W.findIn K (.ref C4) "__class__" = some (some (.builtin "object.__class__")))
    (kcE4 : PySem.W.keepIn K (.ref C4) = true)
    (icE4 : PySem.W.findIn K (.ref C4) "__init__" = some (some (.ref fI4)))
    (tiE4 : PySem.W.typeIn K (.ref fI4) = some (.type "function"))
    (n0E4 : PySem.W.findIn K (.ref C4) "what" = some none)
    (n1E4 : PySem.W.findIn K (.ref C4) "value" = some none)
    (lE4 : K.lookup fI4 = some ⟨ocE4, odE4, .func (PySem.W.fnOf "__init__" "BadWeb.__init__" (defArgs (inClass (tp 4) 0)) (defBody (inClass (tp 4) 0)) (defScope (inClass (tp 4) 0)) .none kVE4 dcE4 pmE4 anE4 cdE4 ctE4), slE4⟩)
    (cE4 : PySem.W.codeIn K cdE4 "BadWeb.__init__" = true)
    (kE4 : PySem.W.keepIn K (.ref fI4) = true)
    (aE5 : PySem.W.nsIn K mainGlobals "TooMany" = some (some (.ref C5)))
    (xE5 : K.lookup C5 = some (excClassObj nmE5 qnE5 C5 NE5 bsE5 [.ref CW, .type "ValueError", .type "Exception", .type "BaseException", .type "object"] true snE5 subE5 abE5 colE5 ddE5 m0E5 m1E5 m2E5 m3E5 m5E5 "ValueError.__new__"))
    (saE5 : PySem.W.findIn K (.ref C5) "__setattr__" = some (some (.builtin "object.__setattr__")))
    (gaE5 : PySem.W.findIn K (.ref C5) "__getattribute__" = some (some (.builtin "BaseException.__getattribute__")))
    (ggE5 : PySem.W.findIn K (.ref C5) "__getattr__" = some none)
    (haE5 : PySem.W.findIn K (.ref C5) "__class__" = some (some (.builtin "object.__class__")))
    (kcE5 : PySem.W.keepIn K (.ref C5) = true)
    (icE5 : PySem.W.findIn K (.ref C5) "__init__" = some (some (.ref fI5)))
    (tiE5 : PySem.W.typeIn K (.ref fI5) = some (.type "function"))
    (n0E5 : PySem.W.findIn K (.ref C5) "what" = some none)
    (n1E5 : PySem.W.findIn K (.ref C5) "many" = some none)
    (n2E5 : PySem.W.findIn K (.ref C5) "limit" = some none)
    (lE5 : K.lookup fI5 = some ⟨ocE5, odE5, .func (PySem.W.fnOf "__init__" "TooMany.__init__" (defArgs (inClass (tp 9) 0)) (defBody (inClass (tp 9) 0)) (defScope (inClass (tp 9) 0)) .none kVE5 dcE5 pmE5 anE5 cdE5 ctE5), slE5⟩)
    (cE5 : PySem.W.codeIn K cdE5 "TooMany.__init__" = true)
    (kE5 : PySem.W.keepIn K (.ref fI5) = true)
    (aE6 : PySem.W.nsIn K mainGlobals "Unlike" = some (some (.ref C6)))
    (xE6 : K.lookup C6 = some (excClassObj nmE6 qnE6 C6 NE6 bsE6 [.ref CW, .type "ValueError", .type "Exception", .type "BaseException", .type "object"] true snE6 subE6 abE6 colE6 ddE6 m0E6 m1E6 m2E6 m3E6 m5E6 "ValueError.__new__"))
    (saE6 : PySem.W.findIn K (.ref C6) "__setattr__" = some (some (.builtin "object.__setattr__")))
    (gaE6 : PySem.W.findIn K (.ref C6) "__getattribute__" = some (some (.builtin "BaseException.__getattribute__")))
    (ggE6 : PySem.W.findIn K (.ref C6) "__getattr__" = some none)
    (haE6 : PySem.W.findIn K (.ref C6) "__class__" = some (some (.builtin "object.__class__")))
    (kcE6 : PySem.W.keepIn K (.ref C6) = true)
    (icE6 : PySem.W.findIn K (.ref C6) "__init__" = some (some (.ref fI6)))
    (tiE6 : PySem.W.typeIn K (.ref fI6) = some (.type "function"))
    (n0E6 : PySem.W.findIn K (.ref C6) "what" = some none)
    (lE6 : K.lookup fI6 = some ⟨ocE6, odE6, .func (PySem.W.fnOf "__init__" "Unlike.__init__" (defArgs (inClass (tp 8) 0)) (defBody (inClass (tp 8) 0)) (defScope (inClass (tp 8) 0)) .none kVE6 dcE6 pmE6 anE6 cdE6 ctE6), slE6⟩)
    (cE6 : PySem.W.codeIn K cdE6 "Unlike.__init__" = true)
    (kE6 : PySem.W.keepIn K (.ref fI6) = true)
    (aF0 : PySem.W.nsIn K mainGlobals "is_whole" = some (some (.ref g0)))
    (lF0 : K.lookup g0 = some ⟨ocF0, odF0, .func (PySem.W.fnOf "is_whole" "is_whole" (defArgs (tp 11)) (defBody (tp 11)) (defScope (tp 11)) .none kVF0 dcF0 pmF0 anF0 cdF0 ctF0), slF0⟩)
    (cF0 : PySem.W.codeIn K cdF0 "is_whole" = true)
    (kF0 : PySem.W.keepIn K (.ref g0) = true)
    (aF1 : PySem.W.nsIn K mainGlobals "is_pair" = some (some (.ref g1)))
    (lF1 : K.lookup g1 = some ⟨ocF1, odF1, .func (PySem.W.fnOf "is_pair" "is_pair" (defArgs (tp 13)) (defBody (tp 13)) (defScope (tp 13)) .none kVF1 dcF1 pmF1 anF1 cdF1 ctF1), slF1⟩)
    (cF1 : PySem.W.codeIn K cdF1 "is_pair" = true)
    (kF1 : PySem.W.keepIn K (.ref g1) = true)
    (aF2 : PySem.W.nsIn K mainGlobals "is_ratio" = some (some (.ref g2)))
    (lF2 : K.lookup g2 = some ⟨ocF2, odF2, .func (PySem.W.fnOf "is_ratio" "is_ratio" (defArgs (tp 14)) (defBody (tp 14)) (defScope (tp 14)) .none kVF2 dcF2 pmF2 anF2 cdF2 ctF2), slF2⟩)
    (cF2 : PySem.W.codeIn K cdF2 "is_ratio" = true)
    (kF2 : PySem.W.keepIn K (.ref g2) = true)
    (aF3 : PySem.W.nsIn K mainGlobals "lowest" = some (some (.ref g3)))
    (lF3 : K.lookup g3 = some ⟨ocF3, odF3, .func (PySem.W.fnOf "lowest" "lowest" (defArgs (tp 15)) (defBody (tp 15)) (defScope (tp 15)) .none kVF3 dcF3 pmF3 anF3 cdF3 ctF3), slF3⟩)
    (cF3 : PySem.W.codeIn K cdF3 "lowest" = true)
    (kF3 : PySem.W.keepIn K (.ref g3) = true)
    (aF4 : PySem.W.nsIn K mainGlobals "told" = some (some (.ref g4)))
    (lF4 : K.lookup g4 = some ⟨ocF4, odF4, .func (PySem.W.fnOf "told" "told" (defArgs (tp 16)) (defBody (tp 16)) (defScope (tp 16)) .none kVF4 dcF4 pmF4 anF4 cdF4 ctF4), slF4⟩)
    (cF4 : PySem.W.codeIn K cdF4 "told" = true)
    (kF4 : PySem.W.keepIn K (.ref g4) = true)
    (aF5 : PySem.W.nsIn K mainGlobals "summed" = some (some (.ref g5)))
    (lF5 : K.lookup g5 = some ⟨ocF5, odF5, .func (PySem.W.fnOf "summed" "summed" (defArgs (tp 17)) (defBody (tp 17)) (defScope (tp 17)) .none kVF5 dcF5 pmF5 anF5 cdF5 ctF5), slF5⟩)
    (cF5 : PySem.W.codeIn K cdF5 "summed" = true)
    (kF5 : PySem.W.keepIn K (.ref g5) = true)
    (aF6 : PySem.W.nsIn K mainGlobals "lessened" = some (some (.ref g6)))
    (lF6 : K.lookup g6 = some ⟨ocF6, odF6, .func (PySem.W.fnOf "lessened" "lessened" (defArgs (tp 18)) (defBody (tp 18)) (defScope (tp 18)) .none kVF6 dcF6 pmF6 anF6 cdF6 ctF6), slF6⟩)
    (cF6 : PySem.W.codeIn K cdF6 "lessened" = true)
    (kF6 : PySem.W.keepIn K (.ref g6) = true)
    (aF7 : PySem.W.nsIn K mainGlobals "scaled" = some (some (.ref g7)))
    (lF7 : K.lookup g7 = some ⟨ocF7, odF7, .func (PySem.W.fnOf "scaled" "scaled" (defArgs (tp 19)) (defBody (tp 19)) (defScope (tp 19)) .none kVF7 dcF7 pmF7 anF7 cdF7 ctF7), slF7⟩)
    (cF7 : PySem.W.codeIn K cdF7 "scaled" = true)
    (kF7 : PySem.W.keepIn K (.ref g7) = true)
    (aF8 : PySem.W.nsIn K mainGlobals "parted" = some (some (.ref g8)))
    (lF8 : K.lookup g8 = some ⟨ocF8, odF8, .func (PySem.W.fnOf "parted" "parted" (defArgs (tp 20)) (defBody (tp 20)) (defScope (tp 20)) .none kVF8 dcF8 pmF8 anF8 cdF8 ctF8), slF8⟩)
    (cF8 : PySem.W.codeIn K cdF8 "parted" = true)
    (kF8 : PySem.W.keepIn K (.ref g8) = true)
    (aF9 : PySem.W.nsIn K mainGlobals "below" = some (some (.ref g9)))
    (lF9 : K.lookup g9 = some ⟨ocF9, odF9, .func (PySem.W.fnOf "below" "below" (defArgs (tp 21)) (defBody (tp 21)) (defScope (tp 21)) .none kVF9 dcF9 pmF9 anF9 cdF9 ctF9), slF9⟩)
    (cF9 : PySem.W.codeIn K cdF9 "below" = true)
    (kF9 : PySem.W.keepIn K (.ref g9) = true)
    (aF10 : PySem.W.nsIn K mainGlobals "plus" = some (some (.ref g10)))
    (lF10 : K.lookup g10 = some ⟨ocF10, odF10, .func (PySem.W.fnOf "plus" "plus" (defArgs (tp 22)) (defBody (tp 22)) (defScope (tp 22)) .none kVF10 dcF10 pmF10 anF10 cdF10 ctF10), slF10⟩)
    (cF10 : PySem.W.codeIn K cdF10 "plus" = true)
    (kF10 : PySem.W.keepIn K (.ref g10) = true)
    (aF11 : PySem.W.nsIn K mainGlobals "minus" = some (some (.ref g11)))
    (lF11 : K.lookup g11 = some ⟨ocF11, odF11, .func (PySem.W.fnOf "minus" "minus" (defArgs (tp 23)) (defBody (tp 23)) (defScope (tp 23)) .none kVF11 dcF11 pmF11 anF11 cdF11 ctF11), slF11⟩)
    (cF11 : PySem.W.codeIn K cdF11 "minus" = true)
    (kF11 : PySem.W.keepIn K (.ref g11) = true)
    (aF12 : PySem.W.nsIn K mainGlobals "times" = some (some (.ref g12)))
    (lF12 : K.lookup g12 = some ⟨ocF12, odF12, .func (PySem.W.fnOf "times" "times" (defArgs (tp 24)) (defBody (tp 24)) (defScope (tp 24)) .none kVF12 dcF12 pmF12 anF12 cdF12 ctF12), slF12⟩)
    (cF12 : PySem.W.codeIn K cdF12 "times" = true)
    (kF12 : PySem.W.keepIn K (.ref g12) = true)
    (aF13 : PySem.W.nsIn K mainGlobals "share" = some (some (.ref g13)))
    (lF13 : K.lookup g13 = some ⟨ocF13, odF13, .func (PySem.W.fnOf "share" "share" (defArgs (tp 25)) (defBody (tp 25)) (defScope (tp 25)) .none kVF13 dcF13 pmF13 anF13 cdF13 ctF13), slF13⟩)
    (cF13 : PySem.W.codeIn K cdF13 "share" = true)
    (kF13 : PySem.W.keepIn K (.ref g13) = true)
    (aF14 : PySem.W.nsIn K mainGlobals "less" = some (some (.ref g14)))
    (lF14 : K.lookup g14 = some ⟨ocF14, odF14, .func (PySem.W.fnOf "less" "less" (defArgs (tp 26)) (defBody (tp 26)) (defScope (tp 26)) .none kVF14 dcF14 pmF14 anF14 cdF14 ctF14), slF14⟩)
    (cF14 : PySem.W.codeIn K cdF14 "less" = true)
    (kF14 : PySem.W.keepIn K (.ref g14) = true)
    (aF15 : PySem.W.nsIn K mainGlobals "_law_pen" = some (some (.ref g15)))
    (lF15 : K.lookup g15 = some ⟨ocF15, odF15, .func (PySem.W.fnOf "_law_pen" "_law_pen" (defArgs (tp 28)) (defBody (tp 28)) (defScope (tp 28)) .none kVF15 dcF15 pmF15 anF15 cdF15 ctF15), slF15⟩)
    (cF15 : PySem.W.codeIn K cdF15 "_law_pen" = true)
    (kF15 : PySem.W.keepIn K (.ref g15) = true)
    (aF16 : PySem.W.nsIn K mainGlobals "_law_draw" = some (some (.ref g16)))
    (lF16 : K.lookup g16 = some ⟨ocF16, odF16, .func (PySem.W.fnOf "_law_draw" "_law_draw" (defArgs (tp 29)) (defBody (tp 29)) (defScope (tp 29)) .none kVF16 dcF16 pmF16 anF16 cdF16 ctF16), slF16⟩)
    (cF16 : PySem.W.codeIn K cdF16 "_law_draw" = true)
    (kF16 : PySem.W.keepIn K (.ref g16) = true)
    (aF17 : PySem.W.nsIn K mainGlobals "_law_pick" = some (some (.ref g17)))
    (lF17 : K.lookup g17 = some ⟨ocF17, odF17, .func (PySem.W.fnOf "_law_pick" "_law_pick" (defArgs (tp 30)) (defBody (tp 30)) (defScope (tp 30)) .none kVF17 dcF17 pmF17 anF17 cdF17 ctF17), slF17⟩)
    (cF17 : PySem.W.codeIn K cdF17 "_law_pick" = true)
    (kF17 : PySem.W.keepIn K (.ref g17) = true)
    (aF18 : PySem.W.nsIn K mainGlobals "_law_gcd" = some (some (.ref g18)))
    (lF18 : K.lookup g18 = some ⟨ocF18, odF18, .func (PySem.W.fnOf "_law_gcd" "_law_gcd" (defArgs (tp 31)) (defBody (tp 31)) (defScope (tp 31)) .none kVF18 dcF18 pmF18 anF18 cdF18 ctF18), slF18⟩)
    (cF18 : PySem.W.codeIn K cdF18 "_law_gcd" = true)
    (kF18 : PySem.W.keepIn K (.ref g18) = true)
    (aF19 : PySem.W.nsIn K mainGlobals "_law_q" = some (some (.ref g19)))
    (lF19 : K.lookup g19 = some ⟨ocF19, odF19, .func (PySem.W.fnOf "_law_q" "_law_q" (defArgs (tp 32)) (defBody (tp 32)) (defScope (tp 32)) .none kVF19 dcF19 pmF19 anF19 cdF19 ctF19), slF19⟩)
    (cF19 : PySem.W.codeIn K cdF19 "_law_q" = true)
    (kF19 : PySem.W.keepIn K (.ref g19) = true)
    (aF20 : PySem.W.nsIn K mainGlobals "_law_plus" = some (some (.ref g20)))
    (lF20 : K.lookup g20 = some ⟨ocF20, odF20, .func (PySem.W.fnOf "_law_plus" "_law_plus" (defArgs (tp 33)) (defBody (tp 33)) (defScope (tp 33)) .none kVF20 dcF20 pmF20 anF20 cdF20 ctF20), slF20⟩)
    (cF20 : PySem.W.codeIn K cdF20 "_law_plus" = true)
    (kF20 : PySem.W.keepIn K (.ref g20) = true)
    (aF21 : PySem.W.nsIn K mainGlobals "_law_times" = some (some (.ref g21)))
    (lF21 : K.lookup g21 = some ⟨ocF21, odF21, .func (PySem.W.fnOf "_law_times" "_law_times" (defArgs (tp 34)) (defBody (tp 34)) (defScope (tp 34)) .none kVF21 dcF21 pmF21 anF21 cdF21 ctF21), slF21⟩)
    (cF21 : PySem.W.codeIn K cdF21 "_law_times" = true)
    (kF21 : PySem.W.keepIn K (.ref g21) = true)
    (aF22 : PySem.W.nsIn K mainGlobals "_law_less" = some (some (.ref g22)))
    (lF22 : K.lookup g22 = some ⟨ocF22, odF22, .func (PySem.W.fnOf "_law_less" "_law_less" (defArgs (tp 35)) (defBody (tp 35)) (defScope (tp 35)) .none kVF22 dcF22 pmF22 anF22 cdF22 ctF22), slF22⟩)
    (cF22 : PySem.W.codeIn K cdF22 "_law_less" = true)
    (kF22 : PySem.W.keepIn K (.ref g22) = true)
    (aF23 : PySem.W.nsIn K mainGlobals "_law_minus" = some (some (.ref g23)))
    (lF23 : K.lookup g23 = some ⟨ocF23, odF23, .func (PySem.W.fnOf "_law_minus" "_law_minus" (defArgs (tp 36)) (defBody (tp 36)) (defScope (tp 36)) .none kVF23 dcF23 pmF23 anF23 cdF23 ctF23), slF23⟩)
    (cF23 : PySem.W.codeIn K cdF23 "_law_minus" = true)
    (kF23 : PySem.W.keepIn K (.ref g23) = true)
    (aF24 : PySem.W.nsIn K mainGlobals "_law_share" = some (some (.ref g24)))
    (lF24 : K.lookup g24 = some ⟨ocF24, odF24, .func (PySem.W.fnOf "_law_share" "_law_share" (defArgs (tp 37)) (defBody (tp 37)) (defScope (tp 37)) .none kVF24 dcF24 pmF24 anF24 cdF24 ctF24), slF24⟩)
    (cF24 : PySem.W.codeIn K cdF24 "_law_share" = true)
    (kF24 : PySem.W.keepIn K (.ref g24) = true)
    (aF25 : PySem.W.nsIn K mainGlobals "_law_number" = some (some (.ref g25)))
    (lF25 : K.lookup g25 = some ⟨ocF25, odF25, .func (PySem.W.fnOf "_law_number" "_law_number" (defArgs (tp 38)) (defBody (tp 38)) (defScope (tp 38)) .none kVF25 dcF25 pmF25 anF25 cdF25 ctF25), slF25⟩)
    (cF25 : PySem.W.codeIn K cdF25 "_law_number" = true)
    (kF25 : PySem.W.keepIn K (.ref g25) = true)
    (aF26 : PySem.W.nsIn K mainGlobals "_law_handed" = some (some (.ref g26)))
    (lF26 : K.lookup g26 = some ⟨ocF26, odF26, .func (PySem.W.fnOf "_law_handed" "_law_handed" (defArgs (tp 39)) (defBody (tp 39)) (defScope (tp 39)) .none kVF26 dcF26 pmF26 anF26 cdF26 ctF26), slF26⟩)
    (cF26 : PySem.W.codeIn K cdF26 "_law_handed" = true)
    (kF26 : PySem.W.keepIn K (.ref g26) = true)
    (aF27 : PySem.W.nsIn K mainGlobals "_law_fault" = some (some (.ref g27)))
    (lF27 : K.lookup g27 = some ⟨ocF27, odF27, .func (PySem.W.fnOf "_law_fault" "_law_fault" (defArgs (tp 40)) (defBody (tp 40)) (defScope (tp 40)) .none kVF27 dcF27 pmF27 anF27 cdF27 ctF27), slF27⟩)
    (cF27 : PySem.W.codeIn K cdF27 "_law_fault" = true)
    (kF27 : PySem.W.keepIn K (.ref g27) = true)
    (aF28 : PySem.W.nsIn K mainGlobals "_law_are_due" = some (some (.ref g28)))
    (lF28 : K.lookup g28 = some ⟨ocF28, odF28, .func (PySem.W.fnOf "_law_are_due" "_law_are_due" (defArgs (tp 41)) (defBody (tp 41)) (defScope (tp 41)) .none kVF28 dcF28 pmF28 anF28 cdF28 ctF28), slF28⟩)
    (cF28 : PySem.W.codeIn K cdF28 "_law_are_due" = true)
    (kF28 : PySem.W.keepIn K (.ref g28) = true)
    (aF29 : PySem.W.nsIn K mainGlobals "law" = some (some (.ref g29)))
    (lF29 : K.lookup g29 = some ⟨ocF29, odF29, .func (PySem.W.fnOf "law" "law" (defArgs (tp 42)) (defBody (tp 42)) (defScope (tp 42)) .none kVF29 dcF29 pmF29 anF29 (.ref cC) ctF29), slF29⟩)
    (cF29 : PySem.W.codeIn K (.ref cC) "law" = true)
    (kF29 : PySem.W.keepIn K (.ref g29) = true)
    (lC : K.lookup cC = some ⟨.type "code", ddC, .fields vsC, slC⟩)
    (hTC : vsC[11]? = some (.ref TT))
    (nTC : K.lookup TT = none)
    (hBC : codeHdB vsC cC TT = true)
    (z_int : PySem.W.nsIn K mainGlobals "int" = some none)
    (z_list : PySem.W.nsIn K mainGlobals "list" = some none)
    (z_len : PySem.W.nsIn K mainGlobals "len" = some none)
    (z_range : PySem.W.nsIn K mainGlobals "range" = some none)
    (z_isinstance : PySem.W.nsIn K mainGlobals "isinstance" = some none)
    (z_repr : PySem.W.nsIn K mainGlobals "repr" = some none)
    (z_all : PySem.W.nsIn K mainGlobals "all" = some none)
    (z_tuple : PySem.W.nsIn K mainGlobals "tuple" = some none)
    (z_bool : PySem.W.nsIn K mainGlobals "bool" = some none)
    (z_abs : PySem.W.nsIn K mainGlobals "abs" = some none)
    (z_gcd : PySem.W.nsIn K mainGlobals "gcd" = some (some (.builtin "math.gcd")))
    (nd : (CW :: [C0, C1, C2, C3, C4, C5, C6] : List Addr).Nodup)
    : ∃ (fd : FuncData) (c T : Addr) (o : Obj) (e : Value) (dd : Option Addr) (vs : Array Value) (sl : Array (Option Value)), K.lookup fa = some o ∧ o.data = .func fd ∧ fd.code = .ref c ∧ K.lookup c = some ⟨e, dd, .fields vs, sl⟩ ∧ vs[11]? = some (.ref T) ∧ K.lookup T = none ∧ PySem.W.CodeHd h c T ∧ (∀ (s : Shared) (v : Value), BindsTo s fd ⟨[v], []⟩ [("script", v)]) ∧ ∀ base : Heap, K.In base → base.Ns mainGlobals mg → LamX.TabB base mg c T → FnG P w K mg base 8 fa fd ["script"] (rLaw T) := by
  have e := hfa.symm.trans (PySem.W.mg_of X G aF29)
  cases e
  have XW : Xl K CW veL := ⟨_, _, _, _, _, _, _, _, _, _, _, _, _, _, xW⟩
  have gW := PySem.W.mg_of X G aW
  have X0 : Xl K C0 (.ref CW :: veL) := ⟨_, _, _, _, _, _, _, _, _, _, _, _, _, _, xE0⟩
  have FE0 := fun_mk (st := (inClass (tp 5) 0)) lE0 cE0 kE0
  have R0 : ∀ base, ErK P w K mg base C0 ["lot"] ∧ ExcC K C0 := fun base => erk_of (names := ["lot"]) XW gW rdW gaW vW hn ht X0 saE0 gaE0 ggE0 haE0 kcE0 icE0 tiE0
    (by intro y hy; simp only [List.mem_cons, List.not_mem_nil, or_false] at hy; rcases hy with rfl; exact n0E0)
    FE0 ⟨rfl, rfl, rfl, by decide +kernel, rfl, by decide +kernel, by decide +kernel⟩ rfl (.cons .nil) rfl (by decide +kernel) (by decide +kernel) (by decide) (fun _ => ⟨_, rfl⟩)
    (FE0.binds (ps := ["self", "lot"]) fun _ _ _ _ _ _ us hl => match us, hl with | [_, _], _ => rfl) (fun s self ws hl => match ws, hl with | [_], _ => .of_eq (by first | rfl | with_unfolding_all rfl | kernel_rfl))
  have X1 : Xl K C1 (.ref CW :: veL) := ⟨_, _, _, _, _, _, _, _, _, _, _, _, _, _, xE1⟩
  have FE1 := fun_mk (st := (inClass (tp 3) 0)) lE1 cE1 kE1
  have R1 : ∀ base, ErK P w K mg base C1 ["what", "number"] ∧ ExcC K C1 := fun base => erk_of (names := ["what", "number"]) XW gW rdW gaW vW hn ht X1 saE1 gaE1 ggE1 haE1 kcE1 icE1 tiE1
    (by
      intro y hy
      simp only [List.mem_cons, List.not_mem_nil, or_false] at hy
      rcases hy with rfl | rfl
      · exact n0E1
      · exact n1E1)
    FE1 ⟨rfl, rfl, rfl, by decide +kernel, rfl, by decide +kernel, by decide +kernel⟩ rfl (.cons (.cons .nil)) rfl (by decide +kernel) (by decide +kernel) (by decide) (fun _ => ⟨_, rfl⟩)
    (FE1.binds (ps := ["self", "what", "number"]) fun _ _ _ _ _ _ us hl => match us, hl with | [_, _, _], _ => rfl) (fun s self ws hl => match ws, hl with | [_, _], _ => .of_eq (by first | rfl | with_unfolding_all rfl | kernel_rfl))
  have X2 : Xl K C2 (.ref CW :: veL) := ⟨_, _, _, _, _, _, _, _, _, _, _, _, _, _, xE2⟩
  have FE2 := fun_mk (st := (inClass (tp 6) 0)) lE2 cE2 kE2
  have R2 : ∀ base, ErK P w K mg base C2 ["row"] ∧ ExcC K C2 := fun base => erk_of (names := ["row"]) XW gW rdW gaW vW hn ht X2 saE2 gaE2 ggE2 haE2 kcE2 icE2 tiE2
    (by intro y hy; simp only [List.mem_cons, List.not_mem_nil, or_false] at hy; rcases hy with rfl; exact n0E2)
    FE2 ⟨rfl, rfl, rfl, by decide +kernel, rfl, by decide +kernel, by decide +kernel⟩ rfl (.cons .nil) rfl (by decide +kernel) (by decide +kernel) (by decide) (fun _ => ⟨_, rfl⟩)
    (FE2.binds (ps := ["self", "row"]) fun _ _ _ _ _ _ us hl => match us, hl with | [_, _], _ => rfl) (fun s self ws hl => match ws, hl with | [_], _ => .of_eq (by first | rfl | with_unfolding_all rfl | kernel_rfl))
  have X3 : Xl K C3 (.ref CW :: veL) := ⟨_, _, _, _, _, _, _, _, _, _, _, _, _, _, xE3⟩
  have FE3 := fun_mk (st := (inClass (tp 7) 0)) lE3 cE3 kE3
  have R3 : ∀ base, ErK P w K mg base C3 ["table"] ∧ ExcC K C3 := fun base => erk_of (names := ["table"]) XW gW rdW gaW vW hn ht X3 saE3 gaE3 ggE3 haE3 kcE3 icE3 tiE3
    (by intro y hy; simp only [List.mem_cons, List.not_mem_nil, or_false] at hy; rcases hy with rfl; exact n0E3)
    FE3 ⟨rfl, rfl, rfl, by decide +kernel, rfl, by decide +kernel, by decide +kernel⟩ rfl (.cons .nil) rfl (by decide +kernel) (by decide +kernel) (by decide) (fun _ => ⟨_, rfl⟩)
    (FE3.binds (ps := ["self", "table"]) fun _ _ _ _ _ _ us hl => match us, hl with | [_, _], _ => rfl) (fun s self ws hl => match ws, hl with | [_], _ => .of_eq (by first | rfl | with_unfolding_all rfl | kernel_rfl))
  have X4 : Xl K C4 (.ref CW :: veL) := ⟨_, _, _, _, _, _, _, _, _, _, _, _, _, _, xE4⟩
  have FE4 := fun_mk (st := (inClass (tp 4) 0)) lE4 cE4 kE4
  have R4 : ∀ base, ErK P w K mg base C4 ["what", "value"] ∧ ExcC K C4 := fun base => erk_of (names := ["what", "value"]) XW gW rdW gaW vW hn ht X4 saE4 gaE4 ggE4 haE4 kcE4 icE4 tiE4
    (by
      intro y hy
      simp only [List.mem_cons, List.not_mem_nil, or_false] at hy
      rcases hy with rfl | rfl
      · exact n0E4
      · exact n1E4)
    FE4 ⟨rfl, rfl, rfl, by decide +kernel, rfl, by decide +kernel, by decide +kernel⟩ rfl (.cons (.cons .nil)) rfl (by decide +kernel) (by decide +kernel) (by decide) (fun _ => ⟨_, rfl⟩)
    (FE4.binds (ps := ["self", "what", "value"]) fun _ _ _ _ _ _ us hl => match us, hl with | [_, _, _], _ => rfl) (fun s self ws hl => match ws, hl with | [_, _], _ => .of_eq (by first | rfl | with_unfolding_all rfl | kernel_rfl))
  have X5 : Xl K C5 (.ref CW :: veL) := ⟨_, _, _, _, _, _, _, _, _, _, _, _, _, _, xE5⟩
  have FE5 := fun_mk (st := (inClass (tp 9) 0)) lE5 cE5 kE5
  have R5 : ∀ base, ErK P w K mg base C5 ["what", "many", "limit"] ∧ ExcC K C5 := fun base => erk_of (names := ["what", "many", "limit"]) XW gW rdW gaW vW hn ht X5 saE5 gaE5 ggE5 haE5 kcE5 icE5 tiE5
    (by
      intro y hy
      simp only [List.mem_cons, List.not_mem_nil, or_false] at hy
      rcases hy with rfl | rfl | rfl
      · exact n0E5
      · exact n1E5
      · exact n2E5)
    FE5 ⟨rfl, rfl, rfl, by decide +kernel, rfl, by decide +kernel, by decide +kernel⟩ rfl (.cons (.cons (.cons .nil))) rfl (by decide +kernel) (by decide +kernel) (by decide) (fun _ => ⟨_, rfl⟩)
    (FE5.binds (ps := ["self", "what", "many", "limit"]) fun _ _ _ _ _ _ us hl => match us, hl with | [_, _, _, _], _ => rfl) (fun s self ws hl => match ws, hl with | [_, _, _], _ => .of_eq (by first | rfl | with_unfolding_all rfl | kernel_rfl))
  have X6 : Xl K C6 (.ref CW :: veL) := ⟨_, _, _, _, _, _, _, _, _, _, _, _, _, _, xE6⟩
  have FE6 := fun_mk (st := (inClass (tp 8) 0)) lE6 cE6 kE6
  have R6 : ∀ base, ErK P w K mg base C6 ["what"] ∧ ExcC K C6 := fun base => erk_of (names := ["what"]) XW gW rdW gaW vW hn ht X6 saE6 gaE6 ggE6 haE6 kcE6 icE6 tiE6
    (by intro y hy; simp only [List.mem_cons, List.not_mem_nil, or_false] at hy; rcases hy with rfl; exact n0E6)
    FE6 ⟨rfl, rfl, rfl, by decide +kernel, rfl, by decide +kernel, by decide +kernel⟩ rfl (.cons .nil) rfl (by decide +kernel) (by decide +kernel) (by decide) (fun _ => ⟨_, rfl⟩)
    (FE6.binds (ps := ["self", "what"]) fun _ _ _ _ _ _ us hl => match us, hl with | [_, _], _ => rfl) (fun s self ws hl => match ws, hl with | [_], _ => .of_eq (by first | rfl | with_unfolding_all rfl | kernel_rfl))
  have D0 := fun_mk (st := (tp 11)) lF0 cF0 kF0
  have b0 := D0.binds (ps := ["value"]) fun _ _ _ _ _ _ us hl => match us, hl with | [_], _ => rfl
  have D1 := fun_mk (st := (tp 13)) lF1 cF1 kF1
  have b1 := D1.binds (ps := ["value"]) fun _ _ _ _ _ _ us hl => match us, hl with | [_], _ => rfl
  have D2 := fun_mk (st := (tp 14)) lF2 cF2 kF2
  have b2 := D2.binds (ps := ["value"]) fun _ _ _ _ _ _ us hl => match us, hl with | [_], _ => rfl
  have D3 := fun_mk (st := (tp 15)) lF3 cF3 kF3
  have b3 := D3.binds (ps := ["top", "bottom"]) fun _ _ _ _ _ _ us hl => match us, hl with | [_, _], _ => rfl
  have D4 := fun_mk (st := (tp 16)) lF4 cF4 kF4
  have b4 := D4.binds (ps := ["ratio"]) fun _ _ _ _ _ _ us hl => match us, hl with | [_], _ => rfl
  have D5 := fun_mk (st := (tp 17)) lF5 cF5 kF5
  have b5 := D5.binds (ps := ["one", "other"]) fun _ _ _ _ _ _ us hl => match us, hl with | [_, _], _ => rfl
  have D6 := fun_mk (st := (tp 18)) lF6 cF6 kF6
  have b6 := D6.binds (ps := ["one", "other"]) fun _ _ _ _ _ _ us hl => match us, hl with | [_, _], _ => rfl
  have D7 := fun_mk (st := (tp 19)) lF7 cF7 kF7
  have b7 := D7.binds (ps := ["one", "other"]) fun _ _ _ _ _ _ us hl => match us, hl with | [_, _], _ => rfl
  have D8 := fun_mk (st := (tp 20)) lF8 cF8 kF8
  have b8 := D8.binds (ps := ["one", "other"]) fun _ _ _ _ _ _ us hl => match us, hl with | [_, _], _ => rfl
  have D9 := fun_mk (st := (tp 21)) lF9 cF9 kF9
  have b9 := D9.binds (ps := ["one", "other"]) fun _ _ _ _ _ _ us hl => match us, hl with | [_, _], _ => rfl
  have D10 := fun_mk (st := (tp 22)) lF10 cF10 kF10
  have b10 := D10.binds (ps := ["one", "other"]) fun _ _ _ _ _ _ us hl => match us, hl with | [_, _], _ => rfl
  have D11 := fun_mk (st := (tp 23)) lF11 cF11 kF11
  have b11 := D11.binds (ps := ["one", "other"]) fun _ _ _ _ _ _ us hl => match us, hl with | [_, _], _ => rfl
  have D12 := fun_mk (st := (tp 24)) lF12 cF12 kF12
  have b12 := D12.binds (ps := ["one", "other"]) fun _ _ _ _ _ _ us hl => match us, hl with | [_, _], _ => rfl
  have D13 := fun_mk (st := (tp 25)) lF13 cF13 kF13
  have b13 := D13.binds (ps := ["one", "other"]) fun _ _ _ _ _ _ us hl => match us, hl with | [_, _], _ => rfl
  have D14 := fun_mk (st := (tp 26)) lF14 cF14 kF14
  have b14 := D14.binds (ps := ["one", "other"]) fun _ _ _ _ _ _ us hl => match us, hl with | [_, _], _ => rfl
  have D15 := fun_mk (st := (tp 28)) lF15 cF15 kF15
  have b15 := D15.binds (ps := ["script"]) fun _ _ _ _ _ _ us hl => match us, hl with | [_], _ => rfl
  have D16 := fun_mk (st := (tp 29)) lF16 cF16 kF16
  have b16 := D16.binds (ps := ["pen", "many"]) fun _ _ _ _ _ _ us hl => match us, hl with | [_, _], _ => rfl
  have D17 := fun_mk (st := (tp 30)) lF17 cF17 kF17
  have b17 := D17.binds (ps := ["pen", "some"]) fun _ _ _ _ _ _ us hl => match us, hl with | [_, _], _ => rfl
  have D18 := fun_mk (st := (tp 31)) lF18 cF18 kF18
  have b18 := D18.binds (ps := ["one", "two"]) fun _ _ _ _ _ _ us hl => match us, hl with | [_, _], _ => rfl
  have D19 := fun_mk (st := (tp 32)) lF19 cF19 kF19
  have b19 := D19.binds (ps := ["top", "bottom"]) fun _ _ _ _ _ _ us hl => match us, hl with | [_, _], _ => rfl
  have D20 := fun_mk (st := (tp 33)) lF20 cF20 kF20
  have b20 := D20.binds (ps := ["one", "two"]) fun _ _ _ _ _ _ us hl => match us, hl with | [_, _], _ => rfl
  have D21 := fun_mk (st := (tp 34)) lF21 cF21 kF21
  have b21 := D21.binds (ps := ["one", "two"]) fun _ _ _ _ _ _ us hl => match us, hl with | [_, _], _ => rfl
  have D22 := fun_mk (st := (tp 35)) lF22 cF22 kF22
  have b22 := D22.binds (ps := ["one", "two"]) fun _ _ _ _ _ _ us hl => match us, hl with | [_, _], _ => rfl
  have D23 := fun_mk (st := (tp 36)) lF23 cF23 kF23
  have b23 := D23.binds (ps := ["one", "two"]) fun _ _ _ _ _ _ us hl => match us, hl with | [_, _], _ => rfl
  have D24 := fun_mk (st := (tp 37)) lF24 cF24 kF24
  have b24 := D24.binds (ps := ["one", "two"]) fun _ _ _ _ _ _ us hl => match us, hl with | [_, _], _ => rfl
  have D25 := fun_mk (st := (tp 38)) lF25 cF25 kF25
  have b25 := D25.binds (ps := ["pen", "most"]) fun _ _ _ _ _ _ us hl => match us, hl with | [_, _], _ => rfl
  have D26 := fun_mk (st := (tp 39)) lF26 cF26 kF26
  have b26 := D26.binds (ps := ["pen", "ratio"]) fun _ _ _ _ _ _ us hl => match us, hl with | [_, _], _ => rfl
  have D27 := fun_mk (st := (tp 40)) lF27 cF27 kF27
  have b27 := D27.binds (ps := ["work"]) fun _ _ _ _ _ _ us hl => match us, hl with | [_], _ => rfl
  have D28 := fun_mk (st := (tp 41)) lF28 cF28 kF28
  have b28 := D28.binds (ps := ["tries"]) fun _ _ _ _ _ _ us hl => match us, hl with | [_], _ => rfl
  have D29 := fun_mk (st := (tp 42)) lF29 cF29 kF29
  have b29 := D29.binds (ps := ["script"]) fun _ _ _ _ _ _ us hl => match us, hl with | [_], _ => rfl
  have n_int := PySem.W.mg_none_of X G z_int
  have n_list := PySem.W.mg_none_of X G z_list
  have n_len := PySem.W.mg_none_of X G z_len
  have n_range := PySem.W.mg_none_of X G z_range
  have n_isinstance := PySem.W.mg_none_of X G z_isinstance
  have n_repr := PySem.W.mg_none_of X G z_repr
  have n_all := PySem.W.mg_none_of X G z_all
  have n_tuple := PySem.W.mg_none_of X G z_tuple
  have n_bool := PySem.W.mg_none_of X G z_bool
  have n_abs := PySem.W.mg_none_of X G z_abs
  have m_gcd := PySem.W.mg_of X G z_gcd
  refine ⟨PySem.W.fnOf "law" "law" (defArgs (tp 42)) (defBody (tp 42)) (defScope (tp 42)) .none kVF29 dcF29 pmF29 anF29 (.ref cC) ctF29, cC, TT, _, _, _, _, _, lF29, rfl, rfl, lC, hTC, nTC, codeHd_of X lC hTC hBC, fun s v => .of_eq rfl, fun base _ _ TB => ?_⟩
  have E7 := er7_of nd X0 X1 X2 X3 X4 X5 X6 (R0 base).1 (R1 base).1 (R2 base).1 (R3 base).1 (R4 base).1 (R5 base).1 (R6 base).1 (PySem.W.mg_of X G aE0) (PySem.W.mg_of X G aE1) (PySem.W.mg_of X G aE2) (PySem.W.mg_of X G aE3) (PySem.W.mg_of X G aE4) (PySem.W.mg_of X G aE5) (PySem.W.mg_of X G aE6)
  have p_law_pen : DefP P w K mg base 1 "_law_pen" ["script"] rPen := ⟨_, _, okPen D15 n_int n_list, PySem.W.mg_of X G aF15, kF15, b15⟩
  have p_law_draw : DefP P w K mg base 1 "_law_draw" ["pen", "many"] rDraw := ⟨_, _, okDraw D16 n_int n_len, PySem.W.mg_of X G aF16, kF16, b16⟩
  have p_law_pick : DefP P w K mg base 2 "_law_pick" ["pen", "some"] rPick := ⟨_, _, okPick D17 p_law_draw n_len, PySem.W.mg_of X G aF17, kF17, b17⟩
  have p_is_whole : DefP P w K mg base 1 "is_whole" ["value"] rWhole := ⟨_, _, okWhole D0 n_isinstance n_int n_bool, PySem.W.mg_of X G aF0, kF0, b0⟩
  have p_is_pair : DefP P w K mg base 2 "is_pair" ["value"] rPair := ⟨_, _, okPair D1 p_is_whole n_isinstance n_tuple n_list n_len, PySem.W.mg_of X G aF1, kF1, b1⟩
  have p_is_ratio : DefP P w K mg base 3 "is_ratio" ["value"] rRatio := ⟨_, _, okRatio D2 p_is_whole p_is_pair n_isinstance n_tuple, PySem.W.mg_of X G aF2, kF2, b2⟩
  have p_lowest : DefP P w K mg base 1 "lowest" ["top", "bottom"] rLow := ⟨_, _, okLow D3 m_gcd, PySem.W.mg_of X G aF3, kF3, b3⟩
  have p_told : DefP P w K mg base 3 "told" ["ratio"] (rTold C2) := ⟨_, _, okTold D4 p_is_whole p_is_pair p_lowest (R2 base).1 (PySem.W.mg_of X G aE2), PySem.W.mg_of X G aF4, kF4, b4⟩
  have p_summed : DefP P w K mg base 2 "summed" ["one", "other"] (rOp (fun p r => p.1 * r.2 + r.1 * p.2) (fun p r => p.2 * r.2)) := ⟨_, _, okSummed D5 p_lowest, PySem.W.mg_of X G aF5, kF5, b5⟩
  have p_lessened : DefP P w K mg base 2 "lessened" ["one", "other"] (rOp (fun p r => p.1 * r.2 - r.1 * p.2) (fun p r => p.2 * r.2)) := ⟨_, _, okLessened D6 p_lowest, PySem.W.mg_of X G aF6, kF6, b6⟩
  have p_scaled : DefP P w K mg base 2 "scaled" ["one", "other"] (rOp (fun p r => p.1 * r.1) (fun p r => p.2 * r.2)) := ⟨_, _, okScaled D7 p_lowest, PySem.W.mg_of X G aF7, kF7, b7⟩
  have p_parted : DefP P w K mg base 2 "parted" ["one", "other"] (rOp (fun p r => p.1 * r.2) (fun p r => p.2 * r.1)) := ⟨_, _, okParted D8 p_lowest, PySem.W.mg_of X G aF8, kF8, b8⟩
  have p_below : DefP P w K mg base 1 "below" ["one", "other"] (rCmp (fun p r => decide (p.1 * r.2 < r.1 * p.2))) := ⟨_, _, okBelow D9, PySem.W.mg_of X G aF9, kF9, b9⟩
  have p_plus : DefP P w K mg base 4 "plus" ["one", "other"] (rTwo C2 (rOp (fun p r => p.1 * r.2 + r.1 * p.2) (fun p r => p.2 * r.2))) := ⟨_, _, okPlus D10 p_told p_summed, PySem.W.mg_of X G aF10, kF10, b10⟩
  have p_minus : DefP P w K mg base 4 "minus" ["one", "other"] (rTwo C2 (rOp (fun p r => p.1 * r.2 - r.1 * p.2) (fun p r => p.2 * r.2))) := ⟨_, _, okMinus D11 p_told p_lessened, PySem.W.mg_of X G aF11, kF11, b11⟩
  have p_times : DefP P w K mg base 4 "times" ["one", "other"] (rTwo C2 (rOp (fun p r => p.1 * r.1) (fun p r => p.2 * r.2))) := ⟨_, _, okTimes D12 p_told p_scaled, PySem.W.mg_of X G aF12, kF12, b12⟩
  have p_less : DefP P w K mg base 4 "less" ["one", "other"] (rTwo C2 (rCmp (fun p r => decide (p.1 * r.2 < r.1 * p.2)))) := ⟨_, _, okLess D14 p_told p_below, PySem.W.mg_of X G aF14, kF14, b14⟩
  have p_share : DefP P w K mg base 4 "share" ["one", "other"] (rShare C2 C1) := ⟨_, _, okShare D13 p_told p_parted (R1 base).1 (PySem.W.mg_of X G aE1), PySem.W.mg_of X G aF13, kF13, b13⟩
  have p_law_gcd : DefP P w K mg base 1 "_law_gcd" ["one", "two"] rGcd := ⟨_, _, okGcd D18 n_int n_abs n_range, PySem.W.mg_of X G aF18, kF18, b18⟩
  have p_law_q : DefP P w K mg base 2 "_law_q" ["top", "bottom"] rLow := ⟨_, _, okQ D19 p_law_gcd, PySem.W.mg_of X G aF19, kF19, b19⟩
  have p_law_plus : DefP P w K mg base 3 "_law_plus" ["one", "two"] (rOp (fun p r => p.1 * r.2 + r.1 * p.2) (fun p r => p.2 * r.2)) := ⟨_, _, okLplus D20 p_law_q, PySem.W.mg_of X G aF20, kF20, b20⟩
  have p_law_minus : DefP P w K mg base 3 "_law_minus" ["one", "two"] (rOp (fun p r => p.1 * r.2 - r.1 * p.2) (fun p r => p.2 * r.2)) := ⟨_, _, okLminus D23 p_law_q, PySem.W.mg_of X G aF23, kF23, b23⟩
  have p_law_times : DefP P w K mg base 3 "_law_times" ["one", "two"] (rOp (fun p r => p.1 * r.1) (fun p r => p.2 * r.2)) := ⟨_, _, okLtimes D21 p_law_q, PySem.W.mg_of X G aF21, kF21, b21⟩
  have p_law_share : DefP P w K mg base 3 "_law_share" ["one", "two"] (rOp (fun p r => p.1 * r.2) (fun p r => p.2 * r.1)) := ⟨_, _, okLshare D24 p_law_q, PySem.W.mg_of X G aF24, kF24, b24⟩
  have p_law_less : DefP P w K mg base 1 "_law_less" ["one", "two"] (rCmp (fun p r => decide (p.1 * r.2 < r.1 * p.2))) := ⟨_, _, okLless D22, PySem.W.mg_of X G aF22, kF22, b22⟩
  have p_law_number : DefP P w K mg base 3 "_law_number" ["pen", "most"] rNum := ⟨_, _, okNum D25 p_law_draw p_law_pick p_law_q, PySem.W.mg_of X G aF25, kF25, b25⟩
  have p_law_handed : DefP P w K mg base 3 "_law_handed" ["pen", "ratio"] rHanded := ⟨_, _, okHanded D26 p_law_draw p_law_pick, PySem.W.mg_of X G aF26, kF26, b26⟩
  have p_law_fault : DefP P w K mg base 6 "_law_fault" ["work"] (rFault P w K mg base 4 (fun i => ([C0, C1, C2, C3, C4, C5, C6] : List Addr).get i)) := ⟨_, _, okFault D27 E7, PySem.W.mg_of X G aF27, kF27, b27⟩
  have p_law_are_due : DefP P w K mg base 7 "_law_are_due" ["tries"] (rDue P w K mg base 4 (fun i => ([C0, C1, C2, C3, C4, C5, C6] : List Addr).get i)) := ⟨_, _, okDue D28 p_law_fault n_all n_repr, PySem.W.mg_of X G aF28, kF28, b28⟩
  have Fs : Fns P w K mg base C2 C1 := ⟨p_law_pen, p_law_draw, p_law_pick, p_law_number, p_law_handed, p_law_q, p_law_plus, p_law_minus, p_law_times, p_law_share, p_law_less, p_told, p_plus, p_minus, p_times, p_less, p_share, p_is_ratio, n_repr, n_isinstance, n_list, n_range⟩
  exact okLaw D29 rfl TB Fs p_law_are_due
end Law

open PySem PySem.W PyProof.Rows
set_option maxRecDepth 100000 in
set_option maxHeartbeats 0 in
theorem PySem.Challenge.cw_cutrounds_k02_ratios_holds : PySem.Challenge.rw_cutrounds_k02_ratios.Holds := by
  w_on; o_law; k_head; (case hw => w_witness2)
  k_fill
  refine DL.walkT (l := PySem.Challenge.rw_cutrounds_k02_ratios) (n := 63) (k := 8) (x := "script") (qn := Law.lamQ) (R := fun _ T => Law.rLaw T) rfl (by decide) rfl ⟨rfl, by decide, by decide⟩ ?HR (fun w h Y => PySem.W.km_in_of Y) ?F (fun _ T ns _ => ⟨ns, rfl, rfl, fun _ => rfl⟩)
  case HR => decide +kernel
  case F =>
    intro w mg fa h KX G hmg
    refine' Law.all_mk KX G hmg ?aW ?xW ?rdW ?gaW ?vW ?hn ?ht ?aE0 ?xE0 ?saE0 ?gaE0 ?ggE0 ?haE0 ?kcE0 ?icE0 ?tiE0 ?n0E0 ?lE0 ?cE0 ?kE0 ?aE1 ?xE1 ?saE1 ?gaE1 ?ggE1 ?haE1 ?kcE1 ?icE1 ?tiE1 ?n0E1 ?n1E1 ?lE1 ?cE1 ?kE1 ?aE2 ?xE2 ?saE2 ?gaE2 ?ggE2 ?haE2 ?kcE2 ?icE2 ?tiE2 ?n0E2 ?lE2 ?cE2 ?kE2 ?aE3 ?xE3 ?saE3 ?gaE3 ?ggE3 ?haE3 ?kcE3 ?icE3 ?tiE3 ?n0E3 ?lE3 ?cE3 ?kE3 ?aE4 ?xE4 ?saE4 ?gaE4 ?ggE4 ?haE4 ?kcE4 ?icE4 ?tiE4 ?n0E4 ?n1E4 ?lE4 ?cE4 ?kE4 ?aE5 ?xE5 ?saE5 ?gaE5 ?ggE5 ?haE5 ?kcE5 ?icE5 ?tiE5 ?n0E5 ?n1E5 ?n2E5 ?lE5 ?cE5 ?kE5 ?aE6 ?xE6 ?saE6 ?gaE6 ?ggE6 ?haE6 ?kcE6 ?icE6 ?tiE6 ?n0E6 ?lE6 ?cE6 ?kE6 ?aF0 ?lF0 ?cF0 ?kF0 ?aF1 ?lF1 ?cF1 ?kF1 ?aF2 ?lF2 ?cF2 ?kF2 ?aF3 ?lF3 ?cF3 ?kF3 ?aF4 ?lF4 ?cF4 ?kF4 ?aF5 ?lF5 ?cF5 ?kF5 ?aF6 ?lF6 ?cF6 ?kF6 ?aF7 ?lF7 ?cF7 ?kF7 ?aF8 ?lF8 ?cF8 ?kF8 ?aF9 ?lF9 ?cF9 ?kF9 ?aF10 ?lF10 ?cF10 ?kF10 ?aF11 ?lF11 ?cF11 ?kF11 ?aF12 ?lF12 ?cF12 ?kF12 ?aF13 ?lF13 ?cF13 ?kF13 ?aF14 ?lF14 ?cF14 ?kF14 ?aF15 ?lF15 ?cF15 ?kF15 ?aF16 ?lF16 ?cF16 ?kF16 ?aF17 ?lF17 ?cF17 ?kF17 ?aF18 ?lF18 ?cF18 ?kF18 ?aF19 ?lF19 ?cF19 ?kF19 ?aF20 ?lF20 ?cF20 ?kF20 ?aF21 ?lF21 ?cF21 ?kF21 ?aF22 ?lF22 ?cF22 ?kF22 ?aF23 ?lF23 ?cF23 ?kF23 ?aF24 ?lF24 ?cF24 ?kF24 ?aF25 ?lF25 ?cF25 ?kF25 ?aF26 ?lF26 ?cF26 ?kF26 ?aF27 ?lF27 ?cF27 ?kF27 ?aF28 ?lF28 ?cF28 ?kF28 ?aF29 ?lF29 ?cF29 ?kF29 ?lC ?hTC ?nTC ?hBC ?z_int ?z_list ?z_len ?z_range ?z_isinstance ?z_repr ?z_all ?z_tuple ?z_bool ?z_abs ?z_gcd ?nd
    (case aW => k_is)
    (case xW => k_is)
    (case rdW => k_is)
    (case gaW => k_is)
    (case vW => k_is)
    (case hn => k_is)
    (case ht => k_is)
    (case aE0 => k_is)
    (case xE0 => k_is)
    (case saE0 => k_is)
    (case gaE0 => k_is)
    (case ggE0 => k_is)
    (case haE0 => k_is)
    (case kcE0 => k_is)
    (case icE0 => k_is)
    (case tiE0 => k_is)
    (case n0E0 => k_is)
    (case lE0 => k_is)
    (case cE0 => k_is)
    (case kE0 => k_is)
    (case aE1 => k_is)
    (case xE1 => k_is)
    (case saE1 => k_is)
    (case gaE1 => k_is)
    (case ggE1 => k_is)
    (case haE1 => k_is)
    (case kcE1 => k_is)
    (case icE1 => k_is)
    (case tiE1 => k_is)
    (case n0E1 => k_is)
    (case n1E1 => k_is)
    (case lE1 => k_is)
    (case cE1 => k_is)
    (case kE1 => k_is)
    (case aE2 => k_is)
    (case xE2 => k_is)
    (case saE2 => k_is)
    (case gaE2 => k_is)
    (case ggE2 => k_is)
    (case haE2 => k_is)
    (case kcE2 => k_is)
    (case icE2 => k_is)
    (case tiE2 => k_is)
    (case n0E2 => k_is)
    (case lE2 => k_is)
    (case cE2 => k_is)
    (case kE2 => k_is)
    (case aE3 => k_is)
    (case xE3 => k_is)
    (case saE3 => k_is)
    (case gaE3 => k_is)
    (case ggE3 => k_is)
    (case haE3 => k_is)
    (case kcE3 => k_is)
    (case icE3 => k_is)
    (case tiE3 => k_is)
    (case n0E3 => k_is)
    (case lE3 => k_is)
    (case cE3 => k_is)
    (case kE3 => k_is)
    (case aE4 => k_is)
    (case xE4 => k_is)
    (case saE4 => k_is)
    (case gaE4 => k_is)
    (case ggE4 => k_is)
    (case haE4 => k_is)
    (case kcE4 => k_is)
    (case icE4 => k_is)
    (case tiE4 => k_is)
    (case n0E4 => k_is)
    (case n1E4 => k_is)
    (case lE4 => k_is)
    (case cE4 => k_is)
    (case kE4 => k_is)
    (case aE5 => k_is)
    (case xE5 => k_is)
    (case saE5 => k_is)
    (case gaE5 => k_is)
    (case ggE5 => k_is)
    (case haE5 => k_is)
    (case kcE5 => k_is)
    (case icE5 => k_is)
    (case tiE5 => k_is)
    (case n0E5 => k_is)
    (case n1E5 => k_is)
    (case n2E5 => k_is)
    (case lE5 => k_is)
    (case cE5 => k_is)
    (case kE5 => k_is)
    (case aE6 => k_is)
    (case xE6 => k_is)
    (case saE6 => k_is)
    (case gaE6 => k_is)
    (case ggE6 => k_is)
    (case haE6 => k_is)
    (case kcE6 => k_is)
    (case icE6 => k_is)
    (case tiE6 => k_is)
    (case n0E6 => k_is)
    (case lE6 => k_is)
    (case cE6 => k_is)
    (case kE6 => k_is)
    (case aF0 => k_is)
    (case lF0 => k_is)
    (case cF0 => k_is)
    (case kF0 => k_is)
    (case aF1 => k_is)
    (case lF1 => k_is)
    (case cF1 => k_is)
    (case kF1 => k_is)
    (case aF2 => k_is)
    (case lF2 => k_is)
    (case cF2 => k_is)
    (case kF2 => k_is)
    (case aF3 => k_is)
    (case lF3 => k_is)
    (case cF3 => k_is)
    (case kF3 => k_is)
    (case aF4 => k_is)
    (case lF4 => k_is)
    (case cF4 => k_is)
    (case kF4 => k_is)
    (case aF5 => k_is)
    (case lF5 => k_is)
    (case cF5 => k_is)
    (case kF5 => k_is)
    (case aF6 => k_is)
    (case lF6 => k_is)
    (case cF6 => k_is)
    (case kF6 => k_is)
    (case aF7 => k_is)
    (case lF7 => k_is)
    (case cF7 => k_is)
    (case kF7 => k_is)
    (case aF8 => k_is)
    (case lF8 => k_is)
    (case cF8 => k_is)
    (case kF8 => k_is)
    (case aF9 => k_is)
    (case lF9 => k_is)
    (case cF9 => k_is)
    (case kF9 => k_is)
    (case aF10 => k_is)
    (case lF10 => k_is)
    (case cF10 => k_is)
    (case kF10 => k_is)
    (case aF11 => k_is)
    (case lF11 => k_is)
    (case cF11 => k_is)
    (case kF11 => k_is)
    (case aF12 => k_is)
    (case lF12 => k_is)
    (case cF12 => k_is)
    (case kF12 => k_is)
    (case aF13 => k_is)
    (case lF13 => k_is)
    (case cF13 => k_is)
    (case kF13 => k_is)
    (case aF14 => k_is)
    (case lF14 => k_is)
    (case cF14 => k_is)
    (case kF14 => k_is)
    (case aF15 => k_is)
    (case lF15 => k_is)
    (case cF15 => k_is)
    (case kF15 => k_is)
    (case aF16 => k_is)
    (case lF16 => k_is)
    (case cF16 => k_is)
    (case kF16 => k_is)
    (case aF17 => k_is)
    (case lF17 => k_is)
    (case cF17 => k_is)
    (case kF17 => k_is)
    (case aF18 => k_is)
    (case lF18 => k_is)
    (case cF18 => k_is)
    (case kF18 => k_is)
    (case aF19 => k_is)
    (case lF19 => k_is)
    (case cF19 => k_is)
    (case kF19 => k_is)
    (case aF20 => k_is)
    (case lF20 => k_is)
    (case cF20 => k_is)
    (case kF20 => k_is)
    (case aF21 => k_is)
    (case lF21 => k_is)
    (case cF21 => k_is)
    (case kF21 => k_is)
    (case aF22 => k_is)
    (case lF22 => k_is)
    (case cF22 => k_is)
    (case kF22 => k_is)
    (case aF23 => k_is)
    (case lF23 => k_is)
    (case cF23 => k_is)
    (case kF23 => k_is)
    (case aF24 => k_is)
    (case lF24 => k_is)
    (case cF24 => k_is)
    (case kF24 => k_is)
    (case aF25 => k_is)
    (case lF25 => k_is)
    (case cF25 => k_is)
    (case kF25 => k_is)
    (case aF26 => k_is)
    (case lF26 => k_is)
    (case cF26 => k_is)
    (case kF26 => k_is)
    (case aF27 => k_is)
    (case lF27 => k_is)
    (case cF27 => k_is)
    (case kF27 => k_is)
    (case aF28 => k_is)
    (case lF28 => k_is)
    (case cF28 => k_is)
    (case kF28 => k_is)
    (case aF29 => k_is)
    (case lF29 => k_is)
    (case cF29 => k_is)
    (case kF29 => k_is)
    (case lC => k_is)
    (case hTC => first | k_is | rfl | kernel_rfl | decide)
    (case nTC => first | kernel_rfl | rfl)
    (case hBC => first | k_is | rfl | kernel_rfl | decide)
    (case z_int => k_is)
    (case z_list => k_is)
    (case z_len => k_is)
    (case z_range => k_is)
    (case z_isinstance => k_is)
    (case z_repr => k_is)
    (case z_all => k_is)
    (case z_tuple => k_is)
    (case z_bool => k_is)
    (case z_abs => k_is)
    (case z_gcd => k_is)
    (case nd => decide)

