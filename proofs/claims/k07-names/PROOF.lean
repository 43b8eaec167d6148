import PyProof.Rows.All
import Wide.All
import OpenK.AllK
import Wide.FinOn
import HandS.ForMost
import HandS.Exc
import HandS.ExcOwn
import HandS.ExcInit
import HandS.WordsExc
import HandS.TryMany
import HandS.Lambda
import HandS.Gcd
import HandS.TryOnly
import HandS.ExcField
import HandS.IsInst
import HandS.ExcIs
import KE.KExcIs
import HandS.WideBits
import HandS.Style
import HandS.MakeKw
import PyProof.InstEq
import HandS.TupAny
import HandS.TupMul
import HandS.SortInts
import HandS.SortRule
import PyProof.TupleOfSeq
import HandS.Conv
import HandS.Deep
import HandS.NamedTupSort
import KE.GoesEnum
import HandS.RevTup
import HandS.Keys
import PySem.Challenge.RW_cutrounds_k07_webs_that_have_a_name
import Open.SpecLaws
import KE.OsGo
set_option Elab.async false
set_option linter.all false
set_option maxRecDepth 100000
set_option maxHeartbeats 4000000
/-! D0: data over the hand layer: values as data, a frozen heap under the tracked one, mutable objects by number; judgements over data. -/
namespace DL
open PySem PySem.Spec PyProof.Rows L2

/-! ### data -/
/-- a lambda's text -/
structure LamI where
  qual : Str
  params : Arguments
  body : Expr
  scope : Scope
/-- just this object -/
def xo (a : Addr) (o : Obj) : HO := .ext fun h => h.get? a = some o
inductive Dt where
  | non | bl (b : Bool) | int (i : Int) | str (x : Str)
  | lst (xs : List Dt) | tup (xs : List Dt)
  | obj (C : Addr) (fs : List (Str × Dt))
  | exc (C : Addr) (fs : List (Str × Dt))
  | dic (kvs : List (Key × Dt))
  | val (v : V)
  | mut (k : Nat)
  | cau (a dd : Addr) (gs : List (Str × Dt))
  | clo (L : LamI) (cs : List (Str × Addr))

mutual
inductive At (K : PySem.W.Frag) (as : List Addr) (G : Hp) : V → Dt → Prop
  | non : At K as G .non .non
  | bl (b : Bool) : At K as G (.bl b) (.bl b)
  | int (i : Int) : At K as G (.int i) (.int i)
  | str (x : Str) : At K as G (.str x) (.str x)
  | lst {a : Addr} {xs : List V} {ds : List Dt} : SqL K G a xs → Ats K as G xs ds → At K as G (.ref a) (.lst ds)
  | tup {a : Addr} {xs : List V} {ds : List Dt} : SqT K G a xs → Ats K as G xs ds → At K as G (.ref a) (.tup ds)
  | obj {a C dx : Addr} {fs : List (Str × V)} {gs : List (Str × Dt)} : G a = some (.ins C dx fs) → Fts K as G fs gs → At K as G (.ref a) (.obj C gs)
  | exc {a C d : Addr} {fs : List (Str × V)} {gs : List (Str × Dt)} : G a = some (exo a C (some d)) → G d = some (exd d fs) → Fts K as G fs gs → At K as G (.ref a) (.exc C gs)
  | exc0 {a C : Addr} : G a = some (exo a C none) → At K as G (.ref a) (.exc C [])
  | dic {a : Addr} {kvs : List (Key × V)} {es : List (Key × Dt)} : G a = some (.dK kvs) → Kts K as G kvs es → At K as G (.ref a) (.dic es)
  | val (v : V) : At K as G v (.val v)
  | mut {k : Nat} {a : Addr} : as[k]? = some a → At K as G (.ref a) (.mut k)
  | cau {a dd : Addr} {fs : List (Str × V)} {gs : List (Str × Dt)} : G dd = some (.xd fs) → Fts K as G fs gs → At K as G (.ref a) (.cau a dd gs)
  | clo {f c' : Addr} {pm ctv : Value} {L : LamI} {cs : List (Str × Addr)} : G f = some (xo f (PySem.W.kla_obj "<lambda>" L.qual L.params L.body L.scope cs pm c' ctv)) → G c' = some (LamX.CodeO c' L.qual) → At K as G (.ref f) (.clo L cs)
inductive Ats (K : PySem.W.Frag) (as : List Addr) (G : Hp) : List V → List Dt → Prop
  | nil : Ats K as G [] []
  | cons {v : V} {vs : List V} {d : Dt} {ds : List Dt} : At K as G v d → Ats K as G vs ds → Ats K as G (v :: vs) (d :: ds)
inductive Fts (K : PySem.W.Frag) (as : List Addr) (G : Hp) : List (Str × V) → List (Str × Dt) → Prop
  | nil : Fts K as G [] []
  | cons {f : Str} {v : V} {vs : List (Str × V)} {d : Dt} {ds : List (Str × Dt)} : At K as G v d → Fts K as G vs ds → Fts K as G ((f, v) :: vs) ((f, d) :: ds)
inductive Kts (K : PySem.W.Frag) (as : List Addr) (G : Hp) : List (Key × V) → List (Key × Dt) → Prop
  | nil : Kts K as G [] []
  | cons {f : Key} {v : V} {vs : List (Key × V)} {d : Dt} {ds : List (Key × Dt)} : At K as G v d → Kts K as G vs ds → Kts K as G ((f, v) :: vs) ((f, d) :: ds)
end

mutual

def Dt.mf : Dt → Bool
  | .non | .bl _ | .int _ | .str _ | .val _ | .clo _ _ => true
  | .mut _ => false
  | .lst xs | .tup xs => mfs xs
  | .obj _ fs | .exc _ fs | .cau _ _ fs => mff fs
  | .dic es => mfk es
def mfs : List Dt → Bool
  | [] => true
  | d :: r => d.mf && mfs r
def mff : List (Str × Dt) → Bool
  | [] => true
  | (_, d) :: r => d.mf && mff r
def mfk : List (Key × Dt) → Bool
  | [] => true
  | (_, d) :: r => d.mf && mfk r
end

theorem Same.tup {K : PySem.W.Frag} {H H' : Hp} {a : Addr} {xs : List V} (e : Same H H') (h : SqT K H a xs) : SqT K H' a xs := by
  rcases h with (h | ⟨o, h⟩) | h
  · exact .inl (.inl (e _ _ h))
  · exact .inl (.inr ⟨o, e _ _ h⟩)
  · exact .inr h

section
variable {K : PySem.W.Frag} {as bs : List Addr} {G G' : Hp}
mutual
/-- data stay -/
theorem At.mono (g : Same G G') (p : ∀ (k : Nat) (a : Addr), as[k]? = some a → bs[k]? = some a) : ∀ {v : V} {d : Dt}, At K as G v d → At K bs G' v d
  | _, _, .non => .non
  | _, _, .bl b => .bl b
  | _, _, .int i => .int i
  | _, _, .str x => .str x
  | _, _, .lst h t => .lst (g.seq h) (Ats.mono g p t)
  | _, _, .tup h t => .tup (Same.tup g h) (Ats.mono g p t)
  | _, _, .obj h t => .obj (g _ _ h) (Fts.mono g p t)
  | _, _, .exc h h2 t => .exc (g _ _ h) (g _ _ h2) (Fts.mono g p t)
  | _, _, .exc0 h => .exc0 (g _ _ h)
  | _, _, .dic h t => .dic (g _ _ h) (Kts.mono g p t)
  | _, _, .val v => .val v
  | _, _, .mut h => .mut (p _ _ h)
  | _, _, .cau h t => .cau (g _ _ h) (Fts.mono g p t)
  | _, _, .clo h t => .clo (g _ _ h) (g _ _ t)
theorem Ats.mono (g : Same G G') (p : ∀ (k : Nat) (a : Addr), as[k]? = some a → bs[k]? = some a) : ∀ {v : List V} {d : List Dt}, Ats K as G v d → Ats K bs G' v d
  | _, _, .nil => .nil
  | _, _, .cons h t => .cons (At.mono g p h) (Ats.mono g p t)
theorem Fts.mono (g : Same G G') (p : ∀ (k : Nat) (a : Addr), as[k]? = some a → bs[k]? = some a) : ∀ {v : List (Str × V)} {d : List (Str × Dt)}, Fts K as G v d → Fts K bs G' v d
  | _, _, .nil => .nil
  | _, _, .cons h t => .cons (At.mono g p h) (Fts.mono g p t)
theorem Kts.mono (g : Same G G') (p : ∀ (k : Nat) (a : Addr), as[k]? = some a → bs[k]? = some a) : ∀ {v : List (Key × V)} {d : List (Key × Dt)}, Kts K as G v d → Kts K bs G' v d
  | _, _, .nil => .nil
  | _, _, .cons h t => .cons (At.mono g p h) (Kts.mono g p t)
end
mutual
/-- data without mutable objects, whatever these are -/
theorem At.free : ∀ {v : V} {d : Dt}, d.mf = true → At K as G v d → At K bs G v d
  | _, _, _, .non => .non
  | _, _, _, .bl b => .bl b
  | _, _, _, .int i => .int i
  | _, _, _, .str x => .str x
  | _, _, m, .lst h t => .lst h (Ats.free (by simpa [Dt.mf] using m) t)
  | _, _, m, .tup h t => .tup h (Ats.free (by simpa [Dt.mf] using m) t)
  | _, _, m, .obj h t => .obj h (Fts.free (by simpa [Dt.mf] using m) t)
  | _, _, m, .exc h h2 t => .exc h h2 (Fts.free (by simpa [Dt.mf] using m) t)
  | _, _, _, .exc0 h => .exc0 h
  | _, _, m, .dic h t => .dic h (Kts.free (by simpa [Dt.mf] using m) t)
  | _, _, _, .val v => .val v
  | _, _, m, .mut h => by simp [Dt.mf] at m
  | _, _, m, .cau h t => .cau h (Fts.free (by simpa [Dt.mf] using m) t)
  | _, _, _, .clo h t => .clo h t
theorem Ats.free : ∀ {v : List V} {d : List Dt}, mfs d = true → Ats K as G v d → Ats K bs G v d
  | _, _, _, .nil => .nil
  | _, _, m, .cons h t => by
    simp only [mfs, Bool.and_eq_true] at m
    exact .cons (At.free m.1 h) (Ats.free m.2 t)
theorem Fts.free : ∀ {v : List (Str × V)} {d : List (Str × Dt)}, mff d = true → Fts K as G v d → Fts K bs G v d
  | _, _, _, .nil => .nil
  | _, _, m, .cons h t => by
    simp only [mff, Bool.and_eq_true] at m
    exact .cons (At.free m.1 h) (Fts.free m.2 t)
theorem Kts.free : ∀ {v : List (Key × V)} {d : List (Key × Dt)}, mfk d = true → Kts K as G v d → Kts K bs G v d
  | _, _, _, .nil => .nil
  | _, _, m, .cons h t => by
    simp only [mfk, Bool.and_eq_true] at m
    exact .cons (At.free m.1 h) (Kts.free m.2 t)
end
theorem Ats.length : ∀ {v : List V} {d : List Dt}, Ats K as G v d → v.length = d.length
  | _, _, .nil => rfl
  | _, _, .cons _ t => by simp [Ats.length t]
theorem Ats.get : ∀ {v : List V} {d : List Dt} {i : Nat} {x : V}, Ats K as G v d → v[i]? = some x → ∃ e, d[i]? = some e ∧ At K as G x e
  | _, _, i, x, .nil, h => by simp at h
  | _, _, 0, x, .cons h t, e => by simp at e; subst e; exact ⟨_, rfl, h⟩
  | _, _, i + 1, x, .cons h t, e => by
    obtain ⟨y, h1, h2⟩ := Ats.get (i := i) t (by simpa using e)
    exact ⟨y, by simpa using h1, h2⟩
theorem Ats.got : ∀ {v : List V} {d : List Dt} {i : Nat} {e : Dt}, Ats K as G v d → d[i]? = some e → ∃ x, v[i]? = some x ∧ At K as G x e
  | _, _, i, x, .nil, h => by simp at h
  | _, _, 0, x, .cons h t, e => by simp at e; subst e; exact ⟨_, rfl, h⟩
  | _, _, i + 1, x, .cons h t, e => by
    obtain ⟨y, h1, h2⟩ := Ats.got (i := i) t (by simpa using e)
    exact ⟨y, by simpa using h1, h2⟩
theorem Ats.append : ∀ {v v2 : List V} {d d2 : List Dt}, Ats K as G v d → Ats K as G v2 d2 → Ats K as G (v ++ v2) (d ++ d2)
  | _, _, _, _, .nil, r => r
  | _, _, _, _, .cons h t, r => .cons h (Ats.append t r)
theorem Ats.set : ∀ {v : List V} {d : List Dt} {x : V} {e : Dt} (i : Nat), At K as G x e → Ats K as G v d → Ats K as G (v.set i x) (d.set i e)
  | _, _, _, _, _, _, .nil => .nil
  | _, _, _, _, 0, a, .cons _ t => .cons a t
  | _, _, _, _, i + 1, a, .cons h t => .cons h (Ats.set i a t)
theorem Ats.drop : ∀ {v : List V} {d : List Dt} (n : Nat), Ats K as G v d → Ats K as G (v.drop n) (d.drop n)
  | _, _, 0, r => r
  | _, _, _ + 1, .nil => .nil
  | _, _, n + 1, .cons _ t => Ats.drop n t
theorem Ats.take : ∀ {v : List V} {d : List Dt} (n : Nat), Ats K as G v d → Ats K as G (v.take n) (d.take n)
  | _, _, 0, _ => .nil
  | _, _, _ + 1, .nil => .nil
  | _, _, n + 1, .cons h t => .cons h (Ats.take n t)
end

/-! ### mutable objects -/
inductive Mo where
  | lst (xs : List Dt) | dic (kvs : List (Key × Dt)) | ins (C : Addr) (fs : List (Str × Dt)) | gone
  /-- a cell with its content; a table of code objects -/
  | cell (n : Nat) (c : Addr) (oc : Obj) (d : Dt) | tab (n : Nat) (P : Addr) (q : Str)
abbrev Mu := List Mo
def MoAt (K : PySem.W.Frag) (as : List Addr) (G : Hp) (o : HO) : Mo → Prop
  | .lst ds => ∃ xs, o = .lst xs ∧ Ats K as G xs ds
  | .dic es => ∃ kvs, o = .dK kvs ∧ Kts K as G kvs es
  | .ins C fs => ∃ dx vs, o = .ins C dx vs ∧ Fts K as G vs fs
  | .gone => True
  | .cell n c oc d => as[n]? = some c ∧ ∃ v u, o = xo c oc ∧ oc.data = .cell (some u) ∧ RelV v u ∧ At K as G v d
  | .tab n P q => as[n]? = some P ∧ ∃ ps, o = .tbl ps ∧ TriplesOk ps.toList ∧ ∀ (pos : Pos) (cv : Value), codeAmong pos ps.toList = some cv → ∃ c, cv = .ref c ∧ G c = some (LamX.CodeO c q)
theorem MoAt.mono {K : PySem.W.Frag} {as bs : List Addr} {G G' : Hp} {o : HO} {m : Mo} (h : MoAt K as G o m) (g : Same G G') (p : ∀ (k : Nat) (a : Addr), as[k]? = some a → bs[k]? = some a) : MoAt K bs G' o m := by
  cases m with
  | lst ds => obtain ⟨xs, e, h⟩ := h; exact ⟨xs, e, h.mono g p⟩
  | dic es => obtain ⟨kvs, e, h⟩ := h; exact ⟨kvs, e, h.mono g p⟩
  | ins C fs => obtain ⟨dx, vs, e, h⟩ := h; exact ⟨dx, vs, e, h.mono g p⟩
  | gone => trivial
  | cell n c oc d => obtain ⟨i, v, u, e, e2, r, h⟩ := h; exact ⟨p _ _ i, v, u, e, e2, r, h.mono g p⟩
  | tab n P q =>
    obtain ⟨i, ps, e, t, h⟩ := h
    refine ⟨p _ _ i, ps, e, t, fun pos cv hc => ?_⟩
    obtain ⟨c, e1, e2⟩ := h pos cv hc
    exact ⟨c, e1, g _ _ e2⟩
structure Mem (K : PySem.W.Frag) (as : List Addr) (G H : Hp) (μ : Mu) : Prop where
  same : Same G H
  len : as.length = μ.length
  cell : ∀ (k : Nat) (m : Mo), μ[k]? = some m → m ≠ .gone → ∃ a o, as[k]? = some a ∧ H a = some o ∧ MoAt K as G o m ∧ G a = none
  nd : as.Nodup
  ne : ∀ a ∈ as, H a ≠ none
structure Step (as : List Addr) (G H : Hp) (as' : List Addr) (G' H' : Hp) : Prop where
  pre : ∃ r, as' = as ++ r
  gg : Same G G'
  hh : ∀ b o, H b = some o → b ∉ as → H' b = some o
  ho : ∀ b, H b ≠ none → H' b ≠ none
  fr : ∀ b o, G' b = some o → G b = some o ∨ H b = none ∨ b ∈ as
  nw : ∀ a ∈ as', a ∈ as ∨ H a = none
theorem Step.refl (as : List Addr) (G H : Hp) : Step as G H as G H := ⟨⟨[], by simp⟩, Same.refl _, fun _ _ h _ => h, fun _ h => h, fun _ _ h => .inl h, fun _ h => .inl h⟩
theorem Step.ix {as as' : List Addr} {G H G' H' : Hp} (s : Step as G H as' G' H') : ∀ (k : Nat) (a : Addr), as[k]? = some a → as'[k]? = some a := fun k a h => by
  obtain ⟨r, rfl⟩ := s.pre
  have := (List.getElem?_eq_some_iff.mp h).1
  rw [List.getElem?_append_left this]
  exact h
theorem Step.trans {as as1 as2 : List Addr} {G H G1 H1 G2 H2 : Hp} (s : Step as G H as1 G1 H1) (t : Step as1 G1 H1 as2 G2 H2) : Step as G H as2 G2 H2 where
  pre := by
    obtain ⟨r, h⟩ := s.pre
    obtain ⟨r2, h2⟩ := t.pre
    exact ⟨r ++ r2, by rw [h2, h, List.append_assoc]⟩
  gg := s.gg.trans t.gg
  hh := fun b o h n => t.hh b o (s.hh b o h n) (fun hb => by
    rcases s.nw b hb with z | z
    · exact n z
    · rw [h] at z; cases z)
  ho := fun b h => t.ho b (s.ho b h)
  fr := fun b o h => by
    rcases t.fr b o h with z | z | z
    · exact s.fr b o z
    · refine .inr (.inl ?_)
      cases q : H b with
      | none => rfl
      | some u => exact absurd z (s.ho b (by rw [q]; simp))
    · rcases s.nw b z with z | z
      · exact .inr (.inr z)
      · exact .inr (.inl z)
  nw := fun a h => by
    rcases t.nw a h with z | z
    · exact s.nw a z
    · refine .inr ?_
      cases q : H a with
      | none => rfl
      | some u => exact absurd z (s.ho a (by rw [q]; simp))

/-! ### slots -/
abbrev Env' := List (Option Dt)
structure Slots (K : PySem.W.Frag) (as : List Addr) (G : Hp) (σ : L2.St) (ρ : Env') : Prop where
  len : σ.length = ρ.length
  at_ : ∀ (i : Nat) (d : Dt), ρ[i]? = some (some d) → ∃ v, σ[i]? = some (some v) ∧ At K as G v d
theorem Slots.mono {K : PySem.W.Frag} {as as' : List Addr} {G H G' H' : Hp} {σ : L2.St} {ρ : Env'} (s : Slots K as G σ ρ) (t : Step as G H as' G' H') : Slots K as' G' σ ρ :=
  ⟨s.len, fun i d h => by
    obtain ⟨v, e, a⟩ := s.at_ i d h
    exact ⟨v, e, a.mono t.gg t.ix⟩⟩
theorem Slots.set {K : PySem.W.Frag} {as : List Addr} {G : Hp} {σ : L2.St} {ρ : Env'} {v : V} {d : Dt} (s : Slots K as G σ ρ) (i : Nat) (h : At K as G v d) : Slots K as G (σ.set i (some v)) (ρ.set i (some d)) := by
  refine ⟨by simp [s.len], fun j e hj => ?_⟩
  by_cases hi : i = j
  · subst hi
    have hl : i < ρ.length := by
      have := (List.getElem?_eq_some_iff.mp hj).1
      simpa using this
    rw [List.getElem?_set_self hl] at hj
    cases hj
    exact ⟨v, by rw [List.getElem?_set_self (by rw [s.len]; exact hl)], h⟩
  · rw [List.getElem?_set_ne hi] at hj
    obtain ⟨w, e1, a⟩ := s.at_ j e hj
    exact ⟨w, by rw [List.getElem?_set_ne hi]; exact e1, a⟩
theorem Slots.unset {K : PySem.W.Frag} {as : List Addr} {G : Hp} {σ : L2.St} {ρ : Env'} (s : Slots K as G σ ρ) (i : Nat) : Slots K as G (σ.set i none) (ρ.set i none) := by
  refine ⟨by simp [s.len], fun j e hj => ?_⟩
  by_cases hi : i = j
  · subst hi
    have hl : i < ρ.length := by
      have := (List.getElem?_eq_some_iff.mp hj).1
      simpa using this
    rw [List.getElem?_set_self hl] at hj
    cases hj
  · rw [List.getElem?_set_ne hi] at hj
    obtain ⟨w, e1, a⟩ := s.at_ j e hj
    exact ⟨w, by rw [List.getElem?_set_ne hi]; exact e1, a⟩
def wipeD (ρ : Env') : List Nat → Env'
  | [] => ρ
  | v :: vs => (wipeD ρ vs).set v none
theorem Slots.wipe {K : PySem.W.Frag} {as : List Addr} {G : Hp} {σ : L2.St} {ρ : Env'} (s : Slots K as G σ ρ) : ∀ vs : List Nat, Slots K as G (L2.wipe σ vs) (wipeD ρ vs)
  | [] => s
  | v :: vs => (Slots.wipe s vs).unset v

/-! ### the wishes of an exception -/
abbrev JX := Addr → List (Str × Dt) → Mu → Prop
abbrev J0 : JX := fun _ _ _ => False
/-- an exception of the class at C with its fields, as it flies -/
def WJ (K : PySem.W.Frag) (J : JX) (as : List Addr) (G H : Hp) : Value → Option Addr → Hp → Prop := fun cls d H' =>
  ∃ (C : Addr) (as' : List Addr) (G' : Hp) (μ' : Mu) (gs : List (Str × Dt)), cls = .ref C ∧ Step as G H as' G' H' ∧ Mem K as' G' H' μ' ∧
    ((d = none ∧ gs = []) ∨ ∃ (dd : Addr) (fs : List (Str × V)), d = some dd ∧ G' dd = some (.xd fs) ∧ Fts K as' G' fs gs) ∧ J C gs μ'
theorem WJ.back {K : PySem.W.Frag} {J : JX} {as as1 : List Addr} {G H G1 H1 : Hp} {cls : Value} {d : Option Addr} {H' : Hp} (s : Step as G H as1 G1 H1) (h : WJ K J as1 G1 H1 cls d H') : WJ K J as G H cls d H' := by
  obtain ⟨C, as', G', μ', gs, e, t, m, f, j⟩ := h
  exact ⟨C, as', G', μ', gs, e, s.trans t, m, f, j⟩
def TakesD (X : Cx) (J : JX) (as : List Addr) (G H : Hp) : Prop := Takes X fun cls d _ H' => WJ X.K J as G H cls d H'
theorem TakesD.step {X : Cx} {J : JX} {as as1 : List Addr} {G H G1 H1 : Hp} (t : TakesD X J as G H) (s : Step as G H as1 G1 H1) : TakesD X J as1 G1 H1 := Takes.imp t fun _ _ _ _ h => h.back s
theorem TakesD.imp {X : Cx} {J J' : JX} {as : List Addr} {G H : Hp} (t : TakesD X J as G H) (h : ∀ C fs μ, J' C fs μ → J C fs μ) : TakesD X J' as G H := Takes.imp t fun _ _ _ _ z => by
  obtain ⟨C, as', G', μ', gs, e, t, m, f, j⟩ := z
  exact ⟨C, as', G', μ', gs, e, t, m, f, h _ _ _ j⟩
theorem TakesD.none {X : Cx} {as : List Addr} {G H : Hp} : TakesD X J0 as G H := fun _ _ ⟨_, _, _, _, _, _, _, _, _, _, _, _, _, _, _, _, w⟩ => by
  obtain ⟨_, _, _, _, _, _, _, _, _, j⟩ := w
  exact j.elim

/-! ### the weakest readings -/
def wE (X : Cx) (e : Expr) : TE := fun σ H Q => ∀ pins s, Inv X pins σ H s → wpAny (model X.prog X.w) X.A (eval e X.env) (EP X pins σ Q) X.xe s
def wT (X : Cx) (e : Expr) : TT := fun σ H Q => ∀ pins s, Inv X pins σ H s → wpAny (model X.prog X.w) X.A (isTrue e X.env (eval e X.env)) (TP X pins σ Q) X.xe s
def wW (X : Cx) (e : Expr) : TT := fun σ H Q => ∀ whole pins s, Inv X pins σ H s → wpAny (model X.prog X.w) X.A (isTrue e X.env whole) (TP X pins σ Q) X.xe s
def wA (X : Cx) (es : List Expr) : TA := fun σ H Q => ∀ pos pins s, Inv X pins σ H s → wpAny (model X.prog X.w) X.A (spliced (backTo pos (starEach es X.env))) (AP X pins σ Q) X.xe s
def wS (X : Cx) (st : Stmt) : TS := fun D σ H => ∀ pins s, Inv X pins σ H s → wpAny (model X.prog X.w) X.A (exec st X.env) (SP X pins D) X.xe s
def wSs (X : Cx) (st : List Stmt) : TS := fun D σ H => ∀ pins s, Inv X pins σ H s → wpAny (model X.prog X.w) X.A (execs st X.env) (SP X pins D) X.xe s
theorem peW {X : Cx} {e : Expr} : PE X e (wE X e) := ⟨fun pins s _ _ _ I h => h pins s I⟩
theorem ptW {X : Cx} {e : Expr} : PT X e (wT X e) := ⟨fun pins s _ _ _ I h => h pins s I⟩
theorem pwW {X : Cx} {e : Expr} : PW X e (wW X e) := ⟨fun whole pins s _ _ _ I h => h whole pins s I⟩
theorem paW {X : Cx} {es : List Expr} : PA X es (wA X es) := ⟨fun pos pins s _ _ _ I h => h pos pins s I⟩
theorem psW {X : Cx} {st : Stmt} : PS X st (wS X st) := ⟨fun pins s _ _ _ I h => h pins s I⟩
theorem pssW {X : Cx} {st : List Stmt} : PSs X st (wSs X st) := ⟨fun pins s _ _ _ I h => h pins s I⟩
end DL
namespace L2
open PySem PySem.Spec PyProof.Rows DL
theorem PE.w {X : Cx} {e : Expr} {t : TE} (h : PE X e t) {σ : L2.St} {H : Hp} {Q : VK} (q : t σ H Q) : wE X e σ H Q := fun pins s I => h.run pins s σ H Q I q
theorem PT.w {X : Cx} {e : Expr} {t : TT} (h : PT X e t) {σ : L2.St} {H : Hp} {Q : Bool → Hp → Prop} (q : t σ H Q) : wT X e σ H Q := fun pins s I => h.run pins s σ H Q I q
theorem PW.w {X : Cx} {e : Expr} {t : TT} (h : PW X e t) {σ : L2.St} {H : Hp} {Q : Bool → Hp → Prop} (q : t σ H Q) : wW X e σ H Q := fun whole pins s I => h.run whole pins s σ H Q I q
theorem PA.w {X : Cx} {es : List Expr} {t : TA} (h : PA X es t) {σ : L2.St} {H : Hp} {Q : List V → Hp → Prop} (q : t σ H Q) : wA X es σ H Q := fun pos pins s I => h.run pos pins s σ H Q I q
theorem PS.w {X : Cx} {st : Stmt} {t : TS} (h : PS X st t) {σ : L2.St} {H : Hp} {D : Ends} (q : t D σ H) : wS X st D σ H := fun pins s I => h.run pins s σ H D I q
theorem PSs.w {X : Cx} {st : List Stmt} {t : TS} (h : PSs X st t) {σ : L2.St} {H : Hp} {D : Ends} (q : t D σ H) : wSs X st D σ H := fun pins s I => h.run pins s σ H D I q
end L2

/-! D1: judgements over data: expressions, tests, arguments. -/
namespace DL
open PySem PySem.Spec PyProof.Rows L2

/-! ### the memory's steps -/
section
variable {K : PySem.W.Frag} {as : List Addr} {G H : Hp} {μ : Mu}
theorem same_upd_none {H : Hp} {p : Addr} {o : HO} (h : H p = none) : Same H (upd H p o) := fun b u e => by
  rw [upd_ne (ne_of_none e h)]
  exact e
theorem same_upd2 {G H : Hp} {p : Addr} {o : HO} (s : Same G H) (h : H p = none) : Same (upd G p o) (upd H p o) := fun b u e => by
  by_cases hb : b = p
  · subst hb
    rw [upd_same] at e ⊢
    exact e
  · rw [upd_ne hb] at e ⊢
    exact s b u e
/-- a new object, frozen -/
theorem Mem.lay {p : Addr} {o : HO} (m : Mem K as G H μ) (hp : H p = none) : Mem K as (upd G p o) (upd H p o) μ := by
  have gp : G p = none := m.same.free hp
  have np : ∀ a, a ∈ as → a ≠ p := fun a h z => m.ne a h (by rw [z]; exact hp)
  refine ⟨same_upd2 m.same hp, m.len, fun k mo hk hg => ?_, m.nd, fun a h => by rw [upd_ne (np a h)]; exact m.ne a h⟩
  obtain ⟨a, o', h1, h2, h3, h4⟩ := m.cell k mo hk hg
  have ha := np a (List.mem_of_getElem? h1)
  exact ⟨a, o', h1, by rw [upd_ne ha]; exact h2, h3.mono (same_upd_none gp) (fun _ _ h => h), by rw [upd_ne ha]; exact h4⟩
theorem Step.lay {p : Addr} {o : HO} (m : Mem K as G H μ) (hp : H p = none) : Step as G H as (upd G p o) (upd H p o) := by
  have gp : G p = none := m.same.free hp
  refine ⟨⟨[], by simp⟩, same_upd_none gp, fun b u e _ => same_upd_none hp b u e, fun b e => ?_, fun b u e => ?_, fun a h => .inl h⟩
  · by_cases hb : b = p
    · subst hb; rw [upd_same]; simp
    · rw [upd_ne hb]; exact e
  · by_cases hb : b = p
    · subst hb; exact .inr (.inl hp)
    · rw [upd_ne hb] at e; exact .inl e
/-- a new object, not frozen, not a mutable one of ours either (an aid's own) -/
theorem Mem.aside {p : Addr} {o : HO} (m : Mem K as G H μ) (hp : H p = none) : Mem K as G (upd H p o) μ := by
  have np : ∀ a, a ∈ as → a ≠ p := fun a h z => m.ne a h (by rw [z]; exact hp)
  refine ⟨m.same.trans (same_upd_none hp), m.len, fun k mo hk hg => ?_, m.nd, fun a h => by rw [upd_ne (np a h)]; exact m.ne a h⟩
  obtain ⟨a, o', h1, h2, h3, h4⟩ := m.cell k mo hk hg
  have ha := np a (List.mem_of_getElem? h1)
  exact ⟨a, o', h1, by rw [upd_ne ha]; exact h2, h3, h4⟩
theorem Step.aside {p : Addr} {o : HO} (m : Mem K as G H μ) (hp : H p = none) : Step as G H as G (upd H p o) := by
  refine ⟨⟨[], by simp⟩, Same.refl _, fun b u e _ => same_upd_none hp b u e, fun b e => ?_, fun b u e => .inl e, fun a h => .inl h⟩
  by_cases hb : b = p
  · subst hb; rw [upd_same]; simp
  · rw [upd_ne hb]; exact e
/-- a new mutable object -/
theorem Mem.layM {p : Addr} {o : HO} {mo : Mo} (m : Mem K as G H μ) (hp : H p = none) (h : MoAt K as G o mo) : Mem K (as ++ [p]) G (upd H p o) (μ ++ [mo]) := by
  have gp : G p = none := m.same.free hp
  have np : ∀ a, a ∈ as → a ≠ p := fun a h z => m.ne a h (by rw [z]; exact hp)
  have ix : ∀ (k : Nat) (a : Addr), as[k]? = some a → (as ++ [p])[k]? = some a := fun k a h => by
    rw [List.getElem?_append_left (List.getElem?_eq_some_iff.mp h).1]; exact h
  refine ⟨m.same.trans (same_upd_none hp), by simp [m.len], fun k mo' hk hg => ?_, ?_, fun a ha => ?_⟩
  · by_cases hl : k < μ.length
    · rw [List.getElem?_append_left hl] at hk
      obtain ⟨a, o', h1, h2, h3, h4⟩ := m.cell k mo' hk hg
      have ha := np a (List.mem_of_getElem? h1)
      exact ⟨a, o', ix _ _ h1, by rw [upd_ne ha]; exact h2, h3.mono (Same.refl _) ix, h4⟩
    · have hk2 := (List.getElem?_eq_some_iff.mp hk).1
      simp at hk2
      have e : k = μ.length := by omega
      subst e
      simp at hk
      subst hk
      exact ⟨p, o, by rw [← m.len]; simp, upd_same, h.mono (Same.refl _) ix, gp⟩
  · rw [List.nodup_append]
    refine ⟨m.nd, by simp, fun a ha b hb => ?_⟩
    have : b = p := by simpa using hb
    subst this
    exact np a ha
  · rcases List.mem_append.mp ha with h | h
    · rw [upd_ne (np a h)]; exact m.ne a h
    · have : a = p := by simpa using h
      subst this
      rw [upd_same]; simp
theorem Step.layM {p : Addr} {o : HO} (m : Mem K as G H μ) (hp : H p = none) : Step as G H (as ++ [p]) G (upd H p o) := by
  refine ⟨⟨[p], rfl⟩, Same.refl _, fun b u e _ => same_upd_none hp b u e, fun b e => ?_, fun b u e => .inl e, fun a h => ?_⟩
  · by_cases hb : b = p
    · subst hb; rw [upd_same]; simp
    · rw [upd_ne hb]; exact e
  · rcases List.mem_append.mp h with h | h
    · exact .inl h
    · have : a = p := by simpa using h
      subst this
      exact .inr hp
/-- a mutable object changed -/
theorem Mem.put {k : Nat} {a : Addr} {o : HO} {mo m0 : Mo} (m : Mem K as G H μ) (hk : as[k]? = some a) (h0 : μ[k]? = some m0) (hg0 : m0 ≠ .gone) (h : MoAt K as G o mo) : Mem K as G (upd H a o) (μ.set k mo) := by
  obtain ⟨a0, o0, e1, e2, _, e4⟩ := m.cell k m0 h0 hg0
  rw [hk] at e1; cases e1
  refine ⟨fun b u e => ?_, by simp [m.len], fun j mo' hj hg => ?_, m.nd, fun b hb => ?_⟩
  · have : b ≠ a := fun z => by rw [z, e4] at e; cases e
    rw [upd_ne this]; exact m.same b u e
  · by_cases hjk : k = j
    · subst hjk
      have hl := (List.getElem?_eq_some_iff.mp h0).1
      rw [List.getElem?_set_self hl] at hj
      cases hj
      exact ⟨a, o, hk, upd_same, h, e4⟩
    · rw [List.getElem?_set_ne hjk] at hj
      obtain ⟨b, o', h1, h2, h3, h4⟩ := m.cell j mo' hj hg
      have : b ≠ a := fun z => hjk (by
        subst z
        obtain ⟨l1, f1⟩ := List.getElem?_eq_some_iff.mp hk
        obtain ⟨l2, f2⟩ := List.getElem?_eq_some_iff.mp h1
        exact (List.getElem_inj m.nd).mp (f1.trans f2.symm))
      exact ⟨b, o', h1, by rw [upd_ne this]; exact h2, h3, h4⟩
  · by_cases hb' : b = a
    · subst hb'; rw [upd_same]; simp
    · rw [upd_ne hb']; exact m.ne b hb
theorem Step.put {k : Nat} {a : Addr} {o : HO} (m : Mem K as G H μ) (hk : as[k]? = some a) : Step as G H as G (upd H a o) := by
  refine ⟨⟨[], by simp⟩, Same.refl _, fun b u e n => ?_, fun b e => ?_, fun b u e => .inl e, fun a h => .inl h⟩
  · rw [upd_ne (fun z => n (by rw [z]; exact List.mem_of_getElem? hk))]; exact e
  · by_cases hb : b = a
    · subst hb; rw [upd_same]; simp
    · rw [upd_ne hb]; exact e
/-- a mutable object is frozen -/
theorem Mem.freeze {k : Nat} {a : Addr} {o : HO} (m : Mem K as G H μ) (hk : as[k]? = some a) (ho : H a = some o) (hg : G a = none) : Mem K as (upd G a o) H (μ.set k .gone) := by
  refine ⟨fun b u e => ?_, by simp [m.len], fun j mo hj hgo => ?_, m.nd, m.ne⟩
  · by_cases hb : b = a
    · subst hb; rw [upd_same] at e; cases e; exact ho
    · rw [upd_ne hb] at e; exact m.same b u e
  · by_cases hjk : k = j
    · subst hjk
      have hl : k < μ.length := by rw [← m.len]; exact (List.getElem?_eq_some_iff.mp hk).1
      rw [List.getElem?_set_self hl] at hj
      cases hj
      exact absurd rfl hgo
    · rw [List.getElem?_set_ne hjk] at hj
      obtain ⟨b, o', h1, h2, h3, h4⟩ := m.cell j mo hj hgo
      have : b ≠ a := fun z => hjk (by
        subst z
        obtain ⟨l1, f1⟩ := List.getElem?_eq_some_iff.mp hk
        obtain ⟨l2, f2⟩ := List.getElem?_eq_some_iff.mp h1
        exact (List.getElem_inj m.nd).mp (f1.trans f2.symm))
      exact ⟨b, o', h1, h2, h3.mono (same_upd_none hg) (fun _ _ h => h), by rw [upd_ne this]; exact h4⟩
theorem Step.freeze {k : Nat} {a : Addr} {o : HO} (m : Mem K as G H μ) (hk : as[k]? = some a) (hg : G a = none) : Step as G H as (upd G a o) H := by
  refine ⟨⟨[], by simp⟩, same_upd_none hg, fun b u e _ => e, fun b e => e, fun b u e => ?_, fun a h => .inl h⟩
  by_cases hb : b = a
  · subst hb; exact .inr (.inr (List.mem_of_getElem? hk))
  · rw [upd_ne hb] at e; exact .inl e
end

/-! ### the judgements -/
structure Sx (X : Cx) (J : JX) (as : List Addr) (G H : Hp) (σ : L2.St) (ρ : Env') (μ : Mu) : Prop where
  mem : Mem X.K as G H μ
  sl : Slots X.K as G σ ρ
  tk : TakesD X J as G H
theorem Sx.step {X : Cx} {J : JX} {as as' : List Addr} {G H G' H' : Hp} {σ : L2.St} {ρ : Env'} {μ μ' : Mu} (S : Sx X J as G H σ ρ μ) (s : Step as G H as' G' H') (m : Mem X.K as' G' H' μ') : Sx X J as' G' H' σ ρ μ' := ⟨m, S.sl.mono s, S.tk.step s⟩
/-- what stands behind an expression -/
def AfE (K : PySem.W.Frag) (as : List Addr) (G H : Hp) (Q : Dt → Mu → Prop) : VK := fun v H' => ∃ d μ' as' G', Step as G H as' G' H' ∧ Mem K as' G' H' μ' ∧ At K as' G' v d ∧ Q d μ'
def AfT (K : PySem.W.Frag) (as : List Addr) (G H : Hp) (Q : Bool → Mu → Prop) : Bool → Hp → Prop := fun b H' => ∃ μ' as' G', Step as G H as' G' H' ∧ Mem K as' G' H' μ' ∧ Q b μ'
def AfA (K : PySem.W.Frag) (as : List Addr) (G H : Hp) (Q : List Dt → Mu → Prop) : List V → Hp → Prop := fun vs H' => ∃ ds μ' as' G', Step as G H as' G' H' ∧ Mem K as' G' H' μ' ∧ Ats K as' G' vs ds ∧ Q ds μ'
structure dE (X : Cx) (J : JX) (e : Expr) (ρ : Env') (μ : Mu) (Q : Dt → Mu → Prop) : Prop where
  go : ∀ as G H σ, Sx X J as G H σ ρ μ → wE X e σ H (AfE X.K as G H Q)
instance {X : Cx} {J : JX} {e : Expr} {ρ : Env'} {μ : Mu} {Q : Dt → Mu → Prop} : CoeFun (dE X J e ρ μ Q) (fun _ => ∀ as G H σ, Sx X J as G H σ ρ μ → wE X e σ H (AfE X.K as G H Q)) := ⟨dE.go⟩
structure dT (X : Cx) (J : JX) (e : Expr) (ρ : Env') (μ : Mu) (Q : Bool → Mu → Prop) : Prop where
  go : ∀ as G H σ, Sx X J as G H σ ρ μ → wT X e σ H (AfT X.K as G H Q)
instance {X : Cx} {J : JX} {e : Expr} {ρ : Env'} {μ : Mu} {Q : Bool → Mu → Prop} : CoeFun (dT X J e ρ μ Q) (fun _ => ∀ as G H σ, Sx X J as G H σ ρ μ → wT X e σ H (AfT X.K as G H Q)) := ⟨dT.go⟩
structure dW (X : Cx) (J : JX) (e : Expr) (ρ : Env') (μ : Mu) (Q : Bool → Mu → Prop) : Prop where
  go : ∀ as G H σ, Sx X J as G H σ ρ μ → wW X e σ H (AfT X.K as G H Q)
instance {X : Cx} {J : JX} {e : Expr} {ρ : Env'} {μ : Mu} {Q : Bool → Mu → Prop} : CoeFun (dW X J e ρ μ Q) (fun _ => ∀ as G H σ, Sx X J as G H σ ρ μ → wW X e σ H (AfT X.K as G H Q)) := ⟨dW.go⟩
structure dA (X : Cx) (J : JX) (es : List Expr) (ρ : Env') (μ : Mu) (Q : List Dt → Mu → Prop) : Prop where
  go : ∀ as G H σ, Sx X J as G H σ ρ μ → wA X es σ H (AfA X.K as G H Q)
instance {X : Cx} {J : JX} {es : List Expr} {ρ : Env'} {μ : Mu} {Q : List Dt → Mu → Prop} : CoeFun (dA X J es ρ μ Q) (fun _ => ∀ as G H σ, Sx X J as G H σ ρ μ → wA X es σ H (AfA X.K as G H Q)) := ⟨dA.go⟩
section
variable {X : Cx} {J : JX} {e a b c : Expr} {es : List Expr} {ρ : Env'} {μ : Mu} {σ : L2.St} {H : Hp} {pos : Pos}
theorem wE_mono {Q Q' : VK} (h : wE X e σ H Q) (f : ∀ v H', Q v H' → Q' v H') : wE X e σ H Q' := fun pins s I => thn (h pins s I) fun _ _ ⟨v, H', I', r, q⟩ => ⟨v, H', I', r, f v H' q⟩
theorem wT_mono {Q Q' : Bool → Hp → Prop} (h : wT X e σ H Q) (f : ∀ v H', Q v H' → Q' v H') : wT X e σ H Q' := fun pins s I => thn (h pins s I) fun b _ ⟨H', I', q⟩ => ⟨H', I', f b H' q⟩
theorem wW_mono {Q Q' : Bool → Hp → Prop} (h : wW X e σ H Q) (f : ∀ v H', Q v H' → Q' v H') : wW X e σ H Q' := fun w pins s I => thn (h w pins s I) fun b _ ⟨H', I', q⟩ => ⟨H', I', f b H' q⟩
theorem wA_mono {Q Q' : List V → Hp → Prop} (h : wA X es σ H Q) (f : ∀ v H', Q v H' → Q' v H') : wA X es σ H Q' := fun p pins s I => thn (h p pins s I) fun _ _ ⟨v, H', I', r, q⟩ => ⟨v, H', I', r, f v H' q⟩
theorem AfE.back {K : PySem.W.Frag} {as as1 : List Addr} {G H G1 H1 : Hp} {Q : Dt → Mu → Prop} {v : V} {H' : Hp} (s : Step as G H as1 G1 H1) (h : AfE K as1 G1 H1 Q v H') : AfE K as G H Q v H' := by
  obtain ⟨d, μ', as', G', t, m, a, q⟩ := h
  exact ⟨d, μ', as', G', s.trans t, m, a, q⟩
theorem AfT.back {K : PySem.W.Frag} {as as1 : List Addr} {G H G1 H1 : Hp} {Q : Bool → Mu → Prop} {v : Bool} {H' : Hp} (s : Step as G H as1 G1 H1) (h : AfT K as1 G1 H1 Q v H') : AfT K as G H Q v H' := by
  obtain ⟨μ', as', G', t, m, q⟩ := h
  exact ⟨μ', as', G', s.trans t, m, q⟩
theorem AfA.back {K : PySem.W.Frag} {as as1 : List Addr} {G H G1 H1 : Hp} {Q : List Dt → Mu → Prop} {v : List V} {H' : Hp} (s : Step as G H as1 G1 H1) (h : AfA K as1 G1 H1 Q v H') : AfA K as G H Q v H' := by
  obtain ⟨d, μ', as', G', t, m, a, q⟩ := h
  exact ⟨d, μ', as', G', s.trans t, m, a, q⟩
theorem dE.imp {Q Q' : Dt → Mu → Prop} (h : dE X J e ρ μ Q) (f : ∀ d μ', Q d μ' → Q' d μ') : dE X J e ρ μ Q' := .mk fun as G H σ S => wE_mono (h as G H σ S) fun _ _ ⟨d, μ', as', G', t, m, a, q⟩ => ⟨d, μ', as', G', t, m, a, f _ _ q⟩
theorem dT.imp {Q Q' : Bool → Mu → Prop} (h : dT X J e ρ μ Q) (f : ∀ d μ', Q d μ' → Q' d μ') : dT X J e ρ μ Q' := .mk fun as G H σ S => wT_mono (h as G H σ S) fun _ _ ⟨μ', as', G', t, m, q⟩ => ⟨μ', as', G', t, m, f _ _ q⟩
theorem dA.imp {Q Q' : List Dt → Mu → Prop} (h : dA X J es ρ μ Q) (f : ∀ d μ', Q d μ' → Q' d μ') : dA X J es ρ μ Q' := .mk fun as G H σ S => wA_mono (h as G H σ S) fun _ _ ⟨d, μ', as', G', t, m, a, q⟩ => ⟨d, μ', as', G', t, m, a, f _ _ q⟩
/-- a value that is there at once -/
theorem AfE.now {K : PySem.W.Frag} {as : List Addr} {G H : Hp} {Q : Dt → Mu → Prop} {v : V} {d : Dt} (m : Mem K as G H μ) (a : At K as G v d) (q : Q d μ) : AfE K as G H Q v H := ⟨d, μ, as, G, .refl _ _ _, m, a, q⟩

theorem dE_var (i : Nat) {x : Str} {d : Dt} {Q : Dt → Mu → Prop} (hN : X.N[i]? = some x) (he : ρ[i]? = some (some d)) (q : Q d μ)
    (hv : Vis X.env.scope x := by first | exact Or.inl rfl | exact Or.inr (Or.inl rfl) | exact Or.inr (Or.inr rfl)) (hd : (x == ("__debug__" : Str)) = false := by decide) (hcd : (x == ("__classdict__" : Str)) = false := by decide) : dE X J (.Name x pos) ρ μ Q := .mk fun as G H σ S => by
  obtain ⟨v, e1, a1⟩ := S.sl.at_ i d he
  exact (pe_var hN hv hd hcd).w ⟨v, e1, .now S.mem a1 q⟩
theorem dE_int {i : Int} {j} {Q : Dt → Mu → Prop} (q : Q (.int i) μ) : dE X J (.Constant (.int i) j pos) ρ μ Q := .mk fun _ _ _ _ S => pe_int.w (AfE.now S.mem (.int i) q)
theorem dE_bl {b : Bool} {j} {Q : Dt → Mu → Prop} (q : Q (.bl b) μ) : dE X J (.Constant (.bool b) j pos) ρ μ Q := .mk fun _ _ _ _ S => pe_bl.w (AfE.now S.mem (.bl b) q)
theorem dE_non {j} {Q : Dt → Mu → Prop} (q : Q .non μ) : dE X J (.Constant .none j pos) ρ μ Q := .mk fun _ _ _ _ S => pe_non.w (AfE.now S.mem .non q)
theorem dE_str {x : Str} {j} {Q : Dt → Mu → Prop} (q : Q (.str x) μ) : dE X J (.Constant (.str x) j pos) ρ μ Q := .mk fun _ _ _ _ S => pe_str.w (AfE.now S.mem (.str x) q)
/-- a constant of the module -/
theorem dE_glob {x : Str} {v : V} {u : Value} {Q : Dt → Mu → Prop} (hm : X.mg x = some u) (r : RelV v u) (q : Q (.val v) μ) (hg : Gl X x := by rfl) (hd : (x == ("__debug__" : Str)) = false := by decide) : dE X J (.Name x pos) ρ μ Q := .mk fun _ _ _ _ S =>
  (pe_glob hg hm r hd).w (AfE.now S.mem (.val v) q)
theorem dE_globI {x : Str} {i : Int} {t : Tok} {Q : Dt → Mu → Prop} (hm : X.mg x = some (.int i t)) (q : Q (.int i) μ) (hg : Gl X x := by rfl) (hd : (x == ("__debug__" : Str)) = false := by decide) : dE X J (.Name x pos) ρ μ Q := .mk fun _ _ _ _ S =>
  (pe_glob (v := .int i) hg hm ⟨_, rfl⟩ hd).w (AfE.now S.mem (.int i) q)

/-! ### operators -/
/-- a reading of values told by data -/
def RRel (K : PySem.W.Frag) (r : R2) (RD : Dt → Dt → Mu → (Dt → Mu → Prop) → Prop) : Prop :=
  ∀ (as : List Addr) (G H : Hp) (μ : Mu) (x y : V) (d e : Dt) (Q : Dt → Mu → Prop) (Q' : VK), Mem K as G H μ → At K as G x d → At K as G y e → RD d e μ Q → (∀ v H', AfE K as G H Q v H' → Q' v H') → r x y H Q'
structure OpD (X : Cx) (f : Value → Value → Sem Value) (RD : Dt → Dt → Mu → (Dt → Mu → Prop) → Prop) : Prop where
  ex : ∃ r, OpR X f r ∧ RRel X.K r RD
theorem two {Q : Dt → Dt → Mu → Prop} {as : List Addr} {G : Hp} (S : Sx X J as G H σ ρ μ) (h : dE X J a ρ μ fun d μ1 => dE X J b ρ μ1 fun e μ2 => Q d e μ2) {R : V → V → Hp → Prop}
    (f : ∀ x y d e μ2 as2 G2 H2, Step as G H as2 G2 H2 → Mem X.K as2 G2 H2 μ2 → At X.K as2 G2 x d → At X.K as2 G2 y e → Q d e μ2 → R x y H2) : wE X a σ H fun x H1 => wE X b σ H1 fun y H2 => R x y H2 :=
  wE_mono (h as G H σ S) fun x H1 ⟨d, μ1, as1, G1, s1, m1, a1, q1⟩ => wE_mono (q1 as1 G1 H1 σ (S.step s1 m1)) fun y H2 ⟨e, μ2, as2, G2, s2, m2, a2, q2⟩ =>
    f x y d e μ2 as2 G2 H2 (s1.trans s2) m2 (a1.mono s2.gg s2.ix) a2 q2
theorem dE_bin {op : Operator} {RD : Dt → Dt → Mu → (Dt → Mu → Prop) → Prop} {Q : Dt → Mu → Prop} (ho : OpD X (binaryOp op) RD) (h : dE X J a ρ μ fun d μ1 => dE X J b ρ μ1 fun e μ2 => RD d e μ2 Q) : dE X J (.BinOp a op b pos) ρ μ Q := .mk fun as G H σ S => by
  obtain ⟨r, h1, h2⟩ := ho.ex
  refine (pe_op h1 peW peW).w ?_
  show wE X a σ H fun x H1 => wE X b σ H1 fun y H2 => r x y H2 _
  exact two S h fun x y d e μ2 as2 G2 H2 s m a1 a2 q => h2 as2 G2 H2 μ2 x y d e _ _ m a1 a2 q fun v H' z => z.back s
theorem dE_cmp {op : CmpOp} {RD : Dt → Dt → Mu → (Dt → Mu → Prop) → Prop} {Q : Dt → Mu → Prop} (ho : OpD X (compareOp op) RD) (h : dE X J a ρ μ fun d μ1 => dE X J b ρ μ1 fun e μ2 => RD d e μ2 Q) (hm : behindInMarks op b = false := by first | exact nomark _ | rfl) :
    dE X J (.Compare a [op] [b] pos) ρ μ Q := .mk fun as G H σ S => by
  obtain ⟨r, h1, h2⟩ := ho.ex
  refine (pe_cmpR h1 peW peW hm).w ?_
  show wE X a σ H fun x H1 => wE X b σ H1 fun y H2 => r x y H2 _
  exact two S h fun x y d e μ2 as2 G2 H2 s m a1 a2 q => h2 as2 G2 H2 μ2 x y d e _ _ m a1 a2 q fun v H' z => z.back s
/-- a bool's way -/
def QB (Q : Bool → Mu → Prop) : Dt → Mu → Prop := fun d μ => ∃ k, d = .bl k ∧ Q k μ
theorem AfE.bool {K : PySem.W.Frag} {as : List Addr} {G H : Hp} {Q : Bool → Mu → Prop} {v : V} {H' : Hp} (h : AfE K as G H (QB Q) v H') : ∃ k, v = .bl k ∧ AfT K as G H Q k H' := by
  obtain ⟨d, μ', as', G', s, m, a, k, rfl, q⟩ := h
  cases a
  exact ⟨k, rfl, μ', as', G', s, m, q⟩
theorem dT_cmp {op : CmpOp} {RD : Dt → Dt → Mu → (Dt → Mu → Prop) → Prop} {Q : Bool → Mu → Prop} (ho : OpD X (compareOp op) RD) (h : dE X J a ρ μ fun d μ1 => dE X J b ρ μ1 fun e μ2 => RD d e μ2 (QB Q)) (hm : behindInMarks op b = false := by first | exact nomark _ | rfl) :
    dT X J (.Compare a [op] [b] pos) ρ μ Q := .mk fun as G H σ S => by
  obtain ⟨r, h1, h2⟩ := ho.ex
  refine (pt_cmpR h1 peW peW hm).w ?_
  show wE X a σ H fun x H1 => wE X b σ H1 fun y H2 => r x y H2 _
  exact two S h fun x y d e μ2 as2 G2 H2 s m a1 a2 q => h2 as2 G2 H2 μ2 x y d e _ _ m a1 a2 q fun v H' z => by
    obtain ⟨k, e, t⟩ := z.bool
    exact ⟨k, e, t.back s⟩
theorem dE_chain {op op' : CmpOp} {RD RD' : Dt → Dt → Mu → (Dt → Mu → Prop) → Prop} {Q : Dt → Mu → Prop} (ho : OpD X (compareOp op) RD) (ho' : OpD X (compareOp op') RD')
    (h : dE X J a ρ μ fun d μ1 => dE X J b ρ μ1 fun e μ2 => RD d e μ2 (QB fun k μ3 => if k = true then dE X J c ρ μ3 fun f μ4 => RD' e f μ4 Q else Q (.bl false) μ3)) (hm : lastMarks [op, op'] [b, c] = false := by with_unfolding_all rfl) :
    dE X J (.Compare a [op, op'] [b, c] pos) ρ μ Q := .mk fun as G H σ S => by
  obtain ⟨r, h1, h2⟩ := ho.ex
  obtain ⟨r', h1', h2'⟩ := ho'.ex
  refine (pe_chain h1 h1' peW peW peW hm).w ?_
  show wE X a σ H fun x H1 => wE X b σ H1 fun y H2 => r x y H2 fun z H3 => ∃ k, z = .bl k ∧ (if k = true then wE X c σ H3 fun w' H4 => r' y w' H4 _ else _)
  refine two S h fun x y d e μ2 as2 G2 H2 s m a1 a2 q => h2 as2 G2 H2 μ2 x y d e _ _ m a1 a2 q fun v H' z => ?_
  obtain ⟨k, e1, μ3, as3, G3, s3, m3, q3⟩ := z.bool
  refine ⟨k, e1, ?_⟩
  cases k with
  | false =>
    rw [if_neg Bool.false_ne_true] at q3 ⊢
    exact ⟨.bl false, μ3, as3, G3, s.trans s3, m3, .bl false, q3⟩
  | true =>
    rw [if_pos rfl] at q3 ⊢
    refine wE_mono (q3 as3 G3 H' σ (S.step (s.trans s3) m3)) fun w H4 ⟨f, μ4, as4, G4, s4, m4, a4, q4⟩ => h2' as4 G4 H4 μ4 y w e f _ _ m4 ((a2.mono s3.gg s3.ix).mono s4.gg s4.ix) a4 q4 fun v H5 z5 => z5.back ((s.trans s3).trans s4)
theorem dT_chain {op op' : CmpOp} {RD RD' : Dt → Dt → Mu → (Dt → Mu → Prop) → Prop} {Q : Bool → Mu → Prop} (ho : OpD X (compareOp op) RD) (ho' : OpD X (compareOp op') RD')
    (h : dE X J a ρ μ fun d μ1 => dE X J b ρ μ1 fun e μ2 => RD d e μ2 (QB fun k μ3 => if k = true then dE X J c ρ μ3 fun f μ4 => RD' e f μ4 (QB Q) else Q false μ3)) (hm : lastMarks [op, op'] [b, c] = false := by with_unfolding_all rfl) :
    dT X J (.Compare a [op, op'] [b, c] pos) ρ μ Q := .mk fun as G H σ S => by
  obtain ⟨r, h1, h2⟩ := ho.ex
  obtain ⟨r', h1', h2'⟩ := ho'.ex
  refine (pt_chain h1 h1' peW peW peW hm).w ?_
  show wE X a σ H fun x H1 => wE X b σ H1 fun y H2 => r x y H2 fun z H3 => ∃ k, z = .bl k ∧ (if k = true then wE X c σ H3 fun w' H4 => r' y w' H4 _ else _)
  refine two S h fun x y d e μ2 as2 G2 H2 s m a1 a2 q => h2 as2 G2 H2 μ2 x y d e _ _ m a1 a2 q fun v H' z => ?_
  obtain ⟨k, e1, μ3, as3, G3, s3, m3, q3⟩ := z.bool
  refine ⟨k, e1, ?_⟩
  cases k with
  | false =>
    rw [if_neg Bool.false_ne_true] at q3 ⊢
    exact ⟨false, rfl, μ3, as3, G3, s.trans s3, m3, q3⟩
  | true =>
    rw [if_pos rfl] at q3 ⊢
    refine wE_mono (q3 as3 G3 H' σ (S.step (s.trans s3) m3)) fun w H4 ⟨f, μ4, as4, G4, s4, m4, a4, q4⟩ => h2' as4 G4 H4 μ4 y w e f _ _ m4 ((a2.mono s3.gg s3.ix).mono s4.gg s4.ix) a4 q4 fun v H5 z5 => ?_
    obtain ⟨k', e', t⟩ := z5.bool
    exact ⟨k', e', t.back ((s.trans s3).trans s4)⟩
def rdI (C : Int → Int → Prop) (g : Int → Int → Dt) : Dt → Dt → Mu → (Dt → Mu → Prop) → Prop := fun d e μ Q => ∃ i j, d = .int i ∧ e = .int j ∧ C i j ∧ Q (g i j) μ
def rdI0 (g : Int → Int → Dt) : Dt → Dt → Mu → (Dt → Mu → Prop) → Prop := fun d e μ Q => ∃ i j, d = .int i ∧ e = .int j ∧ Q (g i j) μ
theorem rrI {K : PySem.W.Frag} {C : Int → Int → Prop} {g : Int → Int → Int} : RRel K (rI C fun i j => .int (g i j)) (rdI C fun i j => .int (g i j)) := by
  intro as G H μ x y d e Q Q' m a1 a2 h f
  obtain ⟨i, j, rfl, rfl, hc, q⟩ := h
  cases a1
  cases a2
  exact ⟨i, j, rfl, rfl, hc, f _ _ (.now m (.int _) q)⟩
theorem rrI0 {K : PySem.W.Frag} {g : Int → Int → Int} : RRel K (rI0 fun i j => .int (g i j)) (rdI0 fun i j => .int (g i j)) := by
  intro as G H μ x y d e Q Q' m a1 a2 h f
  obtain ⟨i, j, rfl, rfl, q⟩ := h
  cases a1
  cases a2
  exact ⟨i, j, rfl, rfl, f _ _ (.now m (.int _) q)⟩
theorem rrB0 {K : PySem.W.Frag} {g : Int → Int → Bool} : RRel K (rI0 fun i j => .bl (g i j)) (rdI0 fun i j => .bl (g i j)) := by
  intro as G H μ x y d e Q Q' m a1 a2 h f
  obtain ⟨i, j, rfl, rfl, q⟩ := h
  cases a1
  cases a2
  exact ⟨i, j, rfl, rfl, f _ _ (.now m (.bl _) q)⟩
theorem od_add : OpD X (binaryOp .Add) (rdI0 fun i j => .int (i + j)) := ⟨_, op_add, rrI0⟩
theorem od_sub : OpD X (binaryOp .Sub) (rdI0 fun i j => .int (i - j)) := ⟨_, op_sub, rrI0⟩
theorem od_mul : OpD X (binaryOp .Mult) (rdI CMul fun i j => .int (i * j)) := ⟨_, op_mul, rrI⟩
theorem od_fdiv : OpD X (binaryOp .FloorDiv) (rdI CDiv fun i j => .int (i / j)) := ⟨_, op_fdiv, rrI⟩
theorem od_fdivN : OpD X (binaryOp .FloorDiv) (rdI CDivN fun i j => .int (i.fdiv j)) := ⟨_, op_fdivN, rrI⟩
theorem od_mod : OpD X (binaryOp .Mod) (rdI (fun _ j => 0 < j) fun i j => .int (i % j)) := ⟨_, op_mod, rrI⟩
theorem od_modN : OpD X (binaryOp .Mod) (rdI (fun _ j => j ≠ 0) fun i j => .int (i.fmod j)) := ⟨_, op_modN, rrI⟩
theorem od_pow : OpD X (binaryOp .Pow) (rdI CPow fun i j => .int (i ^ j.toNat)) := ⟨_, op_pow, rrI⟩
theorem od_shl : OpD X (binaryOp .LShift) (rdI CPow fun i j => .int (i * 2 ^ j.toNat)) := ⟨_, op_shl, rrI⟩
theorem od_shr : OpD X (binaryOp .RShift) (rdI (fun _ j => 0 ≤ j) fun i j => .int (i / 2 ^ j.toNat)) := ⟨_, op_shr, rrI⟩
theorem od_and : OpD X (binaryOp .BitAnd) (rdI0 fun i j => .int (Builtin.bitAnd i j)) := ⟨_, op_and, rrI0⟩
theorem od_lt : OpD X (compareOp .Lt) (rdI0 fun i j => .bl (decide (i < j))) := ⟨_, op_lt, rrB0⟩
theorem od_le : OpD X (compareOp .LtE) (rdI0 fun i j => .bl (decide (i ≤ j))) := ⟨_, op_le, rrB0⟩
theorem od_gt : OpD X (compareOp .Gt) (rdI0 fun i j => .bl (decide (j < i))) := ⟨_, op_gt, rrB0⟩
theorem od_ge : OpD X (compareOp .GtE) (rdI0 fun i j => .bl (decide (j ≤ i))) := ⟨_, op_ge, rrB0⟩
/-- == of scalars of one kind -/
def flatEq : Dt → Dt → Option Bool
  | .int i, .int j => some (i == j)
  | .bl i, .bl j => some (i == j)
  | .str i, .str j => some (i == j)
  | .non, .non => some true
  | .non, .int _ | .int _, .non | .non, .bl _ | .bl _, .non | .non, .str _ | .str _, .non | .int _, .str _ | .str _, .int _ | .bl _, .str _ | .str _, .bl _ => some false
  | _, _ => none
theorem od_eqF : OpD X (compareOp .Eq) (fun d e μ Q => ∃ b, flatEq d e = some b ∧ Q (.bl b) μ) := by
  refine ⟨_, op_eq, ?_⟩
  intro as G H μ x y d e Q Q' m a1 a2 h f
  obtain ⟨b, hb, q⟩ := h
  cases a1 <;> cases a2 <;> simp [flatEq] at hb <;> subst hb <;> refine ⟨rfl, f _ _ ?_⟩ <;> first
    | (rw [dec_int]; exact .now m (.bl _) q)
    | (rw [dec_bl]; exact .now m (.bl _) q)
    | (rw [dec_str]; exact .now m (.bl _) q)
    | exact .now m (.bl _) q
theorem od_neF : OpD X (compareOp .NotEq) (fun d e μ Q => ∃ b, flatEq d e = some b ∧ Q (.bl (!b)) μ) := by
  refine ⟨_, op_ne, ?_⟩
  intro as G H μ x y d e Q Q' m a1 a2 h f
  obtain ⟨b, hb, q⟩ := h
  cases a1 <;> cases a2 <;> simp [flatEq] at hb <;> subst hb <;> refine ⟨rfl, f _ _ ?_⟩ <;> first
    | (rw [dec_int]; exact .now m (.bl _) q)
    | (rw [dec_bl]; exact .now m (.bl _) q)
    | (rw [dec_str]; exact .now m (.bl _) q)
    | exact .now m (.bl _) q
/-- is None -/
def isNon : Dt → Bool
  | .non => true
  | _ => false
theorem od_isN : OpD X (compareOp .Is) (fun d e μ Q => e = .non ∧ (∀ v, d ≠ .val v) ∧ Q (.bl (isNon d)) μ) := by
  refine ⟨_, op_isN, ?_⟩
  intro as G H μ x y d e Q Q' m a1 a2 h f
  obtain ⟨rfl, hv, q⟩ := h
  cases a2
  refine ⟨rfl, f _ _ ?_⟩
  cases a1 <;> first
    | exact absurd rfl (hv _)
    | exact .now m (.bl _) q
theorem od_notN : OpD X (compareOp .IsNot) (fun d e μ Q => e = .non ∧ (∀ v, d ≠ .val v) ∧ Q (.bl (!isNon d)) μ) := by
  refine ⟨_, op_notN, ?_⟩
  intro as G H μ x y d e Q Q' m a1 a2 h f
  obtain ⟨rfl, hv, q⟩ := h
  cases a2
  refine ⟨rfl, f _ _ ?_⟩
  cases a1 <;> first
    | exact absurd rfl (hv _)
    | exact .now m (.bl _) q
theorem dE_neg {Q : Dt → Mu → Prop} (h : dE X J a ρ μ fun d μ1 => ∃ i, d = .int i ∧ Q (.int (-i)) μ1) : dE X J (.UnaryOp .USub a pos) ρ μ Q := .mk fun as G H σ S => by
  refine (pe_un un_neg peW).w ?_
  show wE X a σ H fun x H1 => rU _ x H1 _
  refine wE_mono (h as G H σ S) fun x H1 ⟨d, μ1, as1, G1, s1, m1, a1, i, e, q⟩ => ?_
  subst e
  cases a1
  exact ⟨i, rfl, .int (-i), μ1, as1, G1, s1, m1, .int _, q⟩

/-! ### tests and truth -/
theorem dT_val {Q : Bool → Mu → Prop} (h : dE X J e ρ μ (QB Q)) (he : ∀ whole, isTrue e X.env whole = (do let v ← whole; standAt e.pos; holding [v] (truthy v)) := by intro _; rfl) : dT X J e ρ μ Q := .mk fun as G H σ S => by
  refine (pt_val peW he).w ?_
  show wE X e σ H fun x H1 => ∃ c, x = .bl c ∧ _
  exact wE_mono (h as G H σ S) fun x H1 z => z.bool
/-- a value's truth -/
def truD : Dt → Option Bool
  | .non => some false
  | .bl b => some b
  | .int i => some (i != 0)
  | .lst xs => some (!xs.isEmpty)
  | .tup xs => some (!xs.isEmpty)
  | _ => none
theorem Ats.empty {K : PySem.W.Frag} {as : List Addr} {G : Hp} {xs : List V} {ds : List Dt} (h : Ats K as G xs ds) : xs.isEmpty = ds.isEmpty := by cases h <;> rfl
theorem dT_truth {Q : Bool → Mu → Prop} (h : dE X J e ρ μ fun d μ1 => ∃ b, truD d = some b ∧ Q b μ1) (he : ∀ whole, isTrue e X.env whole = (do let v ← whole; standAt e.pos; holding [v] (truthy v)) := by intro _; rfl) : dT X J e ρ μ Q := .mk fun as G H σ S => by
  refine (pt_truth peW he).w ?_
  show wE X e σ H fun x H1 => ∃ k, TruV X.K x H1 k ∧ _
  refine wE_mono (h as G H σ S) fun x H1 ⟨d, μ1, as1, G1, s1, m1, a1, b, e, q⟩ => ?_
  refine ⟨b, ?_, μ1, as1, G1, s1, m1, q⟩
  cases a1 <;> (try simp only [truD, reduceCtorEq] at e) <;> (try (simp only [truD, Option.some.injEq] at e; subst e))
  · rfl
  · rfl
  · rfl
  · rename_i h1 h2 _
    exact .inl ⟨_, m1.same.seq h1, by rw [h2.empty]⟩
  · rename_i h1 h2 _
    exact .inr (.inl ⟨_, Same.tup m1.same h1, by rw [h2.empty]⟩)
theorem dT_not {Q : Bool → Mu → Prop} (h : dT X J a ρ μ fun b μ1 => Q (!b) μ1) : dT X J (.UnaryOp .Not a pos) ρ μ Q := .mk fun as G H σ S => by
  refine (pt_not ptW).w ?_
  show wT X a σ H fun c H1 => _
  exact wT_mono (h as G H σ S) fun c H1 z => z
theorem dE_not {Q : Dt → Mu → Prop} (h : dE X J a ρ μ (QB fun b μ1 => Q (.bl (!b)) μ1)) : dE X J (.UnaryOp .Not a pos) ρ μ Q := .mk fun as G H σ S => by
  refine (pe_not peW).w ?_
  show wE X a σ H fun x H1 => ∃ c, x = .bl c ∧ _
  refine wE_mono (h as G H σ S) fun x H1 z => ?_
  obtain ⟨k, e, μ', as', G', s, m, q⟩ := z.bool
  exact ⟨k, e, .bl (!k), μ', as', G', s, m, .bl _, q⟩
/-- and, or as values, all but the last bools -/
theorem dE_one {op} {Q : Dt → Mu → Prop} (h : dE X J a ρ μ Q) : dE X J (.BoolOp op [a] pos) ρ μ Q := .mk fun as G H σ S => (pe_one peW).w (h as G H σ S)
theorem dE_and {r : List Expr} {Q : Dt → Mu → Prop} (h : dE X J a ρ μ (QB fun k μ1 => if k = true then dE X J (.BoolOp .And (b :: r) pos) ρ μ1 Q else Q (.bl false) μ1)) : dE X J (.BoolOp .And (a :: b :: r) pos) ρ μ Q := .mk fun as G H σ S => by
  refine (pe_and peW peW).w ?_
  show wE X a σ H fun x H1 => ∃ c, x = .bl c ∧ if c = true then wE X _ σ H1 _ else _
  refine wE_mono (h as G H σ S) fun x H1 z => ?_
  obtain ⟨k, e, μ', as', G', s, m, q⟩ := z.bool
  refine ⟨k, e, ?_⟩
  cases k with
  | false =>
    rw [if_neg Bool.false_ne_true] at q ⊢
    exact ⟨.bl false, μ', as', G', s, m, .bl _, q⟩
  | true =>
    rw [if_pos rfl] at q ⊢
    exact wE_mono (q as' G' H1 σ (S.step s m)) fun v H2 z => z.back s
theorem dE_or {r : List Expr} {Q : Dt → Mu → Prop} (h : dE X J a ρ μ (QB fun k μ1 => if k = true then Q (.bl true) μ1 else dE X J (.BoolOp .Or (b :: r) pos) ρ μ1 Q)) : dE X J (.BoolOp .Or (a :: b :: r) pos) ρ μ Q := .mk fun as G H σ S => by
  refine (pe_or peW peW).w ?_
  show wE X a σ H fun x H1 => ∃ c, x = .bl c ∧ if c = true then _ else wE X _ σ H1 _
  refine wE_mono (h as G H σ S) fun x H1 z => ?_
  obtain ⟨k, e, μ', as', G', s, m, q⟩ := z.bool
  refine ⟨k, e, ?_⟩
  cases k with
  | true =>
    rw [if_pos rfl] at q ⊢
    exact ⟨.bl true, μ', as', G', s, m, .bl _, q⟩
  | false =>
    rw [if_neg Bool.false_ne_true] at q ⊢
    exact wE_mono (q as' G' H1 σ (S.step s m)) fun v H2 z => z.back s
theorem dT_bool {Q : Bool → Mu → Prop} (h : dW X J e ρ μ Q) : dT X J e ρ μ Q := .mk fun as G H σ S => (pwW (X := X) (e := e)).pt.w (h as G H σ S)
theorem dW_and1 {Q : Bool → Mu → Prop} (h : dT X J a ρ μ Q) : dW X J (.BoolOp .And [a] pos) ρ μ Q := .mk fun as G H σ S => (pw_and1 ptW).w (h as G H σ S)
theorem dW_or1 {Q : Bool → Mu → Prop} (h : dT X J a ρ μ Q) : dW X J (.BoolOp .Or [a] pos) ρ μ Q := .mk fun as G H σ S => (pw_or1 ptW).w (h as G H σ S)
theorem dW_and {r : List Expr} {Q : Bool → Mu → Prop} (h : dT X J a ρ μ fun k μ1 => if k = true then dW X J (.BoolOp .And (b :: r) pos) ρ μ1 Q else Q false μ1) : dW X J (.BoolOp .And (a :: b :: r) pos) ρ μ Q := .mk fun as G H σ S => by
  refine (pw_and ptW pwW).w ?_
  show wT X a σ H fun c H1 => if c = true then wW X _ σ H1 _ else _
  refine wT_mono (h as G H σ S) fun k H1 ⟨μ', as', G', s, m, q⟩ => ?_
  cases k with
  | false =>
    rw [if_neg Bool.false_ne_true] at q ⊢
    exact ⟨μ', as', G', s, m, q⟩
  | true =>
    rw [if_pos rfl] at q ⊢
    exact wW_mono (q as' G' H1 σ (S.step s m)) fun v H2 z => z.back s
theorem dW_or {r : List Expr} {Q : Bool → Mu → Prop} (h : dT X J a ρ μ fun k μ1 => if k = true then Q true μ1 else dW X J (.BoolOp .Or (b :: r) pos) ρ μ1 Q) : dW X J (.BoolOp .Or (a :: b :: r) pos) ρ μ Q := .mk fun as G H σ S => by
  refine (pw_or ptW pwW).w ?_
  show wT X a σ H fun c H1 => if c = true then _ else wW X _ σ H1 _
  refine wT_mono (h as G H σ S) fun k H1 ⟨μ', as', G', s, m, q⟩ => ?_
  cases k with
  | true =>
    rw [if_pos rfl] at q ⊢
    exact ⟨μ', as', G', s, m, q⟩
  | false =>
    rw [if_neg Bool.false_ne_true] at q ⊢
    exact wW_mono (q as' G' H1 σ (S.step s m)) fun v H2 z => z.back s
theorem dE_ifExp {Q : Dt → Mu → Prop} (h : dT X J c ρ μ fun k μ1 => if k = true then dE X J a ρ μ1 Q else dE X J b ρ μ1 Q) : dE X J (.IfExp c a b pos) ρ μ Q := .mk fun as G H σ S => by
  refine (pe_ifExp ptW peW peW).w ?_
  show wT X c σ H fun k H1 => if k = true then wE X a σ H1 _ else wE X b σ H1 _
  refine wT_mono (h as G H σ S) fun k H1 ⟨μ', as', G', s, m, q⟩ => ?_
  cases k with
  | true =>
    rw [if_pos rfl] at q ⊢
    exact wE_mono (q as' G' H1 σ (S.step s m)) fun v H2 z => z.back s
  | false =>
    rw [if_neg Bool.false_ne_true] at q ⊢
    exact wE_mono (q as' G' H1 σ (S.step s m)) fun v H2 z => z.back s

/-! ### arguments, displays -/
theorem dA_nil {Q : List Dt → Mu → Prop} (q : Q [] μ) : dA X J [] ρ μ Q := .mk fun as G H σ S => pa_nil.w ⟨[], μ, as, G, .refl _ _ _, S.mem, .nil, q⟩
theorem dA_cons {Q : List Dt → Mu → Prop} (h : dE X J e ρ μ fun d μ1 => dA X J es ρ μ1 fun ds μ2 => Q (d :: ds) μ2) (hs : starEach (e :: es) X.env = (false, eval e X.env) :: starEach es X.env := by rfl) : dA X J (e :: es) ρ μ Q := .mk fun as G H σ S => by
  refine (pa_cons peW paW hs).w ?_
  show wE X e σ H fun x H1 => wA X es σ H1 fun xs H2 => _
  exact wE_mono (h as G H σ S) fun x H1 ⟨d, μ1, as1, G1, s1, m1, a1, q1⟩ => wA_mono (q1 as1 G1 H1 σ (S.step s1 m1)) fun xs H2 ⟨ds, μ2, as2, G2, s2, m2, a2, q2⟩ =>
    ⟨d :: ds, μ2, as2, G2, s1.trans s2, m2, .cons (a1.mono s2.gg s2.ix) a2, q2⟩
/-- a new tuple, a new list (frozen), a new list that will change -/
theorem dE_tup {x1} {Q : Dt → Mu → Prop} (h : dA X J es ρ μ fun ds μ1 => ds.length ≤ sizeLine ∧ Q (.tup ds) μ1) : dE X J (.Tuple es x1 pos) ρ μ Q := .mk fun as G H σ S => by
  refine (pe_tup paW).w ?_
  show wA X es σ H fun xs H1 => _
  refine wA_mono (h as G H σ S) fun xs H1 ⟨ds, μ1, as1, G1, s1, m1, a1, hl, q⟩ => ⟨by rw [a1.length]; exact hl, fun p hp => ?_⟩
  exact ⟨.tup ds, μ1, as1, upd G1 p (.tup xs), s1.trans (.lay m1 hp), m1.lay hp, .tup (.of upd_same) (a1.mono (same_upd_none (m1.same.free hp)) fun _ _ h => h), q⟩
theorem dE_lst {Q : Dt → Mu → Prop} (h : dA X J es ρ μ fun ds μ1 => ds.length ≤ sizeLine ∧ Q (.lst ds) μ1) : dE X J (.List es pos) ρ μ Q := .mk fun as G H σ S => by
  refine (pe_lst paW).w ?_
  show wA X es σ H fun xs H1 => _
  refine wA_mono (h as G H σ S) fun xs H1 ⟨ds, μ1, as1, G1, s1, m1, a1, hl, q⟩ => ⟨by rw [a1.length]; exact hl, fun p hp => ?_⟩
  exact ⟨.lst ds, μ1, as1, upd G1 p (.lst xs), s1.trans (.lay m1 hp), m1.lay hp, .lst (.of upd_same) (a1.mono (same_upd_none (m1.same.free hp)) fun _ _ h => h), q⟩
theorem dE_lstM {Q : Dt → Mu → Prop} (h : dA X J es ρ μ fun ds μ1 => ds.length ≤ sizeLine ∧ Q (.mut μ1.length) (μ1 ++ [.lst ds])) : dE X J (.List es pos) ρ μ Q := .mk fun as G H σ S => by
  refine (pe_lst paW).w ?_
  show wA X es σ H fun xs H1 => _
  refine wA_mono (h as G H σ S) fun xs H1 ⟨ds, μ1, as1, G1, s1, m1, a1, hl, q⟩ => ⟨by rw [a1.length]; exact hl, fun p hp => ?_⟩
  exact ⟨.mut μ1.length, μ1 ++ [.lst ds], as1 ++ [p], G1, s1.trans (.layM m1 hp), m1.layM (mo := .lst ds) hp ⟨xs, rfl, a1⟩, .mut (by rw [← m1.len]; simp), q⟩
end
end DL

/-! D2: items, fields, calls of built-ins, dicts, what is walked, comprehensions. -/
namespace DL
open PySem PySem.Spec PyProof.Rows L2
section
variable {X : Cx} {J : JX} {e a b c o i : Expr} {es : List Expr} {ρ : Env'} {μ : Mu} {σ : L2.St} {H : Hp} {pos : Pos}

/-- data as a sequence, a mutable list too -/
def seqM (μ : Mu) : Dt → Option (List Dt)
  | .lst xs => some xs
  | .tup xs => some xs
  | .mut k => match μ[k]? with
    | some (.lst xs) => some xs
    | _ => none
  | _ => none
/-- .. as it stands in the heap -/
theorem seq_at {K : PySem.W.Frag} {as : List Addr} {G H : Hp} {μ : Mu} {v : V} {d : Dt} {ds : List Dt} (m : Mem K as G H μ) (a : At K as G v d) (h : seqM μ d = some ds) :
    ∃ p xs, v = .ref p ∧ Ats K as G xs ds ∧ ((SqL K H p xs ∧ ∀ zs, d ≠ .tup zs) ∨ (SqT K H p xs ∧ ∃ zs, d = .tup zs)) := by
  cases a <;> simp only [seqM, reduceCtorEq] at h
  · cases h
    rename_i h1 h2
    exact ⟨_, _, rfl, h2, .inl ⟨m.same.seq h1, fun _ z => by cases z⟩⟩
  · cases h
    rename_i h1 h2
    exact ⟨_, _, rfl, h2, .inr ⟨Same.tup m.same h1, _, rfl⟩⟩
  · rename_i k p h1
    cases e : μ[k]? with
    | none => rw [e] at h; simp at h
    | some mo =>
      rw [e] at h
      cases mo with
      | lst xs =>
        simp at h
        subst h
        obtain ⟨p', o', e1, e2, e3, e4⟩ := m.cell k _ e (by simp)
        rw [h1] at e1; cases e1
        obtain ⟨ys, rfl, e5⟩ := e3
        exact ⟨p, ys, rfl, e5, .inl ⟨.of e2, fun _ z => by cases z⟩⟩
      | dic es => simp at h
      | ins C fs => simp at h
      | gone => simp at h
      | cell n c oc d => simp at h
      | tab n P q => simp at h
theorem Ats.atI {K : PySem.W.Frag} {as : List Addr} {G : Hp} {xs : List V} {ds : List Dt} {i : Int} {x : Dt} (h : Ats K as G xs ds) (e : atI ds i = some x) : ∃ v, L2.atI xs i = some v ∧ At K as G v x := by
  unfold L2.atI at e ⊢
  rw [h.length]
  cases q : ixN ds.length i with
  | none => rw [q] at e; simp at e
  | some j =>
    rw [q] at e
    simp only [Option.bind_some] at e ⊢
    exact h.got e
/-- a[b] of a list, a tuple -/
theorem dE_idx {Q : Dt → Mu → Prop} (h : dE X J a ρ μ fun d μ1 => dE X J b ρ μ1 fun e μ2 => ∃ i ds x, e = .int i ∧ seqM μ2 d = some ds ∧ atI ds i = some x ∧ Q x μ2) (hs : PlainIx b := by exact fun _ _ => rfl) : dE X J (.Subscript a b pos) ρ μ Q := .mk fun as G H σ S => by
  refine (pe_ix ix_seq peW peW hs).w ?_
  show wE X a σ H fun x H1 => wE X b σ H1 fun y H2 => rIx X.K x y H2 _
  refine two S h fun x y d e μ2 as2 G2 H2 s m a1 a2 ⟨i, ds, z, e1, e2, e3, q⟩ => ?_
  subst e1
  cases a2
  obtain ⟨p, xs, rfl, hx, hq⟩ := seq_at m a1 e2
  obtain ⟨v, h1, h2⟩ := hx.atI e3
  have fin : AfE X.K as G H Q v H2 := ⟨z, μ2, as2, G2, s, m, h2, q⟩
  rcases hq with ⟨hq, _⟩ | ⟨hq, _⟩
  · exact .inl ⟨p, xs, i, v, rfl, rfl, hq, h1, fin⟩
  · exact .inr (.inl ⟨p, xs, i, v, rfl, rfl, hq, h1, fin⟩)
/-- s[i] of a text -/
theorem dE_idxS {Q : Dt → Mu → Prop} (h : dE X J a ρ μ fun d μ1 => dE X J b ρ μ1 fun e μ2 => ∃ z i c, d = .str z ∧ e = .int i ∧ z.length ≤ sizeLine ∧ atI z.cps.toList i = some c ∧ Q (.str ⟨#[c]⟩) μ2) (hs : PlainIx b := by exact fun _ _ => rfl) : dE X J (.Subscript a b pos) ρ μ Q := .mk fun as G H σ S => by
  refine (pe_ix ix_seq peW peW hs).w ?_
  show wE X a σ H fun x H1 => wE X b σ H1 fun y H2 => rIx X.K x y H2 _
  refine two S h fun x y d e μ2 as2 G2 H2 s m a1 a2 ⟨z, i, c, e1, e2, e3, e4, q⟩ => ?_
  subst e1 e2
  cases a1
  cases a2
  exact .inr (.inr ⟨z, i, c, rfl, rfl, e3, e4, .str _, μ2, as2, G2, s, m, .str _, q⟩)
theorem Fts.look {K : PySem.W.Frag} {as : List Addr} {G : Hp} {f : Str} : ∀ {fs : List (Str × V)} {gs : List (Str × Dt)} {x : Dt}, Fts K as G fs gs → gs.lookup f = some x → ∃ v, fs.lookup f = some v ∧ At K as G v x
  | _, _, _, .nil, h => by simp at h
  | _, _, x, .cons (f := g) a t, h => by
    by_cases e : f = g
    · subst e
      simp [List.lookup] at h ⊢
      subst h
      exact a
    · have e' : (f == g) = false := by simpa using e
      simp [List.lookup, e'] at h ⊢
      exact Fts.look t h
/-- a.f of an instance -/
theorem dE_fld {C : Addr} {f : Str} {Q : Dt → Mu → Prop} (cl : Cls X.K C) (hn : NoAttr X.K C f) (h : dE X J a ρ μ fun d μ1 => ∃ gs x, d = .obj C gs ∧ gs.lookup f = some x ∧ Q x μ1) (hb : attributeBase a f X.env (eval a X.env) = eval a X.env := by rfl) : dE X J (.Attribute a f pos) ρ μ Q := .mk fun as G H σ S => by
  refine (pe_fld peW hb).w ?_
  show wE X a σ H fun x H1 => ∃ p C dx fs v, x = .ref p ∧ H1 p = some (.ins C dx fs) ∧ Cls X.K C ∧ NoAttr X.K C f ∧ fs.lookup f = some v ∧ _
  refine wE_mono (h as G H σ S) fun x H1 ⟨d, μ1, as1, G1, s1, m1, a1, gs, x', e1, e2, q⟩ => ?_
  subst e1
  cases a1 with
  | obj h1 h2 =>
    obtain ⟨v, h3, h4⟩ := h2.look e2
    exact ⟨_, C, _, _, v, rfl, m1.same _ _ h1, cl, hn, h3, x', μ1, as1, G1, s1, m1, h4, q⟩

/-! ### calls of built-ins -/
def CRel (K : PySem.W.Frag) (r : List V → Hp → VK → Prop) (RD : List Dt → Mu → (Dt → Mu → Prop) → Prop) : Prop :=
  ∀ (as : List Addr) (G H : Hp) (μ : Mu) (xs : List V) (ds : List Dt) (Q : Dt → Mu → Prop) (Q' : VK), Mem K as G H μ → Ats K as G xs ds → RD ds μ Q → (∀ v H', AfE K as G H Q v H' → Q' v H') → r xs H Q'
structure CallD (X : Cx) (f : Value) (RD : List Dt → Mu → (Dt → Mu → Prop) → Prop) : Prop where
  ex : ∃ r, CallR X f r ∧ CRel X.K r RD
theorem dE_callB {x : Str} {p : Pos} {id : String} {RD : List Dt → Mu → (Dt → Mu → Prop) → Prop} {Q : Dt → Mu → Prop} (hc : CallD X (.builtin id) RD) (hm : X.mg x = none) (h : dA X J (e :: es) ρ μ fun ds μ1 => RD ds μ1 Q) (hv : bootBuiltins x = some (.builtin id) := by decide +kernel)
    (hg : Gl X x := by rfl) (hn : x ≠ "__name__" := by decide) (hdb : (x == ("__debug__" : Str)) = false := by decide)
    (he : starEach (e :: es) X.env = (false, eval e X.env) :: starEach es X.env := by rfl) (hpl : (backTo pos (starEach es X.env)).any (·.1) = false := by rfl) : dE X J (.Call (.Name x p) (e :: es) [] pos) ρ μ Q := .mk fun as G H σ S => by
  obtain ⟨r, h1, h2⟩ := hc.ex
  refine (pe_callB h1 hg hm hv paW hn hdb he hpl).w ?_
  show wA X _ σ H fun vs H1 => r vs H1 _
  exact wA_mono (h as G H σ S) fun xs H1 ⟨ds, μ1, as1, G1, s1, m1, a1, q⟩ => h2 as1 G1 H1 μ1 xs ds _ _ m1 a1 q fun v H' z => z.back s1
theorem dE_callTy {x : Str} {p : Pos} {T : String} {RD : List Dt → Mu → (Dt → Mu → Prop) → Prop} {Q : Dt → Mu → Prop} (hc : CallD X (.type T) RD) (hm : X.mg x = none) (h : dA X J (e :: es) ρ μ fun ds μ1 => RD ds μ1 Q) (hv : bootBuiltins x = some (.type T) := by decide +kernel)
    (hg : Gl X x := by rfl) (hn : x ≠ "__name__" := by decide) (hdb : (x == ("__debug__" : Str)) = false := by decide)
    (he : starEach (e :: es) X.env = (false, eval e X.env) :: starEach es X.env := by rfl) (hpl : (backTo pos (starEach es X.env)).any (·.1) = false := by rfl) : dE X J (.Call (.Name x p) (e :: es) [] pos) ρ μ Q := .mk fun as G H σ S => by
  obtain ⟨r, h1, h2⟩ := hc.ex
  refine (pe_callTy h1 hg hm hv paW hn hdb he hpl).w ?_
  show wA X _ σ H fun vs H1 => r vs H1 _
  exact wA_mono (h as G H σ S) fun xs H1 ⟨ds, μ1, as1, G1, s1, m1, a1, q⟩ => h2 as1 G1 H1 μ1 xs ds _ _ m1 a1 q fun v H' z => z.back s1
theorem dE_callTy0 {x : Str} {p : Pos} {T : String} {RD : List Dt → Mu → (Dt → Mu → Prop) → Prop} {Q : Dt → Mu → Prop} (hc : CallD X (.type T) RD) (hm : X.mg x = none) (h : RD [] μ Q) (hv : bootBuiltins x = some (.type T) := by decide +kernel)
    (hg : Gl X x := by rfl) (hn : x ≠ "__name__" := by decide) (hdb : (x == ("__debug__" : Str)) = false := by decide) : dE X J (.Call (.Name x p) [] [] pos) ρ μ Q := .mk fun as G H σ S => by
  obtain ⟨r, h1, h2⟩ := hc.ex
  refine (pe_callTy0 h1 hg hm hv hn hdb).w ?_
  exact h2 as G H μ [] [] _ _ S.mem .nil h fun v H' z => z
/-- a module's name for a built-in -/
theorem dE_callBf {x : Str} {p : Pos} {id : String} {RD : List Dt → Mu → (Dt → Mu → Prop) → Prop} {Q : Dt → Mu → Prop} (hc : CallD X (.builtin id) RD) (hm : X.mg x = some (.builtin id)) (h : dA X J (e :: es) ρ μ fun ds μ1 => RD ds μ1 Q)
    (hg : Gl X x := by rfl) (hdb : (x == ("__debug__" : Str)) = false := by decide)
    (he : starEach (e :: es) X.env = (false, eval e X.env) :: starEach es X.env := by rfl) (hpl : (backTo pos (starEach es X.env)).any (·.1) = false := by rfl) : dE X J (.Call (.Name x p) (e :: es) [] pos) ρ μ Q := .mk fun as G H σ S => by
  obtain ⟨r, h1, h2⟩ := hc.ex
  refine (pe_callBfun h1 hg hm paW hdb he hpl).w ?_
  show wA X _ σ H fun vs H1 => r vs H1 _
  exact wA_mono (h as G H σ S) fun xs H1 ⟨ds, μ1, as1, G1, s1, m1, a1, q⟩ => h2 as1 G1 H1 μ1 xs ds _ _ m1 a1 q fun v H' z => z.back s1
theorem Ats.one {K : PySem.W.Frag} {as : List Addr} {G : Hp} {xs : List V} {d : Dt} (h : Ats K as G xs [d]) : ∃ x, xs = [x] ∧ At K as G x d := by
  cases h with
  | cons a t => cases t; exact ⟨_, rfl, a⟩
theorem Ats.two {K : PySem.W.Frag} {as : List Addr} {G : Hp} {xs : List V} {d e : Dt} (h : Ats K as G xs [d, e]) : ∃ x y, xs = [x, y] ∧ At K as G x d ∧ At K as G y e := by
  cases h with
  | cons a t => obtain ⟨y, rfl, b⟩ := t.one; exact ⟨_, _, rfl, a, b⟩
/-- len -/
def lenM (μ : Mu) : Dt → Option Nat
  | .str z => if z.length ≤ sizeLine then some z.length else none
  | d => (seqM μ d).map (·.length)
theorem cd_len : CallD X (.builtin "len") (fun ds μ Q => ∃ d n, ds = [d] ∧ lenM μ d = some n ∧ Q (.int n) μ) := by
  refine ⟨_, call_len, ?_⟩
  intro as G H μ xs ds Q Q' m a1 h f
  obtain ⟨d, n, rfl, hn, q⟩ := h
  obtain ⟨x, rfl, a2⟩ := a1.one
  refine ⟨x, n, rfl, ?_, f _ _ (.now m (.int _) q)⟩
  by_cases hs : ∃ z, d = .str z
  · obtain ⟨z, rfl⟩ := hs
    cases a2
    simp only [lenM] at hn
    split at hn
    · cases hn
      exact ⟨by assumption, rfl⟩
    · cases hn
  · have hn' : (seqM μ d).map (·.length) = some n := by
      cases d <;> first | exact absurd ⟨_, rfl⟩ hs | exact hn
    cases e : seqM μ d with
    | none => rw [e] at hn'; simp at hn'
    | some ds =>
      rw [e] at hn'
      simp at hn'
      subst hn'
      obtain ⟨p, ys, rfl, hx, hq⟩ := seq_at m a2 e
      rcases hq with ⟨hq, _⟩ | ⟨hq, _⟩
      · exact .inl ⟨ys, hq, hx.length.symm⟩
      · exact .inr ⟨ys, hq, hx.length.symm⟩
theorem cd_int : CallD X (.type "int") (fun ds μ Q => (∃ i, ds = [.int i] ∧ Q (.int i) μ) ∨ ∃ k, ds = [.bl k] ∧ Q (.int (if k then 1 else 0)) μ) := by
  refine ⟨_, call_int1, ?_⟩
  intro as G H μ xs ds Q Q' m a1 h f
  rcases h with ⟨i, rfl, q⟩ | ⟨k, rfl, q⟩
  · obtain ⟨x, rfl, a2⟩ := a1.one
    cases a2
    exact .inl ⟨i, rfl, f _ _ (.now m (.int _) q)⟩
  · obtain ⟨x, rfl, a2⟩ := a1.one
    cases a2
    exact .inr ⟨k, rfl, f _ _ (.now m (.int _) q)⟩
theorem cd_abs : CallD X (.builtin "abs") (fun ds μ Q => ∃ i, ds = [.int i] ∧ Q (.int (if i < 0 then -i else i)) μ) := by
  refine ⟨_, call_abs, ?_⟩
  intro as G H μ xs ds Q Q' m a1 h f
  obtain ⟨i, rfl, q⟩ := h
  obtain ⟨x, rfl, a2⟩ := a1.one
  cases a2
  exact ⟨i, rfl, f _ _ (.now m (.int _) q)⟩
theorem cd_max2 (hc : X.calm = true) : CallD X (.builtin "max") (fun ds μ Q => ∃ i j, ds = [.int i, .int j] ∧ Q (.int (if j > i then j else i)) μ) := by
  refine ⟨_, call_max2 hc, ?_⟩
  intro as G H μ xs ds Q Q' m a1 h f
  obtain ⟨i, j, rfl, q⟩ := h
  obtain ⟨x, y, rfl, a2, a3⟩ := a1.two
  cases a2
  cases a3
  exact ⟨i, j, rfl, f _ _ (.now m (.int _) q)⟩
theorem cd_min2 (hc : X.calm = true) : CallD X (.builtin "min") (fun ds μ Q => ∃ i j, ds = [.int i, .int j] ∧ Q (.int (if j < i then j else i)) μ) := by
  refine ⟨_, call_min2 hc, ?_⟩
  intro as G H μ xs ds Q Q' m a1 h f
  obtain ⟨i, j, rfl, q⟩ := h
  obtain ⟨x, y, rfl, a2, a3⟩ := a1.two
  cases a2
  cases a3
  exact ⟨i, j, rfl, f _ _ (.now m (.int _) q)⟩
theorem cd_gcd : CallD X (.builtin "math.gcd") (fun ds μ Q => ∃ i j, ds = [.int i, .int j] ∧ Q (.int (Int.gcd i j)) μ) := by
  refine ⟨_, cr_gcd, ?_⟩
  intro as G H μ xs ds Q Q' m a1 h f
  obtain ⟨i, j, rfl, q⟩ := h
  obtain ⟨x, y, rfl, a2, a3⟩ := a1.two
  cases a2
  cases a3
  exact ⟨i, j, rfl, f _ _ (.now m (.int _) q)⟩
/-- a new object at the end: frozen -/
theorem AfE.lay {K : PySem.W.Frag} {as : List Addr} {G H : Hp} {μ : Mu} {Q : Dt → Mu → Prop} {d : Dt} {o : HO} {p : Addr} (m : Mem K as G H μ) (hp : H p = none) (a : At K as (upd G p o) (.ref p) d) (q : Q d μ) : AfE K as G H Q (.ref p) (upd H p o) :=
  ⟨d, μ, as, _, .lay m hp, m.lay hp, a, q⟩
theorem AfE.layM {K : PySem.W.Frag} {as : List Addr} {G H : Hp} {μ : Mu} {Q : Dt → Mu → Prop} {mo : Mo} {o : HO} {p : Addr} (m : Mem K as G H μ) (hp : H p = none) (a : MoAt K as G o mo) (q : Q (.mut μ.length) (μ ++ [mo])) : AfE K as G H Q (.ref p) (upd H p o) :=
  ⟨.mut μ.length, μ ++ [mo], as ++ [p], G, .layM m hp, m.layM hp a, .mut (by rw [← m.len]; simp), q⟩
/-- list(xs), new: frozen, or to be changed -/
theorem cd_list : CallD X (.type "list") (fun ds μ Q => ∃ d xs, ds = [d] ∧ seqM μ d = some xs ∧ Q (.lst xs) μ) := by
  refine ⟨_, call_list_of, ?_⟩
  intro as G H μ xs ds Q Q' m a1 h f
  obtain ⟨d, ys, rfl, hs, q⟩ := h
  obtain ⟨x, rfl, a2⟩ := a1.one
  obtain ⟨p, zs, rfl, hx, hq⟩ := seq_at m a2 hs
  exact ⟨p, zs, rfl, hq.imp (·.1) (·.1), fun l hl => f _ _ (.lay m hl (.lst (.of upd_same) (hx.mono (same_upd_none (m.same.free hl)) fun _ _ h => h)) q)⟩
theorem cd_listM : CallD X (.type "list") (fun ds μ Q => ∃ d xs, ds = [d] ∧ seqM μ d = some xs ∧ Q (.mut μ.length) (μ ++ [.lst xs])) := by
  refine ⟨_, call_list_of, ?_⟩
  intro as G H μ xs ds Q Q' m a1 h f
  obtain ⟨d, ys, rfl, hs, q⟩ := h
  obtain ⟨x, rfl, a2⟩ := a1.one
  obtain ⟨p, zs, rfl, hx, hq⟩ := seq_at m a2 hs
  exact ⟨p, zs, rfl, hq.imp (·.1) (·.1), fun l hl => f _ _ (.layM (mo := .lst ys) m hl ⟨zs, rfl, hx⟩ q)⟩
theorem cd_tuple : CallD X (.type "tuple") (fun ds μ Q => ∃ d xs, ds = [d] ∧ seqM μ d = some xs ∧ Q (.tup xs) μ) := by
  refine ⟨_, call_tuple_of, ?_⟩
  intro as G H μ xs ds Q Q' m a1 h f
  obtain ⟨d, ys, rfl, hs, q⟩ := h
  obtain ⟨x, rfl, a2⟩ := a1.one
  obtain ⟨p, zs, rfl, hx, hq⟩ := seq_at m a2 hs
  rcases hq with ⟨hq, _⟩ | ⟨hq, ws, rfl⟩
  · exact ⟨p, zs, rfl, .inl ⟨hq, fun l hl => f _ _ (.lay m hl (.tup (.of upd_same) (hx.mono (same_upd_none (m.same.free hl)) fun _ _ h => h)) q)⟩⟩
  · simp only [seqM, Option.some.injEq] at hs
    subst hs
    exact ⟨p, zs, rfl, .inr ⟨hq, f _ _ (.now m a2 q)⟩⟩

/-! ### methods of a list that changes -/
def MRel (K : PySem.W.Frag) (r : V → List V → Hp → VK → Prop) (RD : Dt → List Dt → Mu → (Dt → Mu → Prop) → Prop) : Prop :=
  ∀ (as : List Addr) (G H : Hp) (μ : Mu) (x : V) (d : Dt) (xs : List V) (ds : List Dt) (Q : Dt → Mu → Prop) (Q' : VK), Mem K as G H μ → At K as G x d → Ats K as G xs ds → RD d ds μ Q → (∀ v H', AfE K as G H Q v H' → Q' v H') → r x xs H Q'
structure MtD (X : Cx) (id : String) (RD : Dt → List Dt → Mu → (Dt → Mu → Prop) → Prop) : Prop where
  ex : ∃ r, MtR X id r ∧ MRel X.K r RD
/-- a list -/
def isL (μ : Mu) (d : Dt) : Prop := (∃ xs, seqM μ d = some xs) ∧ ∀ zs, d ≠ .tup zs
theorem isL_ty {K : PySem.W.Frag} {as : List Addr} {G H : Hp} {μ : Mu} {v : V} {d : Dt} (m : Mem K as G H μ) (a : At K as G v d) (h : isL μ d) : tyV K "list" v H := by
  obtain ⟨⟨xs, hs⟩, ht⟩ := h
  obtain ⟨p, zs, rfl, hx, hq⟩ := seq_at m a hs
  rcases hq with ⟨hq, _⟩ | ⟨hq, ws, e⟩
  · exact .inl ⟨rfl, _, hq⟩
  · exact absurd e (ht ws)
theorem dE_lm {name : Str} {apos cpos : Pos} {id : String} {RD : Dt → List Dt → Mu → (Dt → Mu → Prop) → Prop} {Q : Dt → Mu → Prop} (slot : Slot "list" name id) (hty : typeOf (.builtin id) = pure (.type "method_descriptor")) (hm : MtD X id RD)
    (h : dE X J o ρ μ fun d μ1 => isL μ1 d ∧ dA X J (e :: es) ρ μ1 fun ds μ2 => RD d ds μ2 Q)
    (hbase : attributeBase o name X.env (eval o X.env) = eval o X.env := by rfl)
    (hfew : ((backTo cpos (starEach (e :: es) X.env)).all (fun x => !x.1) && (backToKw cpos (keywordEach [] X.env)).all (fun x => x.1.isSome)
      && decide ((e :: es).length + ([] : List Keyword).length + (if ([] : List Keyword).isEmpty then 0 else 1) < 30)) = true := by rfl)
    (hline : (apos.endLine == cpos.line) = true := by rfl) (hs : starEach (e :: es) X.env = (false, eval e X.env) :: starEach es X.env := by rfl) (hplain : (backTo cpos (starEach es X.env)).any (·.1) = false := by rfl) :
    dE X J (.Call (.Attribute o name apos) (e :: es) [] cpos) ρ μ Q := .mk fun as G H σ S => by
  obtain ⟨r, h1, h2⟩ := hm.ex
  refine (pe_bm PySem.F.plainAttrs_list slot hty h1 peW paW hbase hfew hline hs hplain).w ?_
  show wE X o σ H fun x H1 => tyV X.K "list" x H1 ∧ wA X (e :: es) σ H1 fun xs H2 => r x xs H2 _
  refine wE_mono (h as G H σ S) fun x H1 ⟨d, μ1, as1, G1, s1, m1, a1, hl, q1⟩ => ⟨isL_ty m1 a1 hl, ?_⟩
  exact wA_mono (q1 as1 G1 H1 σ (S.step s1 m1)) fun xs H2 ⟨ds, μ2, as2, G2, s2, m2, a2, q2⟩ => h2 as2 G2 H2 μ2 x d xs ds _ _ m2 (a1.mono s2.gg s2.ix) a2 q2 fun v H' z => z.back (s1.trans s2)
theorem dE_lm0 {name : Str} {apos cpos : Pos} {id : String} {RD : Dt → List Dt → Mu → (Dt → Mu → Prop) → Prop} {Q : Dt → Mu → Prop} (slot : Slot "list" name id) (hty : typeOf (.builtin id) = pure (.type "method_descriptor")) (hm : MtD X id RD)
    (h : dE X J o ρ μ fun d μ1 => isL μ1 d ∧ RD d [] μ1 Q)
    (hbase : attributeBase o name X.env (eval o X.env) = eval o X.env := by rfl) (hline : (apos.endLine == cpos.line) = true := by rfl) :
    dE X J (.Call (.Attribute o name apos) [] [] cpos) ρ μ Q := .mk fun as G H σ S => by
  obtain ⟨r, h1, h2⟩ := hm.ex
  refine (pe_bm0 PySem.F.plainAttrs_list slot hty h1 peW hbase hline).w ?_
  show wE X o σ H fun x H1 => tyV X.K "list" x H1 ∧ r x [] H1 _
  exact wE_mono (h as G H σ S) fun x H1 ⟨d, μ1, as1, G1, s1, m1, a1, hl, q1⟩ => ⟨isL_ty m1 a1 hl, h2 as1 G1 H1 μ1 x d [] [] _ _ m1 a1 .nil q1 fun v H' z => z.back s1⟩
/-- the mutable list number k as it stands -/
theorem mut_at {K : PySem.W.Frag} {as : List Addr} {G H : Hp} {μ : Mu} {v : V} {k : Nat} {ds : List Dt} (m : Mem K as G H μ) (a : At K as G v (.mut k)) (h : μ[k]? = some (.lst ds)) :
    ∃ p xs, v = .ref p ∧ as[k]? = some p ∧ H p = some (.lst xs) ∧ Ats K as G xs ds := by
  cases a with
  | «mut» h1 =>
    obtain ⟨p', o', e1, e2, e3, e4⟩ := m.cell k _ h (by simp)
    rw [h1] at e1; cases e1
    obtain ⟨ys, rfl, e5⟩ := e3
    exact ⟨_, ys, rfl, h1, e2, e5⟩
theorem AfE.put {K : PySem.W.Frag} {as : List Addr} {G H : Hp} {μ : Mu} {Q : Dt → Mu → Prop} {k : Nat} {p : Addr} {o : HO} {mo m0 : Mo} {v : V} {d : Dt} (m : Mem K as G H μ) (hk : as[k]? = some p) (h0 : μ[k]? = some m0) (hg : m0 ≠ .gone) (h : MoAt K as G o mo)
    (a : At K as G v d) (q : Q d (μ.set k mo)) : AfE K as G H Q v (upd H p o) := ⟨d, μ.set k mo, as, G, .put m hk, m.put hk h0 hg h, a, q⟩
theorem md_append : MtD X "list.append" (fun d es μ Q => ∃ k ds y, d = .mut k ∧ es = [y] ∧ μ[k]? = some (.lst ds) ∧ ds.length < sizeLine ∧ Q .non (μ.set k (.lst (ds ++ [y])))) := by
  refine ⟨_, mt_append, ?_⟩
  intro as G H μ x d xs es Q Q' m a1 a2 h f
  obtain ⟨k, ds, y, rfl, rfl, hk, hl, q⟩ := h
  obtain ⟨p, zs, rfl, hp, hH, hz⟩ := mut_at m a1 hk
  obtain ⟨w, rfl, aw⟩ := a2.one
  exact ⟨p, zs, w, rfl, rfl, hH, by rw [hz.length]; exact hl, f _ _ (.put (mo := .lst (ds ++ [y])) m hp hk (by simp) ⟨_, rfl, hz.append (.cons aw .nil)⟩ .non q)⟩
theorem Ats.dropLast {K : PySem.W.Frag} {as : List Addr} {G : Hp} {xs : List V} {ds : List Dt} (h : Ats K as G xs ds) : Ats K as G xs.dropLast ds.dropLast := by
  rw [List.dropLast_eq_take, List.dropLast_eq_take, h.length]
  exact h.take _
theorem md_pop : MtD X "list.pop" (fun d es μ Q => ∃ k ds y, d = .mut k ∧ es = [] ∧ μ[k]? = some (.lst ds) ∧ ds[ds.length - 1]? = some y ∧ Q y (μ.set k (.lst ds.dropLast))) := by
  refine ⟨_, mt_pop, ?_⟩
  intro as G H μ x d xs es Q Q' m a1 a2 h f
  obtain ⟨k, ds, y, rfl, rfl, hk, hy, q⟩ := h
  obtain ⟨p, zs, rfl, hp, hH, hz⟩ := mut_at m a1 hk
  cases a2
  obtain ⟨w, hw, aw⟩ := hz.got hy
  rw [← hz.length] at hw
  exact ⟨p, zs, w, rfl, rfl, hH, hw, f _ _ (.put (mo := .lst ds.dropLast) m hp hk (by simp) ⟨_, rfl, hz.dropLast⟩ aw q)⟩
theorem Ats.eraseIdx {K : PySem.W.Frag} {as : List Addr} {G : Hp} : ∀ {xs : List V} {ds : List Dt} (i : Nat), Ats K as G xs ds → Ats K as G (xs.eraseIdx i) (ds.eraseIdx i)
  | _, _, _, .nil => by simpa using Ats.nil
  | _, _, 0, .cons _ t => t
  | _, _, i + 1, .cons h t => .cons h (Ats.eraseIdx i t)
theorem md_popAt : MtD X "list.pop" (fun d es μ Q => ∃ k ds i j y, d = .mut k ∧ es = [.int i] ∧ μ[k]? = some (.lst ds) ∧ -(2 ^ 63) ≤ i ∧ i < 2 ^ 63 ∧ seqIndex? i ds.length = some j ∧ ds[j]? = some y ∧ Q y (μ.set k (.lst (ds.eraseIdx j)))) := by
  refine ⟨_, mt_popAt, ?_⟩
  intro as G H μ x d xs es Q Q' m a1 a2 h f
  obtain ⟨k, ds, i, j, y, rfl, rfl, hk, h1, h2, hj, hy, q⟩ := h
  obtain ⟨p, zs, rfl, hp, hH, hz⟩ := mut_at m a1 hk
  obtain ⟨w0, rfl, aw0⟩ := a2.one
  cases aw0
  obtain ⟨w, hw, aw⟩ := hz.got hy
  rw [← hz.length] at hj
  exact ⟨p, zs, i, j, w, rfl, rfl, hH, h1, h2, hj, hw, f _ _ (.put (mo := .lst (ds.eraseIdx j)) m hp hk (by simp) ⟨_, rfl, hz.eraseIdx j⟩ aw q)⟩

/-! ### dicts -/
def valD (es : List (Key × Dt)) (k : Key) : Option Dt := (es.find? fun kv => decide (kv.1 = k)).map (·.2)
def putD (es : List (Key × Dt)) (k : Key) (d : Dt) : List (Key × Dt) :=
  if (es.any fun kv => decide (kv.1 = k)) = true then es.map (fun kv => if kv.1 = k then (kv.1, d) else kv) else es ++ [(k, d)]
def keyD : Key → Dt
  | .inl i => .int i
  | .inr x => .str x
theorem Kts.val {K : PySem.W.Frag} {as : List Addr} {G : Hp} {k : Key} : ∀ {kvs : List (Key × V)} {es : List (Key × Dt)}, Kts K as G kvs es → (valD es k = none ∧ valV kvs k = none) ∨ ∃ d v, valD es k = some d ∧ valV kvs k = some v ∧ At K as G v d
  | _, _, .nil => .inl ⟨rfl, rfl⟩
  | _, _, .cons (f := g) a t => by
    by_cases e : g = k
    · exact .inr ⟨_, _, by simp [valD, List.find?_cons, e], valV_pos e, a⟩
    · rcases Kts.val (k := k) t with ⟨h1, h2⟩ | ⟨d, v, h1, h2, h3⟩
      · exact .inl ⟨by simpa [valD, List.find?_cons, e] using h1, by rw [valV_neg e]; exact h2⟩
      · exact .inr ⟨d, v, by simpa [valD, List.find?_cons, e] using h1, by rw [valV_neg e]; exact h2, h3⟩
theorem Kts.any {K : PySem.W.Frag} {as : List Addr} {G : Hp} {k : Key} : ∀ {kvs : List (Key × V)} {es : List (Key × Dt)}, Kts K as G kvs es → (kvs.any fun kv => decide (kv.1 = k)) = (es.any fun kv => decide (kv.1 = k))
  | _, _, .nil => rfl
  | _, _, .cons a t => by simp [List.any_cons, Kts.any t]
theorem Kts.map {K : PySem.W.Frag} {as : List Addr} {G : Hp} {k : Key} {x : V} {d : Dt} (hx : At K as G x d) : ∀ {kvs : List (Key × V)} {es : List (Key × Dt)}, Kts K as G kvs es →
    Kts K as G (kvs.map fun kv => if kv.1 = k then (kv.1, x) else kv) (es.map fun kv => if kv.1 = k then (kv.1, d) else kv)
  | _, _, .nil => .nil
  | _, _, .cons (f := g) a t => by
    by_cases e : g = k
    · simp only [List.map_cons, if_pos e]
      exact .cons hx (Kts.map hx t)
    · simp only [List.map_cons, if_neg e]
      exact .cons a (Kts.map hx t)
theorem Kts.append {K : PySem.W.Frag} {as : List Addr} {G : Hp} : ∀ {kvs ws : List (Key × V)} {es fs : List (Key × Dt)}, Kts K as G kvs es → Kts K as G ws fs → Kts K as G (kvs ++ ws) (es ++ fs)
  | _, _, _, _, .nil, r => r
  | _, _, _, _, .cons a t, r => .cons a (Kts.append t r)
theorem Kts.put {K : PySem.W.Frag} {as : List Addr} {G : Hp} {k : Key} {x : V} {d : Dt} {kvs : List (Key × V)} {es : List (Key × Dt)} (h : Kts K as G kvs es) (hx : At K as G x d) : Kts K as G (putK kvs k x) (putD es k d) := by
  unfold putK putD
  rw [h.any]
  by_cases e : (es.any fun kv => decide (kv.1 = k)) = true
  · rw [if_pos e, if_pos e]
    exact h.map hx
  · rw [if_neg e, if_neg e]
    exact h.append (.cons hx .nil)
theorem Kts.length {K : PySem.W.Frag} {as : List Addr} {G : Hp} : ∀ {kvs : List (Key × V)} {es : List (Key × Dt)}, Kts K as G kvs es → kvs.length = es.length
  | _, _, .nil => rfl
  | _, _, .cons _ t => by simp [Kts.length t]
/-- the pairs of a dict, frozen or changing -/
def dicM (μ : Mu) : Dt → Option (List (Key × Dt))
  | .dic es => some es
  | .mut k => match μ[k]? with
    | some (.dic es) => some es
    | _ => none
  | _ => none
theorem dic_at {K : PySem.W.Frag} {as : List Addr} {G H : Hp} {μ : Mu} {v : V} {d : Dt} {es : List (Key × Dt)} (m : Mem K as G H μ) (a : At K as G v d) (h : dicM μ d = some es) :
    ∃ p kvs, v = .ref p ∧ H p = some (.dK kvs) ∧ Kts K as G kvs es := by
  cases a <;> simp only [dicM, reduceCtorEq] at h
  · cases h
    rename_i h1 h2
    exact ⟨_, _, rfl, m.same _ _ h1, h2⟩
  · rename_i k p h1
    cases e : μ[k]? with
    | none => rw [e] at h; simp at h
    | some mo =>
      rw [e] at h
      cases mo with
      | dic xs =>
        simp at h
        subst h
        obtain ⟨p', o', e1, e2, e3, e4⟩ := m.cell k _ e (by simp)
        rw [h1] at e1; cases e1
        obtain ⟨ys, rfl, e5⟩ := e3
        exact ⟨p, ys, rfl, e2, e5⟩
      | lst es => simp at h
      | ins C fs => simp at h
      | gone => simp at h
      | cell n c oc d => simp at h
      | tab n P q => simp at h
theorem key_at {K : PySem.W.Frag} {as : List Addr} {G : Hp} {v : V} {k : Key} (a : At K as G v (keyD k)) : v = kV k := by
  cases k with
  | inl i => cases a; rfl
  | inr x => cases a; rfl
/-- d[k], there -/
theorem dE_dget {Q : Dt → Mu → Prop} (hu : X.A.units + 1 < cLine) (h : dE X J a ρ μ fun d μ1 => dE X J b ρ μ1 fun e μ2 => ∃ es k x, dicM μ2 d = some es ∧ e = keyD k ∧ valD es k = some x ∧ Q x μ2) (hs : NoSl b := by exact fun _ _ => rfl) : dE X J (.Subscript a b pos) ρ μ Q := .mk fun as G H σ S => by
  refine (pe_dget hu peW peW hs).w ?_
  show wE X a σ H fun x H1 => wE X b σ H1 fun y H2 => ∃ p v, x = .ref p ∧ DGet H2 p y (some v) ∧ _
  refine two S h fun x y d e μ2 as2 G2 H2 s m a1 a2 ⟨es, k, z, e1, e2, e3, q⟩ => ?_
  subst e2
  obtain ⟨p, kvs, rfl, hp, hk⟩ := dic_at m a1 e1
  obtain rfl := key_at a2
  rcases hk.val (k := k) with ⟨h1, _⟩ | ⟨d', v, h1, h2, h3⟩
  · rw [h1] at e3; cases e3
  · rw [h1] at e3; cases e3
    exact ⟨p, v, rfl, by rw [← h2]; exact .k hp, z, μ2, as2, G2, s, m, h3, q⟩
/-- k in d, k not in d -/
theorem dE_din {Q : Dt → Mu → Prop} (hu : X.A.units + 1 < cLine) (h : dE X J a ρ μ fun e μ1 => dE X J b ρ μ1 fun d μ2 => ∃ es k, dicM μ2 d = some es ∧ e = keyD k ∧ Q (.bl (valD es k).isSome) μ2) (hm : behindInMarks .In b = false := by rfl) : dE X J (.Compare a [.In] [b] pos) ρ μ Q := .mk fun as G H σ S => by
  refine (pe_cmp (pc_din hu peW peW) hm).w ?_
  show wE X a σ H fun y H1 => wE X b σ H1 fun x H2 => ∃ p o, x = .ref p ∧ DGet H2 p y o ∧ _
  refine two S h fun y x e d μ2 as2 G2 H2 s m a2 a1 ⟨es, k, e1, e2, q⟩ => ?_
  subst e2
  obtain ⟨p, kvs, rfl, hp, hk⟩ := dic_at m a1 e1
  obtain rfl := key_at a2
  refine ⟨p, _, rfl, .k hp, .bl (valD es k).isSome, μ2, as2, G2, s, m, ?_, q⟩
  rcases hk.val (k := k) with ⟨h1, h2⟩ | ⟨d', v, h1, h2, h3⟩
  · rw [h1, h2]; exact .bl _
  · rw [h1, h2]; exact .bl _
theorem dE_dnotin {Q : Dt → Mu → Prop} (hu : X.A.units + 1 < cLine) (h : dE X J a ρ μ fun e μ1 => dE X J b ρ μ1 fun d μ2 => ∃ es k, dicM μ2 d = some es ∧ e = keyD k ∧ Q (.bl (!(valD es k).isSome)) μ2) (hm : behindInMarks .NotIn b = false := by rfl) : dE X J (.Compare a [.NotIn] [b] pos) ρ μ Q := .mk fun as G H σ S => by
  refine (pe_cmp (pc_dnotin hu peW peW) hm).w ?_
  show wE X a σ H fun y H1 => wE X b σ H1 fun x H2 => ∃ p o, x = .ref p ∧ DGet H2 p y o ∧ _
  refine two S h fun y x e d μ2 as2 G2 H2 s m a2 a1 ⟨es, k, e1, e2, q⟩ => ?_
  subst e2
  obtain ⟨p, kvs, rfl, hp, hk⟩ := dic_at m a1 e1
  obtain rfl := key_at a2
  refine ⟨p, _, rfl, .k hp, .bl (!(valD es k).isSome), μ2, as2, G2, s, m, ?_, q⟩
  rcases hk.val (k := k) with ⟨h1, h2⟩ | ⟨d', v, h1, h2, h3⟩
  · rw [h1, h2]; exact .bl _
  · rw [h1, h2]; exact .bl _
/-- the pairs of a display -/
def wP (X : Cx) (pos : Pos) (keys : List (Option Expr)) (values : List Expr) : L2.St → Hp → (List (V × V) → Hp → Prop) → Prop := fun σ H Q => ∀ pins s, Inv X pins σ H s →
  wpAny (model X.prog X.w) X.A (evalPairs (pairTrees keys values X.env pos)) (fun vs s' => ∃ ps H', Inv X pins σ H' s' ∧ VV ps vs ∧ Q ps H') X.xe s
inductive Pts (K : PySem.W.Frag) (as : List Addr) (G : Hp) : List (V × V) → List (Dt × Dt) → Prop
  | nil : Pts K as G [] []
  | cons {x y : V} {ps : List (V × V)} {d e : Dt} {ds : List (Dt × Dt)} : At K as G x d → At K as G y e → Pts K as G ps ds → Pts K as G ((x, y) :: ps) ((d, e) :: ds)
structure dP (X : Cx) (J : JX) (pos : Pos) (keys : List (Option Expr)) (values : List Expr) (ρ : Env') (μ : Mu) (Q : List (Dt × Dt) → Mu → Prop) : Prop where
  go : ∀ as G H σ, Sx X J as G H σ ρ μ → wP X pos keys values σ H fun ps H' => ∃ ds μ' as' G', Step as G H as' G' H' ∧ Mem X.K as' G' H' μ' ∧ Pts X.K as' G' ps ds ∧ Q ds μ'
instance {X : Cx} {J : JX} {pos : Pos} {keys : List (Option Expr)} {values : List Expr} {ρ : Env'} {μ : Mu} {Q : List (Dt × Dt) → Mu → Prop} : CoeFun (dP X J pos keys values ρ μ Q) (fun _ => ∀ as G H σ, Sx X J as G H σ ρ μ → wP X pos keys values σ H fun ps H' => ∃ ds μ' as' G', Step as G H as' G' H' ∧ Mem X.K as' G' H' μ' ∧ Pts X.K as' G' ps ds ∧ Q ds μ') := ⟨dP.go⟩
theorem dP_nil {Q : List (Dt × Dt) → Mu → Prop} (q : Q [] μ) : dP X J pos [] [] ρ μ Q := .mk fun as G H σ S pins s I => pairTrees_nil_walk ⟨[], H, I, .nil, [], μ, as, G, .refl _ _ _, S.mem, .nil, q⟩
theorem dP_cons {k v : Expr} {ks : List (Option Expr)} {vs : List Expr} {Q : List (Dt × Dt) → Mu → Prop} (h : dE X J k ρ μ fun d μ1 => dE X J v ρ μ1 fun e μ2 => dP X J pos ks vs ρ μ2 fun ds μ3 => Q ((d, e) :: ds) μ3) :
    dP X J pos (some k :: ks) (v :: vs) ρ μ Q := .mk fun as G H σ S pins s I => by
  refine pairTrees_cons_walk (thn (h as G H σ S pins s I) fun u s1 ⟨x, H1, I1, rx, d, μ1, as1, G1, t1, m1, a1, q1⟩ => thn (q1 as1 G1 H1 σ (S.step t1 m1) pins s1 I1) fun w2 s2 ⟨y, H2, I2, ry, e, μ2, as2, G2, t2, m2, a2, q2⟩ =>
    thn (q2 as2 G2 H2 σ ((S.step t1 m1).step t2 m2) pins s2 I2) fun ws s3 ⟨ps, H3, I3, rel, ds, μ3, as3, G3, t3, m3, a3, q3⟩ => ?_)
  exact ⟨(x, y) :: ps, H3, I3, .cons ⟨rx, ry⟩ rel, (d, e) :: ds, μ3, as3, G3, (t1.trans t2).trans t3, m3, .cons ((a1.mono t2.gg t2.ix).mono t3.gg t3.ix) (a2.mono t3.gg t3.ix) a3, q3⟩
def mergeD (es more : List (Key × Dt)) : List (Key × Dt) := more.foldl (fun acc kv => putD acc kv.1 kv.2) es
theorem Kts.merge {K : PySem.W.Frag} {as : List Addr} {G : Hp} : ∀ {more : List (Key × V)} {fs : List (Key × Dt)} {kvs : List (Key × V)} {es : List (Key × Dt)}, Kts K as G kvs es → Kts K as G more fs → Kts K as G (mergeK kvs more) (mergeD es fs)
  | _, _, _, _, h, .nil => h
  | _, _, kvs, es, h, .cons (f := k) (v := v) (d := d) (vs := vs) (ds := ds) a t => by
    show Kts K as G (mergeK (putK kvs k v) vs) (mergeD (putD es k d) ds)
    exact Kts.merge (h.put a) t
theorem Pts.keys {K : PySem.W.Frag} {as : List Addr} {G : Hp} : ∀ {es : List (Key × Dt)} {ps : List (V × V)}, Pts K as G ps (es.map fun kv => (keyD kv.1, kv.2)) → ∃ kvs : List (Key × V), ps = kvs.map (fun kv => (kV kv.1, kv.2)) ∧ Kts K as G kvs es
  | [], _, .nil => ⟨[], rfl, .nil⟩
  | (k, d) :: es, _, .cons a b t => by
    obtain ⟨kvs, e, h⟩ := Pts.keys t
    obtain rfl := key_at a
    exact ⟨(k, _) :: kvs, by rw [e]; rfl, .cons b h⟩
/-- {k: v, ..}, keys ints and texts: frozen, or to be changed -/
theorem disp_core {keys : List (Option Expr)} {values : List Expr} {R : List (Key × Dt) → Mu → Prop} {as : List Addr} {G : Hp} (S : Sx X J as G H σ ρ μ) (h : dP X J pos keys values ρ μ fun ps μ1 => ∃ es : List (Key × Dt), ps = es.map (fun kv => (keyD kv.1, kv.2)) ∧ es.length ≤ 15 ∧ R es μ1)
    (hall : keys.all (·.isSome) = true) (hl : keys.length = values.length) (h0 : keys ≠ []) (h15 : keys.length ≤ 15) {Q' : VK}
    (f : ∀ (p : Addr) (H2 : Hp) (es : List (Key × Dt)) (kvs : List (Key × V)) (μ1 : Mu) (as2 : List Addr) (G2 : Hp), Step as G H as2 G2 H2 → H p = none → Mem X.K as2 G2 H2 μ1 → H2 p = some (.dK []) → p ∉ as2 → G2 p = none → Kts X.K as2 G2 (mergeK [] kvs) (mergeD [] es) → R es μ1 → Q' (.ref p) (upd H2 p (.dK (mergeK [] kvs)))) :
    wE X (.Dict keys values pos) σ H Q' := fun pins s I => by
  have hn := I.hok.fresh (Nat.le_refl s.heap.objs.size)
  have I1 := I.laid (a := s.heap.objs.size) (o := .dK []) (h' := s.heap.push { cls := .type "dict", data := .dict #[] }) (t' := s.toks) (fun _ _ q => Heap.get?_push_of_some _ q) (Nat.le_refl _) (dk_empty s.heap I.big)
  have S1 : Sx X J as G (upd H s.heap.objs.size (.dK [])) σ ρ μ := ⟨S.mem.aside hn, S.sl, S.tk.step (.aside S.mem hn)⟩
  refine wpAny_Dict_walk (knd := mixKind X.prog X.w) hall hl h0 h15 (thn (h as G _ σ S1 pins _ I1) fun ws s2 hh => ?_)
  obtain ⟨ps, H2, I2, rel, ds, μ2, as2, G2, t2, m2, p2, es, ep, lk, q2⟩ := hh
  subst ep
  obtain ⟨kvs, ep, hk⟩ := p2.keys
  subst ep
  have np : s.heap.objs.size ∉ as := fun z => S.mem.ne _ z hn
  have e : H2 s.heap.objs.size = some (.dK []) := t2.hh _ _ upd_same np
  have np2 : s.heap.objs.size ∉ as2 := fun z => by
    rcases t2.nw _ z with z | z
    · exact np z
    · rw [upd_same] at z; cases z
  have g2 : G2 s.heap.objs.size = none := by
    cases q : G2 s.heap.objs.size with
    | none => rfl
    | some o =>
      rcases t2.fr _ _ q with z | z | z
      · rw [S.mem.same.free hn] at z; cases z
      · rw [upd_same] at z; cases z
      · exact absurd z np
  obtain ⟨rs, c, rk⟩ := carries_of (P := X.prog) (w := X.w) rel
  obtain ⟨z, hd, vs0, r0, dd⟩ := dk_of I2.hok e
  cases r0
  refine ⟨rs, c, dd, fun h' dd' hs => ⟨.ref s.heap.objs.size, _, ?_, rfl, f _ H2 es kvs μ2 as2 G2 ((Step.aside S.mem hn).trans t2) hn m2 e np2 g2 (Kts.merge .nil hk) q2⟩⟩
  have hz : (mergeK [] kvs).length ≤ sizeLine := by
    have h1 := length_mergeK kvs []
    rw [List.length_nil] at h1
    have h2 := hk.length
    rw [sizeLine_eq]; omega
  have he : ∃ q, h'.get? s.heap.objs.size = some q := let ⟨q, _, _, hq, _⟩ := dd'; ⟨q, hq⟩
  exact d_write I2 (by rw [e]; exact True.intro) hs he (dk_new hz hd (rk.merge .nil) dd')
/-- an aid's own object is taken over: frozen -/
theorem Mem.take {K : PySem.W.Frag} {as : List Addr} {G H : Hp} {p : Addr} {o : HO} (m : Mem K as G H μ) (np : p ∉ as) (gp : G p = none) : Mem K as (upd G p o) (upd H p o) μ := by
  have ne : ∀ a, a ∈ as → a ≠ p := fun a h z => np (z ▸ h)
  refine ⟨fun b u e => ?_, m.len, fun k mo hk hg => ?_, m.nd, fun a h => by rw [upd_ne (ne a h)]; exact m.ne a h⟩
  · by_cases hb : b = p
    · subst hb; rw [upd_same] at e ⊢; exact e
    · rw [upd_ne hb] at e ⊢; exact m.same b u e
  · obtain ⟨a, o', h1, h2, h3, h4⟩ := m.cell k mo hk hg
    have ha := ne a (List.mem_of_getElem? h1)
    exact ⟨a, o', h1, by rw [upd_ne ha]; exact h2, h3.mono (same_upd_none gp) (fun _ _ h => h), by rw [upd_ne ha]; exact h4⟩
theorem Step.take {as as2 : List Addr} {G H G2 H2 : Hp} {p : Addr} {o : HO} (t : Step as G H as2 G2 H2) (hp : H p = none) (gp : G2 p = none) : Step as G H as2 (upd G2 p o) (upd H2 p o) := by
  refine ⟨t.pre, t.gg.trans (same_upd_none gp), fun b u e n => ?_, fun b e => ?_, fun b u e => ?_, t.nw⟩
  · rw [upd_ne (ne_of_none e hp)]; exact t.hh b u e n
  · by_cases hb : b = p
    · subst hb; rw [upd_same]; simp
    · rw [upd_ne hb]; exact t.ho b e
  · by_cases hb : b = p
    · subst hb; exact .inr (.inl hp)
    · rw [upd_ne hb] at e; exact t.fr b u e
theorem Mem.takeM {K : PySem.W.Frag} {as : List Addr} {G H : Hp} {p : Addr} {o : HO} {mo : Mo} (m : Mem K as G H μ) (np : p ∉ as) (gp : G p = none) (h : MoAt K as G o mo) : Mem K (as ++ [p]) G (upd H p o) (μ ++ [mo]) := by
  have ne : ∀ a, a ∈ as → a ≠ p := fun a h z => np (z ▸ h)
  have ix : ∀ (k : Nat) (a : Addr), as[k]? = some a → (as ++ [p])[k]? = some a := fun k a h => by
    rw [List.getElem?_append_left (List.getElem?_eq_some_iff.mp h).1]; exact h
  refine ⟨fun b u e => ?_, by simp [m.len], fun k mo' hk hg => ?_, ?_, fun a ha => ?_⟩
  · have : b ≠ p := fun z => by rw [z, gp] at e; cases e
    rw [upd_ne this]; exact m.same b u e
  · by_cases hl : k < μ.length
    · rw [List.getElem?_append_left hl] at hk
      obtain ⟨a, o', h1, h2, h3, h4⟩ := m.cell k mo' hk hg
      have ha := ne a (List.mem_of_getElem? h1)
      exact ⟨a, o', ix _ _ h1, by rw [upd_ne ha]; exact h2, h3.mono (Same.refl _) ix, h4⟩
    · have hk2 := (List.getElem?_eq_some_iff.mp hk).1
      simp at hk2
      have e : k = μ.length := by omega
      subst e
      simp at hk
      subst hk
      exact ⟨p, o, by rw [← m.len]; simp, upd_same, h.mono (Same.refl _) ix, gp⟩
  · rw [List.nodup_append]
    refine ⟨m.nd, by simp, fun a ha b hb => ?_⟩
    have : b = p := by simpa using hb
    subst this
    exact ne a ha
  · rcases List.mem_append.mp ha with h | h
    · rw [upd_ne (ne a h)]; exact m.ne a h
    · have : a = p := by simpa using h
      subst this
      rw [upd_same]; simp
theorem Step.takeM {as as2 : List Addr} {G H G2 H2 : Hp} {p : Addr} {o : HO} (t : Step as G H as2 G2 H2) (hp : H p = none) : Step as G H (as2 ++ [p]) G2 (upd H2 p o) := by
  refine ⟨?_, t.gg, fun b u e n => ?_, fun b e => ?_, t.fr, fun a h => ?_⟩
  · obtain ⟨r, e⟩ := t.pre
    exact ⟨r ++ [p], by rw [e, List.append_assoc]⟩
  · rw [upd_ne (ne_of_none e hp)]; exact t.hh b u e n
  · by_cases hb : b = p
    · subst hb; rw [upd_same]; simp
    · rw [upd_ne hb]; exact t.ho b e
  · rcases List.mem_append.mp h with h | h
    · exact t.nw a h
    · have : a = p := by simpa using h
      subst this
      exact .inr hp
theorem dE_dic {keys : List (Option Expr)} {values : List Expr} {Q : Dt → Mu → Prop} (h : dP X J pos keys values ρ μ fun ps μ1 => ∃ es : List (Key × Dt), ps = es.map (fun kv => (keyD kv.1, kv.2)) ∧ es.length ≤ 15 ∧ Q (.dic (mergeD [] es)) μ1)
    (hall : keys.all (·.isSome) = true := by rfl) (hl : keys.length = values.length := by rfl) (h0 : keys ≠ [] := by exact fun z => by cases z) (h15 : keys.length ≤ 15 := by decide) : dE X J (.Dict keys values pos) ρ μ Q := .mk fun as G H σ S =>
  disp_core (R := fun es μ1 => Q (.dic (mergeD [] es)) μ1) S h hall hl h0 h15 fun p H2 es kvs μ1 as2 G2 t hp m e np gp hk q => ⟨_, μ1, as2, _, t.take hp gp, m.take np gp, .dic upd_same (hk.mono (same_upd_none gp) fun _ _ h => h), q⟩
theorem dE_dicM {keys : List (Option Expr)} {values : List Expr} {Q : Dt → Mu → Prop} (h : dP X J pos keys values ρ μ fun ps μ1 => ∃ es : List (Key × Dt), ps = es.map (fun kv => (keyD kv.1, kv.2)) ∧ es.length ≤ 15 ∧ Q (.mut μ1.length) (μ1 ++ [.dic (mergeD [] es)]))
    (hall : keys.all (·.isSome) = true := by rfl) (hl : keys.length = values.length := by rfl) (h0 : keys ≠ [] := by exact fun z => by cases z) (h15 : keys.length ≤ 15 := by decide) : dE X J (.Dict keys values pos) ρ μ Q := .mk fun as G H σ S =>
  disp_core (R := fun es μ1 => Q (.mut μ1.length) (μ1 ++ [.dic (mergeD [] es)])) S h hall hl h0 h15 fun p H2 es kvs μ1 as2 G2 t hp m e np gp hk q => ⟨_, _, as2 ++ [p], G2, t.takeM hp, m.takeM (mo := .dic (mergeD [] es)) np gp ⟨_, rfl, hk⟩, .mut (by rw [← m.len]; simp), q⟩
theorem dE_dnew {Q : Dt → Mu → Prop} (q : Q (.dic []) μ) : dE X J (.Dict [] [] pos) ρ μ Q := .mk fun as G H σ S => pe_dnewK.w fun p hp => .lay S.mem hp (.dic upd_same .nil) q
theorem dE_dnewM {Q : Dt → Mu → Prop} (q : Q (.mut μ.length) (μ ++ [.dic []])) : dE X J (.Dict [] [] pos) ρ μ Q := .mk fun as G H σ S => pe_dnewK.w fun p hp => .layM (mo := .dic []) S.mem hp ⟨[], rfl, .nil⟩ q
end
end DL

/-! D3: what is walked, targets, comprehensions, statements. -/
namespace DL
open PySem PySem.Spec PyProof.Rows L2

/-! ### what is walked -/
/-- an iterator that yields the data xs, while ok holds of the mutable objects -/
structure Src (K : PySem.W.Frag) (J : It) (as0 : List Addr) (G0 : Hp) (ok : Mu → Prop) (xs : List Dt) : Prop where
  item : ∀ (as : List Addr) (G H : Hp) (μ : Mu), Same G0 G → (∀ (k : Nat) (a : Addr), as0[k]? = some a → as[k]? = some a) → Mem K as G H μ → ok μ → ∀ (i : Nat) (x : Dt), xs[i]? = some x →
    J.go i H ∧ ∀ v H', J.yld i H v H' → ∃ G', Step as G H as G' H' ∧ Mem K as G' H' μ ∧ At K as G' v x
  stop : ∀ (as : List Addr) (G H : Hp) (μ : Mu), Same G0 G → (∀ (k : Nat) (a : Addr), as0[k]? = some a → as[k]? = some a) → Mem K as G H μ → ok μ → J.stop xs.length H
def wI (X : Cx) (tg iter : Expr) : TI := fun σ H R => ∀ pins s, Inv X pins σ H s → wpAny (model X.prog X.w) X.A (eval iter X.env) (fun v s1 => wpAny (model X.prog X.w) X.A (pyIter v) (PIE X pins σ tg R) X.xe s1) X.xe s
theorem piW {X : Cx} {tg iter : Expr} : PI X tg iter (wI X tg iter) := ⟨fun pins s _ _ _ I h => h pins s I⟩
structure dI (X : Cx) (J : JX) (tg iter : Expr) (ρ : Env') (μ : Mu) (Q : List Dt → (Mu → Prop) → Mu → Prop) : Prop where
  go : ∀ as G H σ, Sx X J as G H σ ρ μ → wI X tg iter σ H fun It H1 => ∃ xs ok μ1 as1 G1, Step as G H as1 G1 H1 ∧ Mem X.K as1 G1 H1 μ1 ∧ Src X.K It as1 G1 ok xs ∧ Q xs ok μ1
instance {X : Cx} {J : JX} {tg iter : Expr} {ρ : Env'} {μ : Mu} {Q : List Dt → (Mu → Prop) → Mu → Prop} : CoeFun (dI X J tg iter ρ μ Q) (fun _ => ∀ as G H σ, Sx X J as G H σ ρ μ → wI X tg iter σ H fun It H1 => ∃ xs ok μ1 as1 G1, Step as G H as1 G1 H1 ∧ Mem X.K as1 G1 H1 μ1 ∧ Src X.K It as1 G1 ok xs ∧ Q xs ok μ1) := ⟨dI.go⟩
theorem src_list {K : PySem.W.Frag} {as0 : List Addr} {G0 : Hp} {p : Addr} {vs : List V} {ds : List Dt} (h : SqL K G0 p vs) (t : Ats K as0 G0 vs ds) : Src K (Itl K p) as0 G0 (fun _ => True) ds where
  item := fun as G H μ g ix m _ i x hx => by
    have hq : SqL K H p vs := m.same.seq (g.seq h)
    obtain ⟨v, hv, av⟩ := t.got hx
    refine ⟨⟨vs, v, hq, hv⟩, fun w H' ⟨e, y⟩ => ?_⟩
    subst e
    have := y vs hq
    rw [hv] at this
    cases this
    exact ⟨G, .refl _ _ _, m, av.mono g ix⟩
  stop := fun as G H μ g ix m _ => ⟨vs, m.same.seq (g.seq h), Nat.le_of_eq t.length⟩
theorem src_tup {K : PySem.W.Frag} {as0 : List Addr} {G0 : Hp} {p : Addr} {vs : List V} {ds : List Dt} (h : SqT K G0 p vs) (t : Ats K as0 G0 vs ds) : Src K (Itt K p) as0 G0 (fun _ => True) ds where
  item := fun as G H μ g ix m _ i x hx => by
    have hq : SqT K H p vs := Same.tup m.same (Same.tup g h)
    obtain ⟨v, hv, av⟩ := t.got hx
    refine ⟨⟨vs, v, hq, hv⟩, fun w H' ⟨e, y⟩ => ?_⟩
    subst e
    have := y vs hq
    rw [hv] at this
    cases this
    exact ⟨G, .refl _ _ _, m, av.mono g ix⟩
  stop := fun as G H μ g ix m _ => ⟨vs, Same.tup m.same (Same.tup g h), Nat.le_of_eq t.length⟩
theorem src_mut {K : PySem.W.Frag} {as0 : List Addr} {G0 : Hp} {p : Addr} {k : Nat} {ds : List Dt} (h : as0[k]? = some p) : Src K (Itl K p) as0 G0 (fun μ => μ[k]? = some (.lst ds)) ds where
  item := fun as G H μ g ix m ok i x hx => by
    obtain ⟨p', vs, e, hp, hH, t⟩ := mut_at m (.mut (ix _ _ h)) ok
    cases e
    have hq : SqL K H p vs := .of hH
    obtain ⟨v, hv, av⟩ := t.got hx
    refine ⟨⟨vs, v, hq, hv⟩, fun w H' ⟨e, y⟩ => ?_⟩
    subst e
    have := y vs hq
    rw [hv] at this
    cases this
    exact ⟨G, .refl _ _ _, m, av⟩
  stop := fun as G H μ g ix m ok => by
    obtain ⟨p', vs, e, hp, hH, t⟩ := mut_at m (.mut (ix _ _ h)) ok
    cases e
    exact ⟨vs, .of hH, Nat.le_of_eq t.length⟩
def okSeq (d : Dt) (xs : List Dt) : Mu → Prop := fun μ => seqM μ d = some xs
section
variable {X : Cx} {J : JX} {e a b c o i tg : Expr} {es : List Expr} {ρ : Env'} {μ : Mu} {σ : L2.St} {H : Hp} {pos : Pos}
/-- a list or tuple -/
theorem dI_seq {l : Expr} {Q : List Dt → (Mu → Prop) → Mu → Prop} (h : dE X J l ρ μ fun d μ1 => ∃ xs, seqM μ1 d = some xs ∧ Q xs (okSeq d xs) μ1) : dI X J tg l ρ μ Q := .mk fun as G H σ S pins s I => by
  refine thn (h as G H σ S pins s I) fun v s1 ⟨x, H1, I1, r1, d, μ1, as1, G1, t1, m1, a1, xs, hs, q⟩ => ?_
  have core : ∀ It : It, Src X.K It as1 G1 (okSeq d xs) xs → ∃ xs ok μ1 as1 G1, Step as G H as1 G1 H1 ∧ Mem X.K as1 G1 H1 μ1 ∧ Src X.K It as1 G1 ok xs ∧ Q xs ok μ1 := fun It z => ⟨xs, _, μ1, as1, G1, t1, m1, z, q⟩
  have imp : ∀ {It : It} {ok : Mu → Prop}, Src X.K It as1 G1 ok xs → (∀ μ, okSeq d xs μ → ok μ) → Src X.K It as1 G1 (okSeq d xs) xs := fun z f =>
    ⟨fun as G H μ g ix m k => z.item as G H μ g ix m (f μ k), fun as G H μ g ix m k => z.stop as G H μ g ix m (f μ k)⟩
  obtain ⟨p, vs, ev, hx, hq⟩ := seq_at m1 a1 hs
  subst ev
  cases r1
  rcases hq with ⟨hq, hn⟩ | ⟨hq, ws, ed⟩
  · obtain ⟨its, rv, pl, hz⟩ := I1.list hq
    refine wpAny_pyIter_list pl.isList ?_
    refine ⟨s1.heap.objs.size, [s1.heap.objs.size], _, Itl X.K p, H1, rfl, I1.kept (t' := s1.toks) fun b o e => Heap.get?_push_of_some _ e, turn_list p _, ⟨_, Heap.get?_push_size _ rfl, rfl, rfl⟩, fun b hb => ?_, core _ ?_⟩
    · have e : b = s1.heap.objs.size := by simpa using hb
      subst e
      exact I1.fpOk (Nat.le_refl _) (I1.hok.fresh (Nat.le_refl _))
    · cases a1 with
      | lst h1 h2 =>
        simp only [seqM, Option.some.injEq] at hs
        subst hs
        exact imp (src_list h1 h2) fun _ _ => trivial
      | tup h1 h2 => exact absurd rfl (hn _)
      | «mut» h1 =>
        refine imp (src_mut (ds := xs) h1) fun μ' z => ?_
        simp only [okSeq, seqM] at z
        split at z
        · cases z
          assumption
        · cases z
      | _ => simp [seqM] at hs
  · obtain ⟨its, rv, pl, hz⟩ := I1.tuple hq
    refine wpAny_pyIter_tuple (show s1.heap.IsTuple p its.toArray from pl) ?_
    refine ⟨s1.heap.objs.size, [s1.heap.objs.size], _, Itt X.K p, H1, rfl, I1.kept (t' := s1.toks) fun b o e => Heap.get?_push_of_some _ e, turn_tuple p _, ⟨_, Heap.get?_push_size _ rfl, rfl, rfl⟩, fun b hb => ?_, core _ ?_⟩
    · have e : b = s1.heap.objs.size := by simpa using hb
      subst e
      exact I1.fpOk (Nat.le_refl _) (I1.hok.fresh (Nat.le_refl _))
    · subst ed
      cases a1 with
      | tup h1 h2 =>
        simp only [seqM, Option.some.injEq] at hs
        subst hs
        exact imp (src_tup h1 h2) fun _ _ => trivial
theorem wI_of {wi : TI} (h : PI X tg e wi) {R : It → Hp → Prop} (q : wi σ H R) : wI X tg e σ H R := fun pins s I => h.run pins s σ H R I q
/-- lo, lo + 1, .. -/
def rng (lo : Int) (n : Nat) : List Dt := (List.range n).map fun (i : Nat) => Dt.int (lo + (i : Int))
theorem rng_length (lo : Int) (n : Nat) : (rng lo n).length = n := by simp [rng]
theorem rng_get {lo : Int} {n i : Nat} {x : Dt} (h : (rng lo n)[i]? = some x) : i < n ∧ x = .int (lo + i) := by
  have hl := (List.getElem?_eq_some_iff.mp h).1
  rw [rng_length] at hl
  refine ⟨hl, ?_⟩
  simp [rng, hl] at h
  exact h.symm
theorem src_rng {K : PySem.W.Frag} {as0 : List Addr} {G0 : Hp} {lo : Int} {n : Nat} : Src K (Itr lo n) as0 G0 (fun _ => True) (rng lo n) where
  item := fun as G H μ g ix m _ i x hx => by
    obtain ⟨hl, e⟩ := rng_get hx
    subst e
    refine ⟨hl, fun v H' ⟨e1, e2⟩ => ?_⟩
    subst e1 e2
    exact ⟨G, .refl _ _ _, m, .int _⟩
  stop := fun as G H μ g ix m _ => by rw [rng_length]; exact Nat.le_refl _
theorem dI_range1 {p : Pos} {Q : List Dt → (Mu → Prop) → Mu → Prop} (hm : X.mg "range" = none) (h : dA X J [a] ρ μ fun ds μ1 => ∃ n : Int, ds = [.int n] ∧ -(2 ^ 62) ≤ n ∧ n < 2 ^ 62 ∧ Q (rng 0 n.toNat) (fun _ => True) μ1) (hg : Gl X "range" := by rfl) (hs : starEach [a] X.env = [(false, eval a X.env)] := by rfl) :
    dI X J tg (.Call (.Name "range" p) [a] [] pos) ρ μ Q := .mk fun as G H σ S => by
  refine wI_of (pi_range1 hg hm paW hs) ?_
  show wA X [a] σ H fun vs H1 => ∃ j : Int, vs = [.int j] ∧ _
  refine wA_mono (h as G H σ S) fun vs H1 ⟨ds, μ1, as1, G1, t1, m1, a1, n, e, h1, h2, q⟩ => ?_
  subst e
  obtain ⟨x, rfl, ax⟩ := a1.one
  cases ax
  exact ⟨n, rfl, h1, h2, _, _, μ1, as1, G1, t1, m1, src_rng, q⟩
theorem dI_range2 {p : Pos} {Q : List Dt → (Mu → Prop) → Mu → Prop} (hm : X.mg "range" = none) (h : dA X J [a, b] ρ μ fun ds μ2 => ∃ i j : Int, ds = [.int i, .int j] ∧ (-(2 ^ 62) ≤ i ∧ i < 2 ^ 62 ∧ -(2 ^ 62) ≤ j ∧ j < 2 ^ 62) ∧ Q (rng i (j - i).toNat) (fun _ => True) μ2) (hg : Gl X "range" := by rfl) (hs : starEach [a, b] X.env = [(false, eval a X.env), (false, eval b X.env)] := by rfl) (hs2 : starEach [b] X.env = [(false, eval b X.env)] := by rfl) :
    dI X J tg (.Call (.Name "range" p) [a, b] [] pos) ρ μ Q := .mk fun as G H σ S => by
  refine wI_of (pi_range2 hg hm paW hs hs2) ?_
  show wA X [a, b] σ H fun vs H1 => ∃ i j : Int, vs = [.int i, .int j] ∧ _
  refine wA_mono (h as G H σ S) fun vs H1 ⟨ds, μ1, as1, G1, t1, m1, a1, i, j, e, h1, q⟩ => ?_
  subst e
  obtain ⟨x, y, rfl, ax, ay⟩ := a1.two
  cases ax
  cases ay
  exact ⟨i, j, rfl, h1, _, _, μ1, as1, G1, t1, m1, src_rng, q⟩

/-! ### targets -/
def wG (X : Cx) (tg : Expr) : TG := fun v σ H Q => ∀ pins s u, Inv X pins σ H s → RelV v u → wpAny (model X.prog X.w) X.A (assign tg X.env u) (fun _ s' => ∃ σ' H', Inv X pins σ' H' s' ∧ Q σ' H') X.xe s
def wGs (X : Cx) (ts : List Expr) : TGs := fun vs σ H Q => ∀ pins s us, Inv X pins σ H s → Vals vs us → wpAny (model X.prog X.w) X.A (assignInOrder ((assignEach ts X.env).map (·.2)) us) (fun _ s' => ∃ σ' H', Inv X pins σ' H' s' ∧ Q σ' H') X.xe s
theorem pgW : PG X tg (wG X tg) := ⟨fun pins s σ H v u Q I r h => h pins s u I r⟩
theorem pgsW {ts : List Expr} : PGs X ts (wGs X ts) := ⟨fun pins s σ H v u Q I r h => h pins s u I r⟩
/-- behind a statement's step: slots and memory -/
def AfS (K : PySem.W.Frag) (as : List Addr) (G H : Hp) (Q : Env' → Mu → Prop) : L2.St → Hp → Prop := fun σ' H' => ∃ ρ' μ' as' G', Step as G H as' G' H' ∧ Mem K as' G' H' μ' ∧ Slots K as' G' σ' ρ' ∧ Q ρ' μ'
theorem AfS.back {K : PySem.W.Frag} {as as1 : List Addr} {G H G1 H1 : Hp} {Q : Env' → Mu → Prop} {σ' : L2.St} {H' : Hp} (s : Step as G H as1 G1 H1) (h : AfS K as1 G1 H1 Q σ' H') : AfS K as G H Q σ' H' := by
  obtain ⟨ρ', μ', as', G', t, m, a, q⟩ := h
  exact ⟨ρ', μ', as', G', s.trans t, m, a, q⟩
theorem AfS.imp {K : PySem.W.Frag} {as : List Addr} {G H : Hp} {Q Q' : Env' → Mu → Prop} {σ' : L2.St} {H' : Hp} (h : AfS K as G H Q σ' H') (f : ∀ ρ μ, Q ρ μ → Q' ρ μ) : AfS K as G H Q' σ' H' := by
  obtain ⟨ρ', μ', as', G', t, m, a, q⟩ := h
  exact ⟨ρ', μ', as', G', t, m, a, f _ _ q⟩
structure dG (X : Cx) (J : JX) (tg : Expr) (d : Dt) (ρ : Env') (μ : Mu) (Q : Env' → Mu → Prop) : Prop where
  go : ∀ as G H σ v, Sx X J as G H σ ρ μ → At X.K as G v d → wG X tg v σ H (AfS X.K as G H Q)
instance {X : Cx} {J : JX} {tg : Expr} {d : Dt} {ρ : Env'} {μ : Mu} {Q : Env' → Mu → Prop} : CoeFun (dG X J tg d ρ μ Q) (fun _ => ∀ as G H σ v, Sx X J as G H σ ρ μ → At X.K as G v d → wG X tg v σ H (AfS X.K as G H Q)) := ⟨dG.go⟩
structure dGs (X : Cx) (J : JX) (ts : List Expr) (ds : List Dt) (ρ : Env') (μ : Mu) (Q : Env' → Mu → Prop) : Prop where
  go : ∀ as G H σ vs, Sx X J as G H σ ρ μ → Ats X.K as G vs ds → wGs X ts vs σ H (AfS X.K as G H Q)
instance {X : Cx} {J : JX} {ts : List Expr} {ds : List Dt} {ρ : Env'} {μ : Mu} {Q : Env' → Mu → Prop} : CoeFun (dGs X J ts ds ρ μ Q) (fun _ => ∀ as G H σ vs, Sx X J as G H σ ρ μ → Ats X.K as G vs ds → wGs X ts vs σ H (AfS X.K as G H Q)) := ⟨dGs.go⟩
theorem wG_mono {v : V} {Q Q' : L2.St → Hp → Prop} (h : wG X tg v σ H Q) (f : ∀ σ' H', Q σ' H' → Q' σ' H') : wG X tg v σ H Q' := fun pins s u I r => thn (h pins s u I r) fun _ _ ⟨σ', H', I', q⟩ => ⟨σ', H', I', f _ _ q⟩
theorem dG_name (i : Nat) {x : Str} {d : Dt} {Q : Env' → Mu → Prop} (hN : X.N.Nodup) (hi : X.N[i]? = some x) (q : Q (ρ.set i (some d)) μ) (hx : Loc X.env.scope x := by first | exact .inl rfl | exact .inr rfl)
    (hf : X.fn x = true ∨ X.env.scope.names.lookup x = some .local := by first | exact .inl rfl | exact .inr rfl | assumption) : dG X J (.Name x pos) d ρ μ Q := .mk fun as G H σ v S a pins s u I r =>
  (pg_name hN hi hx hf).run pins s σ H v u _ I r ⟨_, μ, as, G, .refl _ _ _, S.mem, S.sl.set i a, q⟩
theorem dGs_nil {Q : Env' → Mu → Prop} (q : Q ρ μ) : dGs X J [] [] ρ μ Q := .mk fun as G H σ vs S a pins s us I r => by
  cases a
  exact pgs_nil.run pins s σ H [] us _ I r ⟨rfl, ρ, μ, as, G, .refl _ _ _, S.mem, S.sl, q⟩
theorem dGs_cons {ts : List Expr} {d : Dt} {ds : List Dt} {Q : Env' → Mu → Prop} (h : dG X J e d ρ μ fun ρ1 μ1 => dGs X J ts ds ρ1 μ1 Q) (hs : (assignEach (e :: ts) X.env).map (·.2) = assign e X.env :: (assignEach ts X.env).map (·.2) := by rfl) : dGs X J (e :: ts) (d :: ds) ρ μ Q := .mk fun as G H σ vs S a pins s us I r => by
  cases a with
  | cons a1 ar =>
    rename_i v vr
    refine (pgs_cons pgW pgsW hs).run pins s σ H (v :: vr) us _ I r ⟨v, vr, rfl, ?_⟩
    show wG X e v σ H fun σ' H' => wGs X ts vr σ' H' _
    refine wG_mono (h as G H σ v S a1) fun σ1 H1 ⟨ρ1, μ1, as1, G1, t1, m1, s1, q1⟩ pins' s' us' I' r' => ?_
    exact thn (q1 as1 G1 H1 σ1 vr ⟨m1, s1, S.tk.step t1⟩ (ar.mono t1.gg t1.ix) pins' s' us' I' r') fun _ _ ⟨σ2, H2, I2, q2⟩ => ⟨σ2, H2, I2, q2.back t1⟩
theorem dG_tup {es : List Expr} {kk : Nat} {ds : List Dt} {Q : Env' → Mu → Prop} (hc : X.calm = true) (hl : (assignEach es X.env).length = ds.length) (h : dGs X J es ds ρ μ Q) (hst : (assignEach es X.env).findIdx? (·.1) = none := by rfl) : dG X J (.Tuple es kk pos) (.tup ds) ρ μ Q := .mk fun as G H σ v S a pins s u I r => by
  cases a with
  | tup h1 h2 =>
    rename_i p xs
    exact (pg_tup hc pgsW rfl hst).run pins s σ H (.ref p) u _ I r ⟨p, xs, rfl, Same.tup S.mem.same h1, by rw [h2.length, hl], h as G H σ xs S h2⟩
theorem dG_lst {es : List Expr} {kk : Nat} {d : Dt} {ds : List Dt} {Q : Env' → Mu → Prop} (hc : X.calm = true) (hd : isL μ d) (hsq : seqM μ d = some ds) (hl : (assignEach es X.env).length = ds.length) (h : dGs X J es ds ρ μ Q) (hst : (assignEach es X.env).findIdx? (·.1) = none := by rfl) : dG X J (.Tuple es kk pos) d ρ μ Q := .mk fun as G H σ v S a pins s u I r => by
  obtain ⟨p, xs, rfl, hx, hq⟩ := seq_at S.mem a hsq
  rcases hq with ⟨hq, _⟩ | ⟨hq, ws, e⟩
  · exact (pg_lst hc pgsW rfl hst).run pins s σ H (.ref p) u _ I r ⟨p, xs, rfl, hq, by rw [hx.length, hl], h as G H σ xs S hx⟩
  · exact absurd e (hd.2 ws)
end
end DL

/-! D4: comprehensions, statements, defs. -/
namespace DL
open PySem PySem.Spec PyProof.Rows L2

/-! ### statements -/
structure DEnds where
  nx : Env' → Mu → Prop
  rt : Dt → Mu → Prop
  bk : Env' → Mu → Prop := fun _ _ => False
  ct : Env' → Mu → Prop := fun _ _ => False
def EndsOf (K : PySem.W.Frag) (as : List Addr) (G H : Hp) (D : DEnds) : Ends := { nx := AfS K as G H D.nx, rt := AfE K as G H D.rt, bk := AfS K as G H D.bk, ct := AfS K as G H D.ct }
structure dS (X : Cx) (J : JX) (st : Stmt) (ρ : Env') (μ : Mu) (D : DEnds) : Prop where
  go : ∀ as G H σ, Sx X J as G H σ ρ μ → wS X st (EndsOf X.K as G H D) σ H
instance {X : Cx} {J : JX} {st : Stmt} {ρ : Env'} {μ : Mu} {D : DEnds} : CoeFun (dS X J st ρ μ D) (fun _ => ∀ as G H σ, Sx X J as G H σ ρ μ → wS X st (EndsOf X.K as G H D) σ H) := ⟨dS.go⟩
structure dSs (X : Cx) (J : JX) (st : List Stmt) (ρ : Env') (μ : Mu) (D : DEnds) : Prop where
  go : ∀ as G H σ, Sx X J as G H σ ρ μ → wSs X st (EndsOf X.K as G H D) σ H
instance {X : Cx} {J : JX} {st : List Stmt} {ρ : Env'} {μ : Mu} {D : DEnds} : CoeFun (dSs X J st ρ μ D) (fun _ => ∀ as G H σ, Sx X J as G H σ ρ μ → wSs X st (EndsOf X.K as G H D) σ H) := ⟨dSs.go⟩
structure ELe (D D' : Ends) : Prop where
  nx : ∀ σ H, D.nx σ H → D'.nx σ H
  rt : ∀ v H, D.rt v H → D'.rt v H
  bk : ∀ σ H, D.bk σ H → D'.bk σ H
  ct : ∀ σ H, D.ct σ H → D'.ct σ H
theorem SP.mono {X : Cx} {pins : List (Addr × Obj)} {D D' : Ends} {f : Flow} {s' : Shared} (l : ELe D D') (h : SP X pins D f s') : SP X pins D' f s' := by
  cases f with
  | next => obtain ⟨σ, H, I, q⟩ := h; exact ⟨σ, H, I, l.nx _ _ q⟩
  | brk => obtain ⟨σ, H, I, q⟩ := h; exact ⟨σ, H, I, l.bk _ _ q⟩
  | cont => obtain ⟨σ, H, I, q⟩ := h; exact ⟨σ, H, I, l.ct _ _ q⟩
  | ret u => obtain ⟨v, σ, H, I, r, q⟩ := h; exact ⟨v, σ, H, I, r, l.rt _ _ q⟩
theorem wS_mono {X : Cx} {st : Stmt} {D D' : Ends} {σ : L2.St} {H : Hp} (h : wS X st D σ H) (l : ELe D D') : wS X st D' σ H := fun pins s I => thn (h pins s I) fun _ _ z => SP.mono l z
theorem wSs_mono {X : Cx} {st : List Stmt} {D D' : Ends} {σ : L2.St} {H : Hp} (h : wSs X st D σ H) (l : ELe D D') : wSs X st D' σ H := fun pins s I => thn (h pins s I) fun _ _ z => SP.mono l z
theorem EndsOf.back {K : PySem.W.Frag} {as as1 : List Addr} {G H G1 H1 : Hp} (D : DEnds) (s : Step as G H as1 G1 H1) : ELe (EndsOf K as1 G1 H1 D) (EndsOf K as G H D) :=
  ⟨fun _ _ z => AfS.back s z, fun _ _ z => AfE.back s z, fun _ _ z => AfS.back s z, fun _ _ z => AfS.back s z⟩
/-- what follows, from where a step has led -/
theorem AfS.now {K : PySem.W.Frag} {as as1 : List Addr} {G H G1 H1 : Hp} {Q : Env' → Mu → Prop} {σ : L2.St} {ρ : Env'} {μ : Mu} (t : Step as G H as1 G1 H1) (m : Mem K as1 G1 H1 μ) (s : Slots K as1 G1 σ ρ) (q : Q ρ μ) : AfS K as G H Q σ H1 := ⟨ρ, μ, as1, G1, t, m, s, q⟩
section
variable {X : Cx} {J : JX} {e a b c o i tg : Expr} {es : List Expr} {ρ : Env'} {μ : Mu} {σ : L2.St} {H : Hp} {pos : Pos} {D : DEnds} {st : Stmt} {rest : List Stmt}
theorem dSs_nil (q : D.nx ρ μ) : dSs X J [] ρ μ D := .mk fun as G H σ S => (pss_nil (X := X)).w (.now (.refl _ _ _) S.mem S.sl q)
theorem dSs_cons (h : dS X J st ρ μ { D with nx := fun ρ' μ' => dSs X J rest ρ' μ' D }) : dSs X J (st :: rest) ρ μ D := .mk fun as G H σ S => by
  refine (pss_cons psW pssW).w ?_
  show wS X st { EndsOf X.K as G H D with nx := wSs X rest (EndsOf X.K as G H D) } σ H
  refine wS_mono (h as G H σ S) ⟨fun σ1 H1 ⟨ρ1, μ1, as1, G1, t, m, s, q⟩ => ?_, fun _ _ z => z, fun _ _ z => z, fun _ _ z => z⟩
  exact wSs_mono (q as1 G1 H1 σ1 ⟨m, s, S.tk.step t⟩) (EndsOf.back D t)
theorem dSs_one (h : dS X J st ρ μ D) : dSs X J [st] ρ μ D := .mk fun as G H σ S => (pss_one psW).w (h as G H σ S)
theorem dS_imp {D' : DEnds} (h : dS X J st ρ μ D) (h1 : ∀ ρ' μ', D.nx ρ' μ' → D'.nx ρ' μ') (h2 : ∀ d μ', D.rt d μ' → D'.rt d μ') (h3 : ∀ ρ' μ', D.bk ρ' μ' → D'.bk ρ' μ') (h4 : ∀ ρ' μ', D.ct ρ' μ' → D'.ct ρ' μ') : dS X J st ρ μ D' := .mk fun as G H σ S =>
  wS_mono (h as G H σ S) ⟨fun _ _ z => AfS.imp z h1, fun _ _ ⟨d, μ', as', G', t, m, a, q⟩ => ⟨d, μ', as', G', t, m, a, h2 _ _ q⟩, fun _ _ z => AfS.imp z h3, fun _ _ z => AfS.imp z h4⟩
theorem dSs_imp {D' : DEnds} {sts : List Stmt} (h : dSs X J sts ρ μ D) (h1 : ∀ ρ' μ', D.nx ρ' μ' → D'.nx ρ' μ') (h2 : ∀ d μ', D.rt d μ' → D'.rt d μ') (h3 : ∀ ρ' μ', D.bk ρ' μ' → D'.bk ρ' μ') (h4 : ∀ ρ' μ', D.ct ρ' μ' → D'.ct ρ' μ') : dSs X J sts ρ μ D' := .mk fun as G H σ S =>
  wSs_mono (h as G H σ S) ⟨fun _ _ z => AfS.imp z h1, fun _ _ ⟨d, μ', as', G', t, m, a, q⟩ => ⟨d, μ', as', G', t, m, a, h2 _ _ q⟩, fun _ _ z => AfS.imp z h3, fun _ _ z => AfS.imp z h4⟩
/-- behind an expression's step, with the slots as they are -/
theorem AfS.of {as as1 : List Addr} {G H G1 H1 : Hp} {Q : Env' → Mu → Prop} {μ1 : Mu} {J : JX} (S : Sx X J as G H σ ρ μ) (t : Step as G H as1 G1 H1) (m : Mem X.K as1 G1 H1 μ1) (q : Q ρ μ1) : AfS X.K as G H Q σ H1 := ⟨ρ, μ1, as1, G1, t, m, S.sl.mono t, q⟩
theorem dS_expr (h : dE X J e ρ μ fun _ μ1 => D.nx ρ μ1) (hs : swapsWith e none pos.line X.env = pure false := by rfl) : dS X J (.Expr e pos) ρ μ D := .mk fun as G H σ S => by
  refine (ps_expr peW hs).w ?_
  show wE X e σ H fun _ H1 => AfS X.K as G H D.nx σ H1
  exact wE_mono (h as G H σ S) fun _ H1 ⟨d, μ1, as1, G1, t, m, a, q⟩ => .of S t m q
theorem dS_pass (q : D.nx ρ μ) : dS X J (.Pass pos) ρ μ D := .mk fun as G H σ S => (ps_pass (X := X)).w (.now (.refl _ _ _) S.mem S.sl q)
theorem dS_break (q : D.bk ρ μ) : dS X J (.Break pos) ρ μ D := .mk fun as G H σ S => (ps_break (X := X)).w (.now (.refl _ _ _) S.mem S.sl q)
theorem dS_continue (q : D.ct ρ μ) : dS X J (.Continue pos) ρ μ D := .mk fun as G H σ S => (ps_continue (X := X)).w (.now (.refl _ _ _) S.mem S.sl q)
theorem dS_ret (h : dE X J e ρ μ D.rt) : dS X J (.Return (some e) pos) ρ μ D := .mk fun as G H σ S => by
  refine (ps_ret peW).w ?_
  exact h as G H σ S
theorem dS_retN (q : D.rt .non μ) : dS X J (.Return none pos) ρ μ D := .mk fun as G H σ S => (ps_retN (X := X)).w (AfE.now S.mem .non q)
theorem dS_if {ts us : List Stmt} (h : dT X J c ρ μ fun k μ1 => if k = true then dSs X J ts ρ μ1 D else dSs X J us ρ μ1 D) : dS X J (.If c ts us pos) ρ μ D := .mk fun as G H σ S => by
  refine (ps_if ptW pssW pssW).w ?_
  show wT X c σ H fun k H1 => if k = true then wSs X ts _ σ H1 else wSs X us _ σ H1
  refine wT_mono (h as G H σ S) fun k H1 ⟨μ1, as1, G1, t, m, q⟩ => ?_
  cases k with
  | true =>
    rw [if_pos rfl] at q ⊢
    exact wSs_mono (q as1 G1 H1 σ (S.step t m)) (EndsOf.back D t)
  | false =>
    rw [if_neg Bool.false_ne_true] at q ⊢
    exact wSs_mono (q as1 G1 H1 σ (S.step t m)) (EndsOf.back D t)
/-- x = e -/
theorem dS_set (i : Nat) {x : Str} {pos' : Pos} (hN : X.N.Nodup) (hi : X.N[i]? = some x) (h : dE X J e ρ μ fun d μ1 => D.nx (ρ.set i (some d)) μ1) (hx : Loc X.env.scope x := by first | exact .inl rfl | exact .inr rfl) (hs : swapsWith e (some (.Name x pos')) pos.line X.env = pure false := by rfl)
    (hf : X.fn x = true ∨ X.env.scope.names.lookup x = some .local := by first | exact .inl rfl | exact .inr rfl | assumption) : dS X J (.Assign [.Name x pos'] e pos) ρ μ D := .mk fun as G H σ S => by
  refine (ps_set hN hi hx peW hs hf).w ?_
  show wE X e σ H fun v H1 => AfS X.K as G H D.nx (σ.set i (some v)) H1
  exact wE_mono (h as G H σ S) fun v H1 ⟨d, μ1, as1, G1, t, m, a, q⟩ => ⟨_, μ1, as1, G1, t, m, (S.sl.mono t).set i a, q⟩
/-- tg = e -/
theorem dS_asg (h : dE X J e ρ μ fun d μ1 => dG X J tg d ρ μ1 D.nx) (hs : swapsWithSole [tg] e pos.line X.env = pure false := by rfl) (hw : swappedStores [tg] e X.env = pure none := by rfl)
    (h1 : (assignEach [tg] X.env).map (·.2) = [assign tg X.env] := by rfl) : dS X J (.Assign [tg] e pos) ρ μ D := .mk fun as G H σ S => by
  refine (ps_asg peW pgW hs hw h1).w ?_
  show wE X e σ H fun v H1 => wG X tg v σ H1 (AfS X.K as G H D.nx)
  exact wE_mono (h as G H σ S) fun v H1 ⟨d, μ1, as1, G1, t, m, a, q⟩ => wG_mono (q as1 G1 H1 σ v (S.step t m) a) fun _ _ z => z.back t
/-- x, y = a, b -/
theorem dS_par (i j : Nat) {x y : Str} {px py pt : Pos} {kt k2 pt2} (hc : X.calm = true) (hN : X.N.Nodup) (hi : X.N[i]? = some x) (hj : X.N[j]? = some y)
    (h : dA X J [a, b] ρ μ fun ds μ1 => ∃ d e, ds = [d, e] ∧ D.nx ((ρ.set i (some d)).set j (some e)) μ1) (hij : i ≠ j := by decide)
    (hx : X.env.scope.names.lookup x = some .local := by rfl) (hy : X.env.scope.names.lookup y = some .local := by rfl)
    (hw : swappedStores [.Tuple [.Name x px, .Name y py] kt pt] (.Tuple [a, b] k2 pt2) X.env = pure (some [x, y]) := by rfl)
    (hs : swapsWithSole [.Tuple [.Name x px, .Name y py] kt pt] (.Tuple [a, b] k2 pt2) pos.line X.env = pure false := by rfl) :
    dS X J (.Assign [.Tuple [.Name x px, .Name y py] kt pt] (.Tuple [a, b] k2 pt2) pos) ρ μ D := .mk fun as G H σ S => by
  refine (ps_par hc hN hi hj hij hx hy paW hw hs).w ?_
  show wA X [a, b] σ H fun vs H1 => ∃ v w, vs = [v, w] ∧ AfS X.K as G H D.nx ((σ.set i (some v)).set j (some w)) H1
  refine wA_mono (h as G H σ S) fun vs H1 ⟨ds, μ1, as1, G1, t, m, a, d, e, ed, q⟩ => ?_
  subst ed
  obtain ⟨v, w, rfl, av, aw⟩ := a.two
  exact ⟨v, w, rfl, _, μ1, as1, G1, t, m, ((S.sl.mono t).set i av).set j aw, q⟩
/-- x op= e of ints -/
theorem dS_augAdd (i : Nat) {x : Str} {pos' : Pos} (hN : X.N.Nodup) (hi : X.N[i]? = some x) (h : ∃ n : Int, ρ[i]? = some (some (.int n)) ∧ dE X J e ρ μ fun d μ1 => ∃ m : Int, d = .int m ∧ D.nx (ρ.set i (some (.int (n + m)))) μ1) (hx : Loc X.env.scope x := by first | exact .inl rfl | exact .inr rfl)
    (hf : X.fn x = true ∨ X.env.scope.names.lookup x = some .local := by first | exact .inl rfl | exact .inr rfl | assumption) : dS X J (.AugAssign (.Name x pos') .Add e pos) ρ μ D := .mk fun as G H σ S => by
  obtain ⟨n, hn, h⟩ := h
  refine (ps_aug hN hi hx peW ip_add hf).w ?_
  obtain ⟨v, e1, a1⟩ := S.sl.at_ i _ hn
  cases a1
  refine ⟨_, e1, ?_⟩
  show wE X e σ H fun y H1 => ∃ i' j, V.int n = .int i' ∧ y = .int j ∧ AfS X.K as G H D.nx (σ.set i (some (.int (i' + j)))) H1
  refine wE_mono (h as G H σ S) fun y H1 ⟨d, μ1, as1, G1, t, m, a, k, ed, q⟩ => ?_
  subst ed
  cases a
  exact ⟨n, k, rfl, rfl, _, μ1, as1, G1, t, m, (S.sl.mono t).set i (.int _), q⟩
/-- a mutable object at a name is done with: it is data from now on -/
theorem dS_freeze {sts : List Stmt} (i k : Nat) (ds : List Dt) (hi : ρ[i]? = some (some (.mut k))) (hk : μ[k]? = some (.lst ds)) (h : dSs X J sts (ρ.set i (some (.lst ds))) (μ.set k .gone) D) : dSs X J sts ρ μ D := .mk fun as G H σ S => by
  obtain ⟨v, e1, a1⟩ := S.sl.at_ i _ hi
  cases a1 with
  | «mut» h1 =>
    rename_i p
    obtain ⟨p', o, e2, e3, e4, e5⟩ := S.mem.cell k _ hk (by simp)
    rw [h1] at e2; cases e2
    obtain ⟨xs, rfl, ax⟩ := e4
    have t := Step.freeze (o := .lst xs) S.mem h1 e5
    have m := S.mem.freeze h1 e3 e5
    have sl : Slots X.K as (upd G p (.lst xs)) σ (ρ.set i (some (.lst ds))) := by
      have z := (S.sl.mono t).set i (At.lst (a := p) (.of upd_same) (ax.mono (same_upd_none e5) fun _ _ h => h))
      have es : σ.set i (some (V.ref p)) = σ := by
        have hl := (List.getElem?_eq_some_iff.mp e1).1
        apply List.ext_getElem?
        intro j
        by_cases hj : i = j
        · subst hj
          rw [List.getElem?_set_self hl, e1]
        · rw [List.getElem?_set_ne hj]
      rw [es] at z
      exact z
    exact wSs_mono (h as (upd G p (.lst xs)) H σ ⟨m, sl, S.tk.step t⟩) (EndsOf.back D t)
/-- d[k] = v of a dict that changes -/
theorem dS_dput {value : Expr} {pos' : Pos} (hu : X.A.units + 1 < cLine) (h : dE X J value ρ μ fun v μ1 => dE X J o ρ μ1 fun d μ2 => dE X J i ρ μ2 fun e μ3 => ∃ k es key, d = .mut k ∧ e = keyD key ∧ μ3[k]? = some (.dic es) ∧ es.length < sizeLine ∧ D.nx ρ (μ3.set k (.dic (putD es key v))))
    (hs : swapsWith value (some (.Subscript o i pos')) pos.line X.env = pure false := by rfl) : dS X J (.Assign [.Subscript o i pos'] value pos) ρ μ D := .mk fun as G H σ S => by
  refine (ps_dput hu peW peW peW hs).w ?_
  show wE X value σ H fun v H1 => wE X o σ H1 fun x H2 => wE X i σ H2 fun y H3 => ∃ p H4, x = .ref p ∧ DPut H3 p y v H4 ∧ AfS X.K as G H D.nx σ H4
  refine wE_mono (h as G H σ S) fun v H1 ⟨dv, μ1, as1, G1, t1, m1, a1, q1⟩ => wE_mono (q1 as1 G1 H1 σ (S.step t1 m1)) fun x H2 ⟨dx, μ2, as2, G2, t2, m2, a2, q2⟩ =>
    wE_mono (q2 as2 G2 H2 σ ((S.step t1 m1).step t2 m2)) fun y H3 ⟨dy, μ3, as3, G3, t3, m3, a3, k, es, key, e1, e2, hk, hl, q⟩ => ?_
  subst e1 e2
  obtain rfl := key_at a3
  cases a2 with
  | «mut» h1 =>
    obtain ⟨p, oo, f1, f2, f3, f4⟩ := m3.cell k _ hk (by simp)
    rw [t3.ix _ _ h1] at f1; cases f1
    obtain ⟨kvs, rfl, hx⟩ := f3
    have t := (t1.trans t2).trans t3
    have z := hx.put (k := key) ((a1.mono t2.gg t2.ix).mono t3.gg t3.ix)
    refine ⟨_, _, rfl, .k f2 (by rw [hx.length]; exact hl), ρ, _, as3, G3, t.trans (.put m3 (t3.ix _ _ h1)), m3.put (mo := .dic (putD es key dv)) (t3.ix _ _ h1) hk (by simp) ⟨_, rfl, z⟩, (S.sl.mono t), q⟩
/-- xs[i] = v of a list that changes -/
theorem dG_item {d : Dt} {Q : Env' → Mu → Prop} (h : dE X J o ρ μ fun x μ1 => dE X J i ρ μ1 fun y μ2 => ∃ k ds n j, x = .mut k ∧ y = .int n ∧ μ2[k]? = some (.lst ds) ∧ ixN ds.length n = some j ∧ Q ρ (μ2.set k (.lst (ds.set j d))))
    (ha : ∀ v, assign (.Subscript o i pos) X.env v = (do
      let ov ← holding [v] (eval o X.env)
      let iv ← holding [v, ov] (eval i X.env)
      standAt pos
      holding [v, ov, iv] (setItem ov iv v)
      release [v, ov, iv] []) := by intro _; rfl) : dG X J (.Subscript o i pos) d ρ μ Q := .mk fun as G H σ v S a pins s u I r => by
  refine (pg_sub peW peW set_list ha).run pins s σ H v u _ I r ?_
  show wE X o σ H fun x H1 => wE X i σ H1 fun y H2 => rSetL x y v H2 fun H3 => AfS X.K as G H Q σ H3
  refine wE_mono (h as G H σ S) fun x H1 ⟨dx, μ1, as1, G1, t1, m1, a1, q1⟩ => wE_mono (q1 as1 G1 H1 σ (S.step t1 m1)) fun y H2 ⟨dy, μ2, as2, G2, t2, m2, a2, k, ds, n, j, e1, e2, hk, hj, q⟩ => ?_
  subst e1 e2
  cases a2
  have a1' := a1.mono t2.gg t2.ix
  obtain ⟨p, xs, rfl, hp, hH, hx⟩ := mut_at m2 a1' hk
  have t := t1.trans t2
  exact ⟨p, xs, n, j, rfl, rfl, hH, by rw [hx.length]; exact hj, ρ, _, as2, G2, t.trans (.put m2 hp), m2.put (mo := .lst (ds.set j d)) hp hk (by simp) ⟨_, rfl, hx.set j (a.mono t.gg t.ix)⟩, S.sl.mono t, q⟩
/-- for -/
theorem dS_for {iter : Expr} {body : List Stmt} (hp : PassesOwn (model X.prog X.w) X.A X.env X.xe) (hc : X.calm = true)
    (h : dI X J tg iter ρ μ fun xs ok μ1 => ∃ Pv : Nat → Env' → Mu → Prop, Pv 0 ρ μ1 ∧ (∀ i ρ' μ', Pv i ρ' μ' → ok μ') ∧
      (∀ i x ρ' μ', xs[i]? = some x → Pv i ρ' μ' → dG X J tg x ρ' μ' fun ρ2 μ2 => dSs X J body ρ2 μ2 { D with nx := Pv (i + 1), ct := Pv (i + 1), bk := D.nx }) ∧ (∀ ρ' μ', Pv xs.length ρ' μ' → D.nx ρ' μ'))
    (hs : ∀ x, foldedSetIterable iter X.env x = pure x := by intro _; rfl) : dS X J (.For tg iter body [] pos) ρ μ D := .mk fun as G H σ S => by
  refine (ps_for hp hc piW pgW pssW hs).w ?_
  show wI X tg iter σ H fun It H1 => _
  refine wI_mono (h as G H σ S) fun It H1 ⟨xs, ok, μ1, as1, G1, t1, m1, src, Pv, p0, pok, turn, done⟩ => ?_
  refine ⟨fun i m σ' H' => m = xs.length - i ∧ i ≤ xs.length ∧ ∃ ρ' μ' as' G', Step as1 G1 H1 as' G' H' ∧ Mem X.K as' G' H' μ' ∧ Slots X.K as' G' σ' ρ' ∧ Pv i ρ' μ', ⟨xs.length, by simp, Nat.zero_le _, ρ, μ1, as1, G1, .refl _ _ _, m1, S.sl.mono t1, p0⟩, ?_⟩
  rintro i m σ' H' ⟨rfl, hi, ρ', μ', as', G', t', m', s', pv⟩
  by_cases hlt : i < xs.length
  · have hx : xs[i]? = some xs[i] := by simp [hlt]
    obtain ⟨go, yl⟩ := src.item as' G' H' μ' t'.gg t'.ix m' (pok i ρ' μ' pv) i _ hx
    refine .inr ⟨go, fun σ2 H2 => ∃ ρ' μ' as' G', Step as1 G1 H1 as' G' H2 ∧ Mem X.K as' G' H2 μ' ∧ Slots X.K as' G' σ2 ρ' ∧ Pv (i + 1) ρ' μ', fun σ2 H2 z => ⟨xs.length - (i + 1), by omega, rfl, hlt, z⟩, fun x H2 y => ?_⟩
    obtain ⟨G2, t2, m2, a2⟩ := yl x H2 y
    have S2 : Sx X J as' G2 H2 σ' ρ' μ' := ⟨m2, s'.mono t2, (S.tk.step t1).step (t'.trans t2)⟩
    refine wG_mono (turn i _ ρ' μ' hx pv as' G2 H2 σ' x S2 a2) fun σ3 H3 ⟨ρ3, μ3, as3, G3, t3, m3, s3, q3⟩ => ?_
    have T := (t'.trans t2).trans t3
    refine wSs_mono (q3 as3 G3 H3 σ3 ⟨m3, s3, (S.tk.step t1).step T⟩) ⟨?_, ?_, ?_, ?_⟩
    · rintro σ4 H4 ⟨ρ4, μ4, as4, G4, t4, m4, s4, q4⟩
      exact ⟨ρ4, μ4, as4, G4, T.trans t4, m4, s4, q4⟩
    · intro v H4 z
      exact z.back (t1.trans T)
    · intro σ4 H4 z
      exact z.back (t1.trans T)
    · rintro σ4 H4 ⟨ρ4, μ4, as4, G4, t4, m4, s4, q4⟩
      exact ⟨ρ4, μ4, as4, G4, T.trans t4, m4, s4, q4⟩
  · have e : i = xs.length := by omega
    subst e
    exact .inl ⟨src.stop as' G' H' μ' t'.gg t'.ix m' (pok _ ρ' μ' pv), ρ', μ', as', G', t1.trans t', m', s', done ρ' μ' pv⟩
where
  wI_mono {R R' : It → Hp → Prop} {X : Cx} {tg iter : Expr} {σ : L2.St} {H : Hp} (h : wI X tg iter σ H R) (f : ∀ J H', R J H' → R' J H') : wI X tg iter σ H R' := fun pins s I =>
    thn (h pins s I) fun _ _ z => thn z fun _ _ ⟨it, fp, tn, J, H', e, I', T, t0, fo, q⟩ => ⟨it, fp, tn, J, H', e, I', T, t0, fo, f _ _ q⟩
/-- while -/
theorem dS_while {body : List Stmt} (hp : PassesOwn (model X.prog X.w) X.A X.env X.xe) (Pv : Nat → Env' → Mu → Prop) (h0 : ∃ m, Pv m ρ μ)
    (h : ∀ m ρ' μ', Pv m ρ' μ' → dT X J c ρ' μ' fun k μ1 => if k = true then dSs X J body ρ' μ1 { D with nx := fun ρ2 μ2 => ∃ m', m' < m ∧ Pv m' ρ2 μ2, ct := fun ρ2 μ2 => ∃ m', m' < m ∧ Pv m' ρ2 μ2, bk := D.nx } else D.nx ρ' μ1) : dS X J (.While c body [] pos) ρ μ D := .mk fun as G H σ S => by
  refine (ps_while hp ptW pssW).w ?_
  obtain ⟨m0, h0⟩ := h0
  refine ⟨fun m σ' H' => ∃ ρ' μ' as' G', Step as G H as' G' H' ∧ Mem X.K as' G' H' μ' ∧ Slots X.K as' G' σ' ρ' ∧ Pv m ρ' μ', ⟨m0, ρ, μ, as, G, .refl _ _ _, S.mem, S.sl, h0⟩, ?_⟩
  rintro m σ' H' ⟨ρ', μ', as', G', t', m', s', pv⟩
  show wT X c σ' H' fun k H1 => _
  refine wT_mono (h m ρ' μ' pv as' G' H' σ' ⟨m', s', S.tk.step t'⟩) fun k H1 ⟨μ1, as1, G1, t1, m1, q⟩ => ?_
  have T := t'.trans t1
  cases k with
  | true =>
    rw [if_pos rfl] at q ⊢
    refine ⟨fun σ2 H2 => ∃ m', m' < m ∧ ∃ ρ' μ' as' G', Step as G H as' G' H2 ∧ Mem X.K as' G' H2 μ' ∧ Slots X.K as' G' σ2 ρ' ∧ Pv m' ρ' μ', fun σ2 H2 z => z, ?_⟩
    refine wSs_mono (q as1 G1 H1 σ' ⟨m1, s'.mono t1, S.tk.step T⟩) ⟨?_, fun v H4 z => z.back T, fun σ4 H4 z => z.back T, ?_⟩
    · rintro σ4 H4 ⟨ρ4, μ4, as4, G4, t4, m4, s4, k4, l4, q4⟩
      exact ⟨k4, l4, ρ4, μ4, as4, G4, T.trans t4, m4, s4, q4⟩
    · rintro σ4 H4 ⟨ρ4, μ4, as4, G4, t4, m4, s4, k4, l4, q4⟩
      exact ⟨k4, l4, ρ4, μ4, as4, G4, T.trans t4, m4, s4, q4⟩
  | false =>
    rw [if_neg Bool.false_ne_true] at q ⊢
    exact ⟨ρ', μ1, as1, G1, T, m1, s'.mono t1, q⟩

/-! ### comprehensions -/
def wTs (X : Cx) (ifs : List Expr) : TT := fun σ H Q => ∀ pins s, Inv X pins σ H s →
  wpAny (model X.prog X.w) X.A (forIn ifs true fun c r => if r = true then do let ok ← isTrue c X.env (eval c X.env); pure (ForInStep.yield ok) else pure (ForInStep.yield r)) (TP X pins σ Q) X.xe s
structure dTs (X : Cx) (J : JX) (ifs : List Expr) (ρ : Env') (μ : Mu) (Q : Bool → Mu → Prop) : Prop where
  go : ∀ as G H σ, Sx X J as G H σ ρ μ → wTs X ifs σ H (AfT X.K as G H Q)
instance {X : Cx} {J : JX} {ifs : List Expr} {ρ : Env'} {μ : Mu} {Q : Bool → Mu → Prop} : CoeFun (dTs X J ifs ρ μ Q) (fun _ => ∀ as G H σ, Sx X J as G H σ ρ μ → wTs X ifs σ H (AfT X.K as G H Q)) := ⟨dTs.go⟩
theorem dTs_nil {Q : Bool → Mu → Prop} (q : Q true μ) : dTs X J [] ρ μ Q := .mk fun as G H σ S pins s I => pts_nil.run pins s σ H _ I ⟨μ, as, G, .refl _ _ _, S.mem, q⟩
theorem dTs_one {Q : Bool → Mu → Prop} (h : dT X J c ρ μ Q) : dTs X J [c] ρ μ Q := .mk fun as G H σ S pins s I => (pts_one ptW).run pins s σ H _ I (h as G H σ S)
abbrev Blk (X : Cx) (scope : Scope) (s : Shared) (H : Hp) (C : Addr) (cl : List (Str × Addr)) (fp : List Addr) : Cx := X.blk s H scope (compEnvC scope cl C X.env) fp
theorem wipe_set {σ : L2.St} {i : Nat} {o : Option V} : ∀ {vs : List Nat}, i ∈ vs → L2.wipe (σ.set i o) vs = L2.wipe σ vs
  | [], h => by simp at h
  | v :: vs, h => by
    show (L2.wipe (σ.set i o) vs).set v none = (L2.wipe σ vs).set v none
    by_cases hv : i ∈ vs
    · rw [wipe_set hv]
    · have e : i = v := by simpa [hv] using h
      subst e
      have comm : ∀ (τ : L2.St) (ws : List Nat), (L2.wipe (τ.set i o) ws).set i none = (L2.wipe τ ws).set i none := by
        intro τ ws
        induction ws with
        | nil => show (τ.set i o).set i none = τ.set i none; rw [List.set_set]
        | cons w ws ih =>
          show ((L2.wipe (τ.set i o) ws).set w none).set i none = ((L2.wipe τ ws).set w none).set i none
          by_cases hw : w = i
          · subst hw
            rw [List.set_set, List.set_set]
            exact ih
          · rw [List.set_comm _ _ hw, ih, List.set_comm _ _ hw]
      exact comm σ vs
/-- a block's target: its own slots alone -/
structure dGv (X : Cx) (J : JX) (vs : List Nat) (tg : Expr) (d : Dt) (ρ : Env') (μ : Mu) (Q : Env' → Mu → Prop) : Prop where
  go : ∀ as G H σ v, Sx X J as G H σ ρ μ → At X.K as G v d → wG X tg v σ H fun σ' H' => AfS X.K as G H Q σ' H' ∧ L2.wipe σ' vs = L2.wipe σ vs
instance {X : Cx} {J : JX} {vs : List Nat} {tg : Expr} {d : Dt} {ρ : Env'} {μ : Mu} {Q : Env' → Mu → Prop} : CoeFun (dGv X J vs tg d ρ μ Q) (fun _ => ∀ as G H σ v, Sx X J as G H σ ρ μ → At X.K as G v d → wG X tg v σ H fun σ' H' => AfS X.K as G H Q σ' H' ∧ L2.wipe σ' vs = L2.wipe σ vs) := ⟨dGv.go⟩
structure dGsv (X : Cx) (J : JX) (vs : List Nat) (ts : List Expr) (ds : List Dt) (ρ : Env') (μ : Mu) (Q : Env' → Mu → Prop) : Prop where
  go : ∀ as G H σ ws, Sx X J as G H σ ρ μ → Ats X.K as G ws ds → wGs X ts ws σ H fun σ' H' => AfS X.K as G H Q σ' H' ∧ L2.wipe σ' vs = L2.wipe σ vs
instance {X : Cx} {J : JX} {vs : List Nat} {ts : List Expr} {ds : List Dt} {ρ : Env'} {μ : Mu} {Q : Env' → Mu → Prop} : CoeFun (dGsv X J vs ts ds ρ μ Q) (fun _ => ∀ as G H σ ws, Sx X J as G H σ ρ μ → Ats X.K as G ws ds → wGs X ts ws σ H fun σ' H' => AfS X.K as G H Q σ' H' ∧ L2.wipe σ' vs = L2.wipe σ vs) := ⟨dGsv.go⟩
theorem dGv_name (i : Nat) {x : Str} {d : Dt} {vs : List Nat} {Q : Env' → Mu → Prop} (hN : X.N.Nodup) (hi : X.N[i]? = some x) (q : Q (ρ.set i (some d)) μ) (hv : i ∈ vs := by decide) (hx : Loc X.env.scope x := by first | exact .inl rfl | exact .inr rfl)
    (hf : X.fn x = true ∨ X.env.scope.names.lookup x = some .local := by first | exact .inl rfl | exact .inr rfl | assumption) : dGv X J vs (.Name x pos) d ρ μ Q := .mk fun as G H σ v S a pins s u I r =>
  (pg_name hN hi hx hf).run pins s σ H v u _ I r ⟨⟨_, μ, as, G, .refl _ _ _, S.mem, S.sl.set i a, q⟩, wipe_set hv⟩
theorem dGsv_nil {vs : List Nat} {Q : Env' → Mu → Prop} (q : Q ρ μ) : dGsv X J vs [] [] ρ μ Q := .mk fun as G H σ ws S a pins s us I r => by
  cases a
  exact pgs_nil.run pins s σ H [] us _ I r ⟨rfl, ⟨ρ, μ, as, G, .refl _ _ _, S.mem, S.sl, q⟩, rfl⟩
theorem dGsv_cons {vs : List Nat} {ts : List Expr} {d : Dt} {ds : List Dt} {Q : Env' → Mu → Prop} (h : dGv X J vs e d ρ μ fun ρ1 μ1 => dGsv X J vs ts ds ρ1 μ1 Q) (hs : (assignEach (e :: ts) X.env).map (·.2) = assign e X.env :: (assignEach ts X.env).map (·.2) := by rfl) : dGsv X J vs (e :: ts) (d :: ds) ρ μ Q := .mk fun as G H σ ws S a pins s us I r => by
  cases a with
  | cons a1 ar =>
    rename_i v vr
    refine (pgs_cons pgW pgsW hs).run pins s σ H (v :: vr) us _ I r ⟨v, vr, rfl, ?_⟩
    show wG X e v σ H fun σ' H' => wGs X ts vr σ' H' _
    refine wG_mono (h as G H σ v S a1) fun σ1 H1 ⟨⟨ρ1, μ1, as1, G1, t1, m1, s1, q1⟩, w1⟩ pins' s' us' I' r' => ?_
    exact thn (q1 as1 G1 H1 σ1 vr ⟨m1, s1, S.tk.step t1⟩ (ar.mono t1.gg t1.ix) pins' s' us' I' r') fun _ _ ⟨σ2, H2, I2, q2, w2⟩ => ⟨σ2, H2, I2, q2.back t1, w2.trans w1⟩
theorem dGv_tup {vs : List Nat} {es : List Expr} {kk : Nat} {ds : List Dt} {Q : Env' → Mu → Prop} (hc : X.calm = true) (hl : (assignEach es X.env).length = ds.length) (h : dGsv X J vs es ds ρ μ Q) (hst : (assignEach es X.env).findIdx? (·.1) = none := by rfl) : dGv X J vs (.Tuple es kk pos) (.tup ds) ρ μ Q := .mk fun as G H σ v S a pins s u I r => by
  cases a with
  | tup h1 h2 =>
    rename_i p xs
    exact (pg_tup hc pgsW rfl hst).run pins s σ H (.ref p) u _ I r ⟨p, xs, rfl, Same.tup S.mem.same h1, by rw [h2.length, hl], h as G H σ xs S h2⟩
theorem dGv_lst {vs : List Nat} {es : List Expr} {kk : Nat} {d : Dt} {ds : List Dt} {Q : Env' → Mu → Prop} (hc : X.calm = true) (hd : isL μ d) (hsq : seqM μ d = some ds) (hl : (assignEach es X.env).length = ds.length) (h : dGsv X J vs es ds ρ μ Q) (hst : (assignEach es X.env).findIdx? (·.1) = none := by rfl) : dGv X J vs (.Tuple es kk pos) d ρ μ Q := .mk fun as G H σ v S a pins s u I r => by
  obtain ⟨p, xs, rfl, hx, hq⟩ := seq_at S.mem a hsq
  rcases hq with ⟨hq, _⟩ | ⟨hq, ws, e⟩
  · exact (pg_lst hc pgsW rfl hst).run pins s σ H (.ref p) u _ I r ⟨p, xs, rfl, hq, by rw [hx.length, hl], h as G H σ xs S hx⟩
  · exact absurd e (hd.2 ws)
/-- in every block -/
abbrev BE (X : Cx) (scope : Scope) (P : Cx → Prop) : Prop := ∀ (s : Shared) (H : Hp) (C : Addr) (cl : List (Str × Addr)) (fp : List Addr), P (Blk X scope s H C cl fp)
theorem Mem.set_aside {K : PySem.W.Frag} {as : List Addr} {G H : Hp} {p : Addr} {o : HO} (m : Mem K as G H μ) (np : p ∉ as) (gp : G p = none) : Mem K as G (upd H p o) μ := by
  have ne : ∀ a, a ∈ as → a ≠ p := fun a h z => np (z ▸ h)
  refine ⟨fun b u e => ?_, m.len, fun k mo hk hg => ?_, m.nd, fun a h => by rw [upd_ne (ne a h)]; exact m.ne a h⟩
  · have : b ≠ p := fun z => by rw [z, gp] at e; cases e
    rw [upd_ne this]; exact m.same b u e
  · obtain ⟨a, o', h1, h2, h3, h4⟩ := m.cell k mo hk hg
    exact ⟨a, o', h1, by rw [upd_ne (ne a (List.mem_of_getElem? h1))]; exact h2, h3, h4⟩
/-- the turns of a comprehension -/
def LcT (X : Cx) (scope : Scope) (vs : List Nat) (tg elt : Expr) (ifs : List Expr) (ρ : Env') (xs : List Dt) (Pv : Nat → List Dt → Mu → Prop) : Prop :=
  ∀ i x acc μ', xs[i]? = some x → Pv i acc μ' → BE X scope fun X1 => dGv X1 J0 vs tg x (wipeD ρ vs) μ' fun ρ2 μ2 => BE X scope fun X2 => dTs X2 J0 ifs ρ2 μ2 fun b μ3 =>
    if b = true then BE X scope fun X3 => dE X3 J0 elt ρ2 μ3 fun y μ4 => acc.length < sizeLine ∧ Pv (i + 1) (acc ++ [y]) μ4 else Pv (i + 1) acc μ3
/-- what is handed on by a comprehension, with its new list at Dl -/
def LcQ (X : Cx) (as : List Addr) (G H : Hp) (Q : List Dt → Mu → Prop) : VK := fun v H' => ∃ (p : Addr) (xs : List V) (acc : List Dt) (μ' : Mu) (as' : List Addr) (G' : Hp), v = .ref p ∧ Step as G H as' G' H' ∧ Mem X.K as' G' H' μ' ∧ H p = none ∧ p ∉ as' ∧ G' p = none ∧ H' p = some (.lst xs) ∧ Ats X.K as' G' xs acc ∧ Q acc μ'
theorem lc_go {iter elt : Expr} {ifs : List Expr} {scope : Scope} {vs : List Nat} {Q : List Dt → Mu → Prop} {as : List Addr} {G : Hp} (S : Sx X J as G H σ ρ μ)
    (h : dI X J tg iter ρ μ fun xs ok μ1 => ∃ Pv : Nat → List Dt → Mu → Prop, Pv 0 [] μ1 ∧ (∀ i acc μ', Pv i acc μ' → ok μ') ∧ LcT X scope vs tg elt ifs ρ xs Pv ∧ (∀ acc μ', Pv xs.length acc μ' → Q acc μ')) :
    tLc (wI X tg iter) (fun v σ H Q => BE X scope fun X1 => wG X1 tg v σ H Q) (fun σ H Q => BE X scope fun X1 => wTs X1 ifs σ H Q) (fun σ H Q => BE X scope fun X1 => wE X1 elt σ H Q) vs σ H (LcQ X as G H Q) := by
  show wI X tg iter σ H fun It H1 => _
  refine dS_for.wI_mono (h as G H σ S) fun It H1 ⟨xs, ok, μ1, as1, G1, t1, m1, src, Pv, p0, pok, turn, done⟩ Dl hD => ?_
  have hD0 : H Dl = none := by
    cases q : H Dl with
    | none => rfl
    | some u => exact absurd hD (t1.ho _ (by rw [q]; simp))
  have nD1 : Dl ∉ as1 := fun z => m1.ne _ z hD
  have gD1 : G1 Dl = none := m1.same.free hD
  have mA := m1.aside (o := .lst []) hD
  refine ⟨fun i m H' => m = xs.length - i ∧ i ≤ xs.length ∧ ∃ zs acc μ' as' G', Step as1 G1 H1 as' G' H' ∧ Mem X.K as' G' H' μ' ∧ H' Dl = some (.lst zs) ∧ Dl ∉ as' ∧ G' Dl = none ∧ Ats X.K as' G' zs acc ∧ Pv i acc μ',
    ⟨xs.length, by simp, Nat.zero_le _, [], [], μ1, as1, G1, .aside m1 hD, mA, upd_same, nD1, gD1, .nil, p0⟩, ?_⟩
  have tk : ∀ {X1 : Cx} {as2 : List Addr} {G2 H2 : Hp}, TakesD X1 J0 as2 G2 H2 := TakesD.none
  rintro i m H' ⟨rfl, hi, zs, acc, μ', as', G', t', m', hz, nD, gD, az, pv⟩
  by_cases hlt : i < xs.length
  · have hx : xs[i]? = some xs[i] := by simp [hlt]
    obtain ⟨go, yl⟩ := src.item as' G' H' μ' t'.gg t'.ix m' (pok i acc μ' pv) i _ hx
    refine .inr ⟨go, fun H2 => ∃ zs acc μ' as' G', Step as1 G1 H1 as' G' H2 ∧ Mem X.K as' G' H2 μ' ∧ H2 Dl = some (.lst zs) ∧ Dl ∉ as' ∧ G' Dl = none ∧ Ats X.K as' G' zs acc ∧ Pv (i + 1) acc μ', fun H2 z => ⟨xs.length - (i + 1), by omega, rfl, hlt, z⟩, fun x H2 y => ?_⟩
    obtain ⟨G2, t2, m2, a2⟩ := yl x H2 y
    intro s0 H0 C0 cl0 fp0
    have keepD : ∀ {as3 : List Addr} {G3 H3 : Hp}, Step as' G' H' as3 G3 H3 → H3 Dl = some (.lst zs) ∧ Dl ∉ as3 ∧ G3 Dl = none := fun {as3 G3 H3} t => by
      refine ⟨t.hh _ _ hz nD, fun z => ?_, ?_⟩
      · rcases t.nw _ z with z | z
        · exact nD z
        · rw [hz] at z; cases z
      · cases q : G3 Dl with
        | none => rfl
        | some o =>
          rcases t.fr _ _ q with z | z | z
          · rw [gD] at z; cases z
          · rw [hz] at z; cases z
          · exact absurd z nD
    have S2 : Sx (Blk X scope s0 H0 C0 cl0 fp0) J0 as' G2 H2 (L2.wipe σ vs) (wipeD ρ vs) μ' := ⟨m2, ((S.sl.mono t1).mono (t'.trans t2)).wipe vs, tk⟩
    refine wG_mono (turn i _ acc μ' hx pv s0 H0 C0 cl0 fp0 as' G2 H2 _ x S2 a2) fun σ3 H3 ⟨⟨ρ3, μ3, as3, G3, t3, m3, s3, q3⟩, w3⟩ => ⟨?_, ?_⟩
    · rw [w3]
      have ww : ∀ (τ : L2.St) (ws : List Nat), L2.wipe (L2.wipe τ ws) ws = L2.wipe τ ws := by
        intro τ ws
        have gen : ∀ (us : List Nat), (∀ u ∈ us, u ∈ ws) → ∀ τ : L2.St, L2.wipe (L2.wipe τ us) ws = L2.wipe τ ws := by
          intro us
          induction us with
          | nil => intro _ _; rfl
          | cons u us ih =>
            intro hu τ
            show L2.wipe ((L2.wipe τ us).set u none) ws = _
            rw [wipe_set (hu u List.mem_cons_self)]
            exact ih (fun v hv => hu v (List.mem_cons_of_mem _ hv)) τ
        exact gen ws (fun _ h => h) τ
      exact ww σ vs
    intro s1 H1' C1 cl1 fp1
    refine wTs_mono (q3 s1 H1' C1 cl1 fp1 as3 G3 H3 σ3 ⟨m3, s3, tk⟩) fun b H4 ⟨μ4, as4, G4, t4, m4, q4⟩ => ?_
    have T := (t2.trans t3).trans t4
    cases b with
    | false =>
      rw [if_neg Bool.false_ne_true] at q4 ⊢
      obtain ⟨k1, k2, k3⟩ := keepD T
      exact ⟨zs, acc, μ4, as4, G4, t'.trans T, m4, k1, k2, k3, az.mono T.gg T.ix, q4⟩
    | true =>
      rw [if_pos rfl] at q4 ⊢
      intro s2 H2' C2 cl2 fp2
      refine wE_mono (q4 s2 H2' C2 cl2 fp2 as4 G4 H4 σ3 ⟨m4, s3.mono t4, tk⟩) fun yv H5 ⟨y, μ5, as5, G5, t5, m5, a5, hl, q5⟩ => ?_
      have T5 := T.trans t5
      obtain ⟨k1, k2, k3⟩ := keepD T5
      have al := az.mono T5.gg T5.ix
      refine ⟨zs, k1, by rw [al.length]; exact hl, zs ++ [yv], acc ++ [y], μ5, as5, G5, ?_, ?_, upd_same, k2, k3, al.append (.cons a5 .nil), q5⟩
      · have TT := t'.trans T5
        refine ⟨TT.pre, TT.gg, fun b u e n => ?_, fun b e => ?_, TT.fr, TT.nw⟩
        · by_cases hb : b = Dl
          · rw [hb, hD] at e
            cases e
          · rw [upd_ne hb]; exact TT.hh b u e n
        · by_cases hb : b = Dl
          · subst hb; rw [upd_same]; simp
          · rw [upd_ne hb]; exact TT.ho b e
      · exact m5.set_aside k2 k3
  · have e : i = xs.length := by omega
    subst e
    refine .inl ⟨src.stop as' G' H' μ' t'.gg t'.ix m' (pok _ acc μ' pv), Dl, zs, acc, μ', as', G', rfl, ?_, m', hD0, nD, gD, hz, az, done acc μ' pv⟩
    exact t1.trans t'
where
  wTs_mono {X : Cx} {ifs : List Expr} {σ : L2.St} {H : Hp} {Q Q' : Bool → Hp → Prop} (h : wTs X ifs σ H Q) (f : ∀ v H', Q v H' → Q' v H') : wTs X ifs σ H Q' := fun pins s I => thn (h pins s I) fun b _ ⟨H', I', q⟩ => ⟨H', I', f b H' q⟩
/-- taken over as it stands -/
theorem Mem.keep {K : PySem.W.Frag} {as : List Addr} {G H : Hp} {p : Addr} {o : HO} (m : Mem K as G H μ) (np : p ∉ as) (gp : G p = none) (hp : H p = some o) : Mem K as (upd G p o) H μ := by
  have e : upd H p o = H := by
    funext b
    by_cases hb : b = p
    · rw [hb, upd_same, hp]
    · rw [upd_ne hb]
  have z := m.take (o := o) np gp
  rwa [e] at z
theorem Mem.keepM {K : PySem.W.Frag} {as : List Addr} {G H : Hp} {p : Addr} {o : HO} {mo : Mo} (m : Mem K as G H μ) (np : p ∉ as) (gp : G p = none) (hp : H p = some o) (h : MoAt K as G o mo) : Mem K (as ++ [p]) G H (μ ++ [mo]) := by
  have e : upd H p o = H := by
    funext b
    by_cases hb : b = p
    · rw [hb, upd_same, hp]
    · rw [upd_ne hb]
  have z := m.takeM np gp h
  rwa [e] at z
theorem upd_self {H : Hp} {p : Addr} {o : HO} (hp : H p = some o) : upd H p o = H := by
  funext b
  by_cases hb : b = p
  · rw [hb, upd_same, hp]
  · rw [upd_ne hb]
theorem LcQ.frz {as : List Addr} {G : Hp} {Q : Dt → Mu → Prop} {v : V} {H' : Hp} (h : LcQ X as G H (fun acc μ' => Q (.lst acc) μ') v H') : AfE X.K as G H Q v H' := by
  obtain ⟨p, xs, acc, μ', as', G', rfl, t, m, hp, np, gp, hz, ax, q⟩ := h
  have z := t.take (o := .lst xs) hp gp
  rw [upd_self hz] at z
  exact ⟨.lst acc, μ', as', upd G' p (.lst xs), z, m.keep np gp hz, .lst (.of upd_same) (ax.mono (same_upd_none gp) fun _ _ h => h), q⟩
theorem LcQ.mut {as : List Addr} {G : Hp} {Q : Dt → Mu → Prop} {v : V} {H' : Hp} (h : LcQ X as G H (fun acc μ' => Q (.mut μ'.length) (μ' ++ [.lst acc])) v H') : AfE X.K as G H Q v H' := by
  obtain ⟨p, xs, acc, μ', as', G', rfl, t, m, hp, np, gp, hz, ax, q⟩ := h
  have z := t.takeM (o := .lst xs) hp
  rw [upd_self hz] at z
  exact ⟨.mut μ'.length, _, as' ++ [p], G', z, m.keepM (mo := .lst acc) np gp hz ⟨xs, rfl, ax⟩, .mut (by rw [← m.len]; simp), q⟩
theorem tLc_mono {wi : TI} {g : TG} {tt : TT} {te : TE} {vs : List Nat} {Q Q' : VK} (f : ∀ v H', Q v H' → Q' v H') (mi : ∀ (R R' : It → Hp → Prop), (∀ J H', R J H' → R' J H') → wi σ H R → wi σ H R') (h : tLc wi g tt te vs σ H Q) : tLc wi g tt te vs σ H Q' := by
  refine mi _ _ (fun J H1 z D hD => ?_) h
  obtain ⟨W, w0, turn⟩ := z D hD
  refine ⟨W, w0, fun i m H' w => ?_⟩
  rcases turn i m H' w with ⟨s, q⟩ | r
  · exact .inl ⟨s, f _ _ q⟩
  · exact .inr r
/-- [elt for tg in iter if ..]: frozen, or to be changed -/
theorem dE_lcQ {iter elt : Expr} {ifs : List Expr} {scope : Scope} (own : List (Str × Nat)) {Q : List Dt → Mu → Prop} {Q2 : Dt → Mu → Prop} (f : ∀ as G H v H', LcQ X as G H Q v H' → AfE X.K as G H Q2 v H') (hc : X.calm = true) (hN : X.N.Nodup) (ok : BlkOk X.N X.env.scope scope own)
    (h : dI X J tg iter ρ μ fun xs ok μ1 => ∃ Pv : Nat → List Dt → Mu → Prop, Pv 0 [] μ1 ∧ (∀ i acc μ', Pv i acc μ' → ok μ') ∧ LcT X scope (own.map (·.2)) tg elt ifs ρ xs Pv ∧ (∀ acc μ', Pv xs.length acc μ' → Q acc μ'))
    (hs : ∀ x, foldedSetIterable iter X.env x = pure x := by intro _; rfl) : dE X J (.ListComp elt [⟨tg, iter, ifs, 0⟩] scope pos) ρ μ Q2 := .mk fun as G H σ S => by
  refine (pe_lc (g := fun v σ H Q => BE X scope fun X1 => wG X1 tg v σ H Q) (tt := fun σ H Q => BE X scope fun X1 => wTs X1 ifs σ H Q) (te := fun σ H Q => BE X scope fun X1 => wE X1 elt σ H Q) hc hN piW ok
    (fun s H C cl fp => ⟨fun pins s1 σ1 H1 v u Q I r z => z s H C cl fp pins s1 u I r⟩) (fun s H C cl fp => ⟨fun pins s1 σ1 H1 Q I z => z s H C cl fp pins s1 I⟩) (fun s H C cl fp => ⟨fun pins s1 σ1 H1 Q I z => z s H C cl fp pins s1 I⟩) hs).w ?_
  exact tLc_mono (fun v H' z => f as G H v H' z) (fun R R' k z => dS_for.wI_mono z k) (lc_go S h)
theorem dE_lc {iter elt : Expr} {ifs : List Expr} {scope : Scope} (own : List (Str × Nat)) {Q : Dt → Mu → Prop} (hc : X.calm = true) (hN : X.N.Nodup) (ok : BlkOk X.N X.env.scope scope own)
    (h : dI X J tg iter ρ μ fun xs ok μ1 => ∃ Pv : Nat → List Dt → Mu → Prop, Pv 0 [] μ1 ∧ (∀ i acc μ', Pv i acc μ' → ok μ') ∧ LcT X scope (own.map (·.2)) tg elt ifs ρ xs Pv ∧ (∀ acc μ', Pv xs.length acc μ' → Q (.lst acc) μ'))
    (hs : ∀ x, foldedSetIterable iter X.env x = pure x := by intro _; rfl) : dE X J (.ListComp elt [⟨tg, iter, ifs, 0⟩] scope pos) ρ μ Q := dE_lcQ own (fun _ _ _ _ _ z => z.frz) hc hN ok h hs
theorem dE_lcM {iter elt : Expr} {ifs : List Expr} {scope : Scope} (own : List (Str × Nat)) {Q : Dt → Mu → Prop} (hc : X.calm = true) (hN : X.N.Nodup) (ok : BlkOk X.N X.env.scope scope own)
    (h : dI X J tg iter ρ μ fun xs ok μ1 => ∃ Pv : Nat → List Dt → Mu → Prop, Pv 0 [] μ1 ∧ (∀ i acc μ', Pv i acc μ' → ok μ') ∧ LcT X scope (own.map (·.2)) tg elt ifs ρ xs Pv ∧ (∀ acc μ', Pv xs.length acc μ' → Q (.mut μ'.length) (μ' ++ [.lst acc])))
    (hs : ∀ x, foldedSetIterable iter X.env x = pure x := by intro _; rfl) : dE X J (.ListComp elt [⟨tg, iter, ifs, 0⟩] scope pos) ρ μ Q := dE_lcQ own (fun _ _ _ _ _ z => z.mut) hc hN ok h hs
/-- name = [..] -/
theorem dS_setLcQ (i : Nat) {y : Str} {py : Pos} {iter elt : Expr} {ifs : List Expr} {scope : Scope} {lpos : Pos} (own : List (Str × Nat)) {Q : List Dt → Mu → Prop} {Q2 : Dt → Mu → Prop} (f : ∀ as G H v H', LcQ X as G H Q v H' → AfE X.K as G H Q2 v H') (hc : X.calm = true) (hN : X.N.Nodup) (hy : X.N[i]? = some y) (hyl : X.env.scope.names.lookup y = some .local) (ok : BlkOk X.N X.env.scope scope own)
    (hsw : swapsWith (.ListComp elt [⟨tg, iter, ifs, 0⟩] scope lpos) (some (.Name y py)) pos.line X.env = pure true)
    (h : dI X J tg iter ρ μ fun xs ok μ1 => ∃ Pv : Nat → List Dt → Mu → Prop, Pv 0 [] μ1 ∧ (∀ i acc μ', Pv i acc μ' → ok μ') ∧ LcT X scope (own.map (·.2)) tg elt ifs ρ xs Pv ∧ (∀ acc μ', Pv xs.length acc μ' → Q acc μ'))
    (q : ∀ d μ', Q2 d μ' → D.nx (ρ.set i (some d)) μ')
    (hs : ∀ x, foldedSetIterable iter X.env x = pure x := by intro _; rfl) : dS X J (.Assign [.Name y py] (.ListComp elt [⟨tg, iter, ifs, 0⟩] scope lpos) pos) ρ μ D := .mk fun as G H σ S => by
  refine (ps_setLc (i := i) (g := fun v σ H Q => BE X scope fun X1 => wG X1 tg v σ H Q) (tt := fun σ H Q => BE X scope fun X1 => wTs X1 ifs σ H Q) (te := fun σ H Q => BE X scope fun X1 => wE X1 elt σ H Q) hc hN hy hyl hsw piW ok
    (fun s H C cl fp => ⟨fun pins s1 σ1 H1 v u Q I r z => z s H C cl fp pins s1 u I r⟩) (fun s H C cl fp => ⟨fun pins s1 σ1 H1 Q I z => z s H C cl fp pins s1 I⟩) (fun s H C cl fp => ⟨fun pins s1 σ1 H1 Q I z => z s H C cl fp pins s1 I⟩) hs).w ?_
  show tLc _ _ _ _ _ σ H fun v H1 => AfS X.K as G H D.nx (σ.set i (some v)) H1
  refine tLc_mono (fun v H' z => ?_) (fun R R' k z => dS_for.wI_mono z k) (lc_go S h)
  obtain ⟨d, μ1, as1, G1, t, m, a, q2⟩ := f as G H v H' z
  exact ⟨_, μ1, as1, G1, t, m, (S.sl.mono t).set i a, q d μ1 q2⟩
theorem dS_setLc (i : Nat) {y : Str} {py : Pos} {iter elt : Expr} {ifs : List Expr} {scope : Scope} {lpos : Pos} (own : List (Str × Nat)) (hc : X.calm = true) (hN : X.N.Nodup) (hy : X.N[i]? = some y) (hyl : X.env.scope.names.lookup y = some .local) (ok : BlkOk X.N X.env.scope scope own)
    (hsw : swapsWith (.ListComp elt [⟨tg, iter, ifs, 0⟩] scope lpos) (some (.Name y py)) pos.line X.env = pure true)
    (h : dI X J tg iter ρ μ fun xs ok μ1 => ∃ Pv : Nat → List Dt → Mu → Prop, Pv 0 [] μ1 ∧ (∀ i acc μ', Pv i acc μ' → ok μ') ∧ LcT X scope (own.map (·.2)) tg elt ifs ρ xs Pv ∧ (∀ acc μ', Pv xs.length acc μ' → D.nx (ρ.set i (some (.lst acc))) μ'))
    (hs : ∀ x, foldedSetIterable iter X.env x = pure x := by intro _; rfl) : dS X J (.Assign [.Name y py] (.ListComp elt [⟨tg, iter, ifs, 0⟩] scope lpos) pos) ρ μ D :=
  dS_setLcQ i own (Q2 := fun d μ' => D.nx (ρ.set i (some d)) μ') (fun _ _ _ _ _ z => z.frz) hc hN hy hyl ok hsw h (fun _ _ z => z) hs
theorem dS_setLcM (i : Nat) {y : Str} {py : Pos} {iter elt : Expr} {ifs : List Expr} {scope : Scope} {lpos : Pos} (own : List (Str × Nat)) (hc : X.calm = true) (hN : X.N.Nodup) (hy : X.N[i]? = some y) (hyl : X.env.scope.names.lookup y = some .local) (ok : BlkOk X.N X.env.scope scope own)
    (hsw : swapsWith (.ListComp elt [⟨tg, iter, ifs, 0⟩] scope lpos) (some (.Name y py)) pos.line X.env = pure true)
    (h : dI X J tg iter ρ μ fun xs ok μ1 => ∃ Pv : Nat → List Dt → Mu → Prop, Pv 0 [] μ1 ∧ (∀ i acc μ', Pv i acc μ' → ok μ') ∧ LcT X scope (own.map (·.2)) tg elt ifs ρ xs Pv ∧ (∀ acc μ', Pv xs.length acc μ' → D.nx (ρ.set i (some (.mut μ'.length))) (μ' ++ [.lst acc])))
    (hs : ∀ x, foldedSetIterable iter X.env x = pure x := by intro _; rfl) : dS X J (.Assign [.Name y py] (.ListComp elt [⟨tg, iter, ifs, 0⟩] scope lpos) pos) ρ μ D :=
  dS_setLcQ i own (Q2 := fun d μ' => D.nx (ρ.set i (some d)) μ') (fun _ _ _ _ _ z => z.mut) hc hN hy hyl ok hsw h (fun _ _ z => z) hs
end
end DL

/-! D5: defs over data: what they promise, how they are called. -/
namespace DL
open PySem PySem.Spec PyProof.Rows L2

/-! ### a def's promise over data -/
/-- the arguments' data, the mutable objects handed in, what is wanted of the result, of an exception -/
abbrev Spc := List Dt → Mu → (Dt → Mu → Prop) → JX → Prop
def spD (K : PySem.W.Frag) (R : Spc) : Sp := fun vs H Q E => ∃ as G ds μ Qd J, Mem K as G H μ ∧ Ats K as G vs ds ∧ R ds μ Qd J ∧ (∀ v H', AfE K as G H Qd v H' → Q v H') ∧ (∀ cls d H', WJ K J as G H cls d H' → E cls d H')
structure FnG (P : Program) (w : World) (K : PySem.W.Frag) (mg : Str → Option Value) (base : Heap) (k : Nat) (f : Addr) (fd : FuncData) (ps : List Str) (R : Spc) : Prop where
  len : ∀ ds μ Q J, R ds μ Q J → ds.length = ps.length
  run : ∀ (A : Around) (outer : List Env) (s : Shared) (H : Hp) (args : Args) (us : List Value) (vs : List V) (Q : VK) (E : XK), Room k A → A.guards = some [] → Env0 P w K mg base A outer s H → BindsTo s fd args (ps.zip us) → Vals vs us → spD K R vs H Q E →
    codeAny (model P w) A (.call (.ref f) args) (CR (L2.CX P w) outer P w H s Q E) s
theorem FnG.mono {P : Program} {w : World} {K : PySem.W.Frag} {mg : Str → Option Value} {base : Heap} {j k : Nat} {f : Addr} {fd : FuncData} {ps : List Str} {R : Spc} (F : FnG P w K mg base j f fd ps R) (h : j ≤ k) : FnG P w K mg base k f fd ps R :=
  ⟨F.len, fun A outer s H args us vs Q E hr => F.run A outer s H args us vs Q E (hr.mono h)⟩
theorem FnG.imp {P : Program} {w : World} {K : PySem.W.Frag} {mg : Str → Option Value} {base : Heap} {k : Nat} {f : Addr} {fd : FuncData} {ps : List Str} {R R' : Spc} (F : FnG P w K mg base k f fd ps R) (h : ∀ ds μ Q J, R' ds μ Q J → R ds μ Q J) : FnG P w K mg base k f fd ps R' :=
  ⟨fun ds μ Q J z => F.len ds μ Q J (h _ _ _ _ z), fun A outer s H args us vs Q E hr hg e0 hb r hs => F.run A outer s H args us vs Q E hr hg e0 hb r (by
    obtain ⟨as, G, ds, μ, Qd, J, m, a, z, q⟩ := hs
    exact ⟨as, G, ds, μ, Qd, J, m, a, h _ _ _ _ z, q⟩)⟩
def startD (N : List Str) (ds : List Dt) : Env' := ds.map some ++ List.replicate (N.length - ds.length) none
theorem Slots.start {K : PySem.W.Frag} {as : List Addr} {G : Hp} {N : List Str} {vs : List V} {ds : List Dt} (a : Ats K as G vs ds) : Slots K as G (L2.start N vs) (startD N ds) := by
  have hl := a.length
  refine ⟨by simp [L2.start, startD, hl], fun i d h => ?_⟩
  unfold startD at h
  by_cases hi : i < ds.length
  · rw [List.getElem?_append_left (by simpa using hi), List.getElem?_map] at h
    cases e : ds[i]? with
    | none => rw [e] at h; cases h
    | some x =>
      rw [e] at h
      cases h
      obtain ⟨v, hv, av⟩ := a.got e
      refine ⟨v, ?_, av⟩
      unfold L2.start
      rw [List.getElem?_append_left (by simpa [hl] using hi), List.getElem?_map, hv]
      rfl
  · rw [List.getElem?_append_right (by simpa using hi), List.getElem?_replicate] at h
    split at h <;> cases h
theorem FnG.ofC {P : Program} {w : World} {K : PySem.W.Frag} {mg : Str → Option Value} {base : Heap} {x qual : Str} {st : Stmt} {f : Addr} {fd : FuncData} {N ps : List Str} {k : Nat} {R : Spc} (F : Fun K x qual st f fd) (S : FnScope N ps (defScope st)) (len : ∀ ds μ Q J, R ds μ Q J → ds.length = ps.length)
    (hbody : ∀ (cdv : Value), fd.code = cdv → ∀ (A : Around) (outer : List Env) (s : Shared) (H : Hp) (E : XK) (ds : List Dt) (μ : Mu) (Q : Dt → Mu → Prop) (J : JX), Room k (A.deeper (envOfC qual (defScope st) s.heap.objs.size f cdv)) → A.guards = some [] → R ds μ Q J →
      dSs (cxOf (L2.CX P w) P w K mg base N qual (defScope st) f cdv A outer s H E) J (defBody st) (startD N ds) μ { nx := fun _ μ' => Q .non μ', rt := Q }) : FnG P w K mg base (k + 1) f fd ps R := by
  obtain ⟨oc, od, kV, doc, pm, an, cdv, ct, osl, rfl, lk, hcd⟩ := F.ex
  refine ⟨len, fun A outer s H args us vs Q E hr hg e0 hb r hsp => ?_⟩
  obtain ⟨as, G, ds, μ, Qd, J, m, a, hR, hQ, hE⟩ := hsp
  have hl : vs.length = ps.length := a.length.trans (len _ _ _ _ hR)
  have KX : K.In s.heap := e0.mod.kin.keeps fun b o e => (e0.bs b o e).1
  have lim : s.heap.NoLimit := e0.mod.nolimit.keeps fun b o e => (e0.bs b o e).1
  have hkind : ∀ y ∈ ps.zip us, (defScope st).names.lookup y.1 = some .local ∨ ((defScope st).names.lookup y.1 = some .cell ∧ ((cellsFrom (s.heap.objs.size + 1) (defScope st).names []).lookup y.1).isSome = true) := fun ⟨n, v⟩ hy => by
    rcases S.par n (List.of_mem_zip hy).1 with q | q
    · exact .inl q
    · exact .inr ⟨q, PySem.W.cellsFrom_some _ _ _ (.inl q)⟩
  refine codeAny_call_function hr.depth (KX _ _ lk) rfl S.co S.gen rfl (PySem.W.codeRec_of KX hcd) (hb _ _ _ _ ?_)
  refine wpAny_newFunctionEnv_cells S.kind hkind fun env he s1 x => ?_
  subst he
  refine ⟨lim.keeps x.toInCall.keep, codeAny_func ?_⟩
  have I : Inv (cxOf (L2.CX P w) P w K mg base N qual (defScope st) f cdv A outer s H E) [] (L2.start N vs) H s1 := inv_start S hr.hd e0 hl r x
  have tk : TakesD (cxOf (L2.CX P w) P w K mg base N qual (defScope st) f cdv A outer s H E) J as G H := Takes.imp (takes_of (E := E) rfl rfl rfl rfl) fun cls d σ H' z => hE cls d H' z
  refine wpAny_mono (hbody cdv rfl A outer s H E ds μ Qd J (hr.deeper _) hg hR as G H (L2.start N vs) ⟨m, .start a, tk⟩ [] s1 I) (fun fl s' hs => ?_) fun e s' hs => hs
  have fin : ∀ {σ' : L2.St} {H' : Hp} {v : V} {u : Value}, Inv (cxOf (L2.CX P w) P w K mg base N qual (defScope st) f cdv A outer s H E) [] σ' H' s' → RelV v u → Q v H' → CE outer P w H s Q u s' :=
    fun {σ' H' v u} J rv q => ⟨v, H', J.os, J.bare, J.base, J.hok, rv, q⟩
  cases fl with
  | ret u =>
    obtain ⟨v, σ', H', J', rv, q⟩ := hs
    exact fin J' rv (hQ _ _ q)
  | next =>
    obtain ⟨σ', H', J', ρ', μ', as', G', t, m', s2, q⟩ := hs
    exact fin (v := V.non) (u := Value.none) J' rfl (hQ _ _ ⟨.non, μ', as', G', t, m', .non, q⟩)
  | brk =>
    obtain ⟨_, _, _, _, _, _, _, _, _, _, q⟩ := hs
    exact q.elim
  | cont =>
    obtain ⟨_, _, _, _, _, _, _, _, _, _, q⟩ := hs
    exact q.elim
theorem FnG.of {P : Program} {w : World} {K : PySem.W.Frag} {mg : Str → Option Value} {base : Heap} {x qual : Str} {st : Stmt} {f : Addr} {fd : FuncData} {N ps : List Str} {k : Nat} {R : Spc} (F : Fun K x qual st f fd) (S : FnScope N ps (defScope st)) (len : ∀ ds μ Q J, R ds μ Q J → ds.length = ps.length)
    (hbody : ∀ (cdv : Value) (A : Around) (outer : List Env) (s : Shared) (H : Hp) (E : XK) (ds : List Dt) (μ : Mu) (Q : Dt → Mu → Prop) (J : JX), Room k (A.deeper (envOfC qual (defScope st) s.heap.objs.size f cdv)) → A.guards = some [] → R ds μ Q J →
      dSs (cxOf (L2.CX P w) P w K mg base N qual (defScope st) f cdv A outer s H E) J (defBody st) (startD N ds) μ { nx := fun _ μ' => Q .non μ', rt := Q }) : FnG P w K mg base (k + 1) f fd ps R :=
  FnG.ofC F S len fun cdv _ A outer s H E ds μ Q J hr hg hR => hbody cdv A outer s H E ds μ Q J hr hg hR

/-! ### calls -/
/-- a callee that got no mutable object -/
theorem lift0 {K : PySem.W.Frag} {as as' : List Addr} {G H G' H' : Hp} {μ : Mu} (m : Mem K as G H μ) (t : Step [] G H as' G' H') (g : Same G' H') : Step as G H as G' H' ∧ Mem K as G' H' μ := by
  have gn : ∀ (k : Nat) (a : Addr) (o : HO), as[k]? = some a → H a = some o → G a = none → G' a = none := fun k a o h1 h2 h3 => by
    cases q : G' a with
    | none => rfl
    | some u =>
      rcases t.fr _ _ q with z | z | z
      · rw [h3] at z; cases z
      · rw [h2] at z; cases z
      · simp at z
  refine ⟨⟨⟨[], by simp⟩, t.gg, fun b o e _ => t.hh b o e (by simp), t.ho, fun b o e => ?_, fun a h => .inl h⟩, ⟨g, m.len, fun k mo hk hg => ?_, m.nd, fun a h => t.ho a (m.ne a h)⟩⟩
  · rcases t.fr b o e with z | z | z
    · exact .inl z
    · exact .inr (.inl z)
    · simp at z
  · obtain ⟨a, o, h1, h2, h3, h4⟩ := m.cell k mo hk hg
    exact ⟨a, o, h1, t.hh _ _ h2 (by simp), h3.mono t.gg (fun _ _ h => h), gn k a o h1 h2 h4⟩
def Mo.mf : Mo → Bool
  | .lst xs => mfs xs
  | .dic es => mfk es
  | .ins _ fs => mff fs
  | .gone => true
  | .cell _ _ _ _ => false
  | .tab _ _ _ => false
theorem MoAt.free {K : PySem.W.Frag} {as bs : List Addr} {G : Hp} {o : HO} {m : Mo} (h : MoAt K as G o m) (f : m.mf = true) : MoAt K bs G o m := by
  cases m with
  | lst ds => obtain ⟨xs, e, h⟩ := h; exact ⟨xs, e, h.free f⟩
  | dic es => obtain ⟨kvs, e, h⟩ := h; exact ⟨kvs, e, h.free f⟩
  | ins C fs => obtain ⟨dx, vs, e, h⟩ := h; exact ⟨dx, vs, e, h.free f⟩
  | gone => trivial
  | cell n c oc d => cases f
  | tab n P q => cases f
/-- a callee that got the mutable object number k -/
theorem lift1 {K : PySem.W.Frag} {as as' : List Addr} {G H G' H' : Hp} {μ μ' : Mu} {k : Nat} {p : Addr} {m0 m1 : Mo} (m : Mem K as G H μ) (hk : as[k]? = some p) (h0 : μ[k]? = some m0) (g0 : m0 ≠ .gone) (t : Step [p] G H as' G' H') (mc : Mem K as' G' H' μ') (h1 : μ'[0]? = some m1) (g1 : m1 ≠ .gone) (f1 : m1.mf = true) :
    Step as G H as G' H' ∧ Mem K as G' H' (μ.set k m1) := by
  have hp0 : as'[0]? = some p := t.ix 0 p rfl
  obtain ⟨q, o1, e1, e2, e3, e4⟩ := mc.cell 0 m1 h1 g1
  rw [hp0] at e1; cases e1
  have pin : p ∈ as := List.mem_of_getElem? hk
  have inj : ∀ {j : Nat} {a : Addr}, as[j]? = some a → a = p → j = k := fun {j a} h z => by
    subst z
    obtain ⟨l1, f1⟩ := List.getElem?_eq_some_iff.mp h
    obtain ⟨l2, f2⟩ := List.getElem?_eq_some_iff.mp hk
    exact (List.getElem_inj m.nd).mp (f1.trans f2.symm)
  refine ⟨⟨⟨[], by simp⟩, t.gg, fun b o e n => t.hh b o e (by simp; exact fun z => n (z ▸ pin)), t.ho, fun b o e => ?_, fun a h => .inl h⟩, ⟨mc.same, by simp [m.len], fun j mo hj hg => ?_, m.nd, fun a h => t.ho a (m.ne a h)⟩⟩
  · rcases t.fr b o e with z | z | z
    · exact .inl z
    · exact .inr (.inl z)
    · exact .inr (.inr (by simp at z; exact z ▸ pin))
  · by_cases hjk : k = j
    · subst hjk
      have hl := (List.getElem?_eq_some_iff.mp h0).1
      rw [List.getElem?_set_self hl] at hj
      cases hj
      exact ⟨p, o1, hk, e2, e3.free f1, e4⟩
    · rw [List.getElem?_set_ne hjk] at hj
      obtain ⟨a, o, a1, a2, a3, a4⟩ := m.cell j mo hj hg
      have np : a ≠ p := fun z => hjk (inj a1 z).symm
      refine ⟨a, o, a1, t.hh _ _ a2 (by simpa using np), a3.mono t.gg (fun _ _ h => h), ?_⟩
      cases q : G' a with
      | none => rfl
      | some u =>
        rcases t.fr _ _ q with z | z | z
        · rw [a4] at z; cases z
        · rw [a2] at z; cases z
        · exact absurd (by simpa using z) np
section
variable {X : Cx} {J : JX} {e a b c o i : Expr} {es : List Expr} {ρ : Env'} {μ : Mu} {σ : L2.St} {H : Hp} {pos : Pos} {k : Nat} {f : Addr} {fd : FuncData} {ps : List Str} {R : Spc}
/-- the callee runs -/
theorem run_fnG {pins : List (Addr × Obj)} {s : Shared} {Q : VK} {us : List Value} {vs : List V} {W : WX} (F : FnG X.prog X.w X.K X.mg X.base k f fd ps R) (hr : Room k X.A) (hg : X.A.guards = some []) (hb : Binds X.K fd ps []) (tk : Takes X W)
    (I : Inv X pins σ H s) (r : Vals vs us) (h : spD X.K R vs H Q (WE W σ)) : wpAny (model X.prog X.w) X.A (call (.ref f) us) (EP X pins σ Q) X.xe s := by
  have hl : us.length = ps.length := by
    obtain ⟨as, G, ds, μ, Qd, J, m, a, z, q⟩ := h
    rw [← r.length, a.length]
    exact F.len _ _ _ _ z
  have b := hb s us I.kIn (by rw [List.append_nil]; exact hl)
  rw [List.append_nil] at b
  refine wpAny_call (codeAny_mono (F.run X.A X.stack s H ⟨us, []⟩ us vs Q (WE W σ) hr hg I.env0 b r h) fun r s' hq => ?_)
  cases r with
  | error e => exact passAt tk σ pins H s e s' I hq
  | ok fl =>
    cases fl with
    | ret u => exact I.after hq
    | next => exact False.elim hq
    | brk => exact False.elim hq
    | cont => exact False.elim hq
theorem spD0 {K : PySem.W.Frag} {as : List Addr} {G : Hp} {vs : List V} {ds : List Dt} {Q : Dt → Mu → Prop} (m : Mem K as G H μ) (av : Ats K as G vs ds) (mf : mfs ds = true) (h : R ds [] (fun d _ => d.mf = true ∧ Q d μ) (fun C fs _ => mff fs = true ∧ J C fs μ)) :
    spD K R vs H (AfE K as G H Q) (fun cls d H' => WJ K J as G H cls d H') := by
  refine ⟨[], G, ds, [], _, _, ⟨m.same, rfl, fun k mo hk => by simp at hk, List.nodup_nil, fun a h => by simp at h⟩, av.free mf, h, ?_, ?_⟩
  · rintro v H' ⟨d, μ', as', G', t, m', a', md, q⟩
    obtain ⟨t2, m2⟩ := lift0 m t m'.same
    exact ⟨d, μ, as, G', t2, m2, a'.free md, q⟩
  · rintro cls d H' ⟨C, as', G', μ', gs, e, t, m', fz, mg, j⟩
    obtain ⟨t2, m2⟩ := lift0 m t m'.same
    refine ⟨C, as, G', μ, gs, e, t2, m2, ?_, j⟩
    rcases fz with z | ⟨dd, fs, e1, e2, e3⟩
    · exact .inl z
    · exact .inr ⟨dd, fs, e1, e2, e3.free mg⟩
theorem spD1 {K : PySem.W.Frag} {as : List Addr} {G : Hp} {vs : List V} {v0 : V} {j : Nat} {m0 : Mo} {ds : List Dt} {Q : Dt → Mu → Prop} (m : Mem K as G H μ) (a0 : At K as G v0 (.mut j)) (av : Ats K as G vs ds) (h0 : μ[j]? = some m0) (g0 : m0 ≠ .gone) (f0 : m0.mf = true) (mf : mfs ds = true)
    (h : R (.mut 0 :: ds) [m0] (fun d μ' => d.mf = true ∧ ∃ m1, μ'[0]? = some m1 ∧ m1 ≠ .gone ∧ m1.mf = true ∧ Q d (μ.set j m1)) (fun C fs μ' => mff fs = true ∧ ∃ m1, μ'[0]? = some m1 ∧ m1 ≠ .gone ∧ m1.mf = true ∧ J C fs (μ.set j m1))) :
    spD K R (v0 :: vs) H (AfE K as G H Q) (fun cls d H' => WJ K J as G H cls d H') := by
  cases a0 with
  | «mut» hj =>
    rename_i p
    obtain ⟨p', o', e1, e2, e3, e4⟩ := m.cell j m0 h0 g0
    rw [hj] at e1; cases e1
    refine ⟨[p], G, .mut 0 :: ds, [m0], _, _, ⟨m.same, rfl, fun k mo hk hg => ?_, by simp, fun a h => ?_⟩, .cons (.mut rfl) (av.free mf), h, ?_, ?_⟩
    · have : k = 0 := by
        have := (List.getElem?_eq_some_iff.mp hk).1
        simpa using this
      subst this
      simp at hk
      subst hk
      exact ⟨p, o', rfl, e2, e3.free f0, e4⟩
    · have : a = p := by simpa using h
      subst this
      rw [e2]; simp
    · rintro v H' ⟨d, μ', as', G', t, m', a', md, m1, h1, g1, f1, q⟩
      obtain ⟨t2, m2⟩ := lift1 m hj h0 g0 t m' h1 g1 f1
      exact ⟨d, _, as, G', t2, m2, a'.free md, q⟩
    · rintro cls d H' ⟨C, as', G', μ', gs, e, t, m', fz, mg, m1, h1, g1, f1, q⟩
      obtain ⟨t2, m2⟩ := lift1 m hj h0 g0 t m' h1 g1 f1
      refine ⟨C, as, G', _, gs, e, t2, m2, ?_, q⟩
      rcases fz with z | ⟨dd, fs, e1, e2, e3⟩
      · exact .inl z
      · exact .inr ⟨dd, fs, e1, e2, e3.free mg⟩
/-- how a call is made: without mutable objects, or with one as the first argument -/
def CallsD (R : Spc) (J : JX) (ds : List Dt) (μ : Mu) (Q : Dt → Mu → Prop) : Prop :=
  (mfs ds = true ∧ R ds [] (fun d _ => d.mf = true ∧ Q d μ) (fun C fs _ => mff fs = true ∧ J C fs μ)) ∨
  ∃ j m0 r, ds = .mut j :: r ∧ μ[j]? = some m0 ∧ m0 ≠ .gone ∧ m0.mf = true ∧ mfs r = true ∧
    R (.mut 0 :: r) [m0] (fun d μ' => d.mf = true ∧ ∃ m1, μ'[0]? = some m1 ∧ m1 ≠ .gone ∧ m1.mf = true ∧ Q d (μ.set j m1)) (fun C fs μ' => mff fs = true ∧ ∃ m1, μ'[0]? = some m1 ∧ m1 ≠ .gone ∧ m1.mf = true ∧ J C fs (μ.set j m1))
theorem CallsD.sp {K : PySem.W.Frag} {as : List Addr} {G : Hp} {vs : List V} {ds : List Dt} {Q : Dt → Mu → Prop} (h : CallsD R J ds μ Q) (m : Mem K as G H μ) (av : Ats K as G vs ds) : spD K R vs H (AfE K as G H Q) (fun cls d H' => WJ K J as G H cls d H') := by
  rcases h with ⟨mf, h⟩ | ⟨j, m0, r, rfl, h0, g0, f0, mf, h⟩
  · exact spD0 m av mf h
  · cases av with
    | cons a0 ar => exact spD1 m a0 ar h0 g0 f0 mf h
theorem dE_call {x : Str} {p : Pos} {Q : Dt → Mu → Prop} (F : FnG X.prog X.w X.K X.mg X.base k f fd ps R) (hr : Room k X.A) (hgd : X.A.guards = some []) (hm : X.mg x = some (.ref f)) (hk : PySem.W.keepIn X.K (.ref f) = true) (hb : Binds X.K fd ps [])
    (h : dA X J (e :: es) ρ μ fun ds μ1 => CallsD R J ds μ1 Q)
    (hg : Gl X x := by rfl) (hdb : (x == ("__debug__" : Str)) = false := by decide) (he : starEach (e :: es) X.env = (false, eval e X.env) :: starEach es X.env := by rfl) (hpl : (backTo pos (starEach es X.env)).any (·.1) = false := by rfl) :
    dE X J (.Call (.Name x p) (e :: es) [] pos) ρ μ Q := .mk fun as G H σ S pins s I => by
  refine wpAny_Call_Name_kw (ld_glob I hg hm ?_ hdb)
  refine PySem.W.callWith_K (h₀ := X.base) I.ok.mod.kin hk (thn (h as G H σ S pos pins s I) fun us s1 ⟨vs, H1, I1, r, ds, μ1, as1, G1, t, m, av, q⟩ => ⟨I1.kIn, ?_⟩) he hpl
  have z := run_fnG (Q := AfE X.K as1 G1 H1 Q) F hr hgd hb (S.tk.step t) I1 r (q.sp m av)
  exact thn z fun u s2 ⟨v, H2, I2, rv, q2⟩ => ⟨v, H2, I2, rv, q2.back t⟩
theorem dE_call0 {x : Str} {p : Pos} {Q : Dt → Mu → Prop} (F : FnG X.prog X.w X.K X.mg X.base k f fd ps R) (hr : Room k X.A) (hgd : X.A.guards = some []) (hm : X.mg x = some (.ref f)) (hk : PySem.W.keepIn X.K (.ref f) = true) (hb : Binds X.K fd ps [])
    (h : CallsD R J [] μ Q) (hg : Gl X x := by rfl) (hdb : (x == ("__debug__" : Str)) = false := by decide) : dE X J (.Call (.Name x p) [] [] pos) ρ μ Q := .mk fun as G H σ S pins s I => by
  refine wpAny_Call_Name_kw (ld_glob I hg hm ?_ hdb)
  exact PySem.W.callWith_K0 I.kIn hk (run_fnG (us := []) F hr hgd hb S.tk I .nil (h.sp S.mem .nil))
end
end DL

/-! D6: repr of data (dicts within too). -/
namespace DL
open PySem PySem.Spec PyProof.Rows L2

/-! ### data as it is shown -/
def keyPy : Key → PyData
  | .inl i => .int i
  | .inr x => .str x
mutual
def toPy : Dt → Option PyData
  | .non => some .none
  | .bl b => some (.bool b)
  | .int i => some (.int i)
  | .str x => some (.str x)
  | .lst xs => (toPys xs).map .list
  | .tup xs => (toPys xs).map .tuple
  | .dic es => (toPyk es).map .dict
  | _ => none
def toPys : List Dt → Option (List PyData)
  | [] => some []
  | d :: r => match toPy d, toPys r with
    | some p, some ps => some (p :: ps)
    | _, _ => none
def toPyk : List (Key × Dt) → Option (List (PyData × PyData))
  | [] => some []
  | (k, d) :: r => match toPy d, toPyk r with
    | some p, some ps => some ((keyPy k, p) :: ps)
    | _, _ => none
end
/-! ### what the heap says of it; a dict is not the system's own -/
mutual
inductive RdD (h : Heap) : Value → PyData → Prop
  | none : RdD h .none .none
  | bool (b : Bool) : RdD h (.bool b) (.bool b)
  | int (i : Int) (t : Tok) : RdD h (.int i t) (.int i)
  | str (x : Str) (t : Tok) : RdD h (.str x t) (.str x)
  | list {a : Addr} {o : Obj} {vs : Array Value} {n : Nat} {xs : List PyData} : h.get? a = some o → o.cls = .type "list" → o.data = .seq vs n → RdsD h vs.toList xs → RdD h (.ref a) (.list xs)
  | tuple {a : Addr} {o : Obj} {vs : Array Value} {n : Nat} {xs : List PyData} : h.get? a = some o → o.cls = .type "tuple" → o.data = .seq vs n → RdsD h vs.toList xs → RdD h (.ref a) (.tuple xs)
  | dict {a : Addr} {o : Obj} {es : Array DictEntry} {n : Nat} {kvs : List (PyData × PyData)} : (a == sysModules) = false → h.get? a = some o → o.cls = .type "dict" → o.data = .dict es n → RdsD h (es.toList.map (·.key)) (kvs.map (·.1)) → RdsD h (es.toList.map (·.val)) (kvs.map (·.2)) → RdD h (.ref a) (.dict kvs)
inductive RdsD (h : Heap) : List Value → List PyData → Prop
  | nil : RdsD h [] []
  | cons {v : Value} {vs : List Value} {d : PyData} {ds : List PyData} : RdD h v d → RdsD h vs ds → RdsD h (v :: vs) (d :: ds)
end
mutual
theorem RdD.rd {h : Heap} : ∀ {v : Value} {d : PyData}, RdD h v d → ∃ as, Reads h v d as
  | _, _, .none => ⟨_, .none⟩
  | _, _, .bool b => ⟨_, .bool b⟩
  | _, _, .int i t => ⟨_, .int i t⟩
  | _, _, .str x t => ⟨_, .str x t⟩
  | _, _, .list h1 h2 h3 h4 => let ⟨_, z⟩ := RdsD.rd h4; ⟨_, .list h1 h2 h3 z⟩
  | _, _, .tuple h1 h2 h3 h4 => let ⟨_, z⟩ := RdsD.rd h4; ⟨_, .tuple h1 h2 h3 z⟩
  | _, _, .dict _ h1 h2 h3 h4 h5 => let ⟨_, z⟩ := RdsD.rd h4; let ⟨_, z2⟩ := RdsD.rd h5; ⟨_, .dict h1 h2 h3 z z2⟩
theorem RdsD.rd {h : Heap} : ∀ {v : List Value} {d : List PyData}, RdsD h v d → ∃ as, ReadsAll h v d as
  | _, _, .nil => ⟨_, .nil⟩
  | _, _, .cons a t => let ⟨_, z⟩ := RdD.rd a; let ⟨_, z2⟩ := RdsD.rd t; ⟨_, .cons z z2⟩
end
section
variable {prog : Program} {w : World} {h : Heap}
mutual
/-- its text, as a part of a greater one -/
theorem RdD.k : ∀ {v : Value} {d : PyData}, RdD h v d → d.showable = true → d.shown.length ≤ sizeLine → ∃ bs, ReadAtMost h d.depth bs ∧ ReprK prog w bs h d.depth v d.shown
  | _, _, .none, _, _ => ⟨[], nofun, by unfold PyData.shown; exact .of_is .none _ _ _⟩
  | _, _, .bool b, _, _ => ⟨[], nofun, by unfold PyData.shown; exact .of_is (.bool b) _ _ _⟩
  | _, _, .int i t, hs, _ => ⟨[], nofun, by unfold PyData.shown; exact .of_is (.int t (by simpa [PyData.showable] using hs)) _ _ _⟩
  | _, _, .str x t, _, hz => ⟨[], nofun, by unfold PyData.shown at hz ⊢; exact .of_is (.str x t hz) _ _ _⟩
  | _, _, .list (a := a) (vs := vs) (xs := xs) h1 h2 h3 h4, hs, hz => by
    have z1 : (listText (PyData.shownAll xs)).length ≤ sizeLine := by simpa only [PyData.shown] using hz
    have s1 : PyData.showableAll xs = true := by simpa [PyData.showable] using hs
    obtain ⟨bs, hb, hk⟩ := RdsD.k h4 s1 fun t ht => Nat.le_trans (listText_mem_le ht) z1
    obtain ⟨as, r4⟩ := RdsD.rd h4
    have rr : Reads h (.ref a) (.list xs) _ := .list h1 h2 h3 r4
    have na : a ∉ bs := not_mem_of_deeper rr (by simp only [PyData.depth]; omega) hb
    refine ⟨a :: bs, .cons rr (by simp only [PyData.depth]; omega) hb, ?_⟩
    simp only [PyData.depth, PyData.shown]
    rcases vs with ⟨_ | ⟨x, l⟩⟩
    · have q : RdsD h [] xs := h4
      cases q
      simp only [PyData.shownAll, listText_nil]
      exact .listEmpty h1 h2 h3
    · exact .list h1 h2 h3 na (by simpa using hk.length_eq) fun i y e => hk.item i y (by simpa using e)
  | _, _, .tuple (a := a) (xs := xs) h1 h2 h3 h4, hs, hz => by
    have z1 : (tupleText (PyData.shownAll xs)).length ≤ sizeLine := by simpa only [PyData.shown] using hz
    have s1 : PyData.showableAll xs = true := by simpa [PyData.showable] using hs
    obtain ⟨bs, hb, hk⟩ := RdsD.k h4 s1 fun t ht => Nat.le_trans (tupleText_mem_le ht) z1
    obtain ⟨as, r4⟩ := RdsD.rd h4
    have rr : Reads h (.ref a) (.tuple xs) _ := .tuple h1 h2 h3 r4
    have na : a ∉ bs := not_mem_of_deeper rr (by simp only [PyData.depth]; omega) hb
    refine ⟨a :: bs, .cons rr (by simp only [PyData.depth]; omega) hb, ?_⟩
    simp only [PyData.depth, PyData.shown]
    exact .tuple h1 h2 h3 na hk
  | _, _, .dict (a := a) (es := es) (kvs := kvs) h0 h1 h2 h3 h4 h5, hs, hz => by
    have z1 : (dictText (PyData.shownKv kvs)).length ≤ sizeLine := by simpa only [PyData.shown] using hz
    obtain ⟨s1, s2⟩ := PyData.showableKv_split kvs (by simpa [PyData.showable] using hs)
    have k1 : ∀ t ∈ PyData.shownAll (kvs.map (·.1)), t.length ≤ sizeLine := fun t ht => by
      obtain ⟨p, hp, hl⟩ := PyData.shownKv_key_le kvs t ht
      exact Nat.le_trans (Nat.le_trans hl (dictText_mem_le hp)) z1
    have k2 : ∀ t ∈ PyData.shownAll (kvs.map (·.2)), t.length ≤ sizeLine := fun t ht => by
      obtain ⟨p, hp, hl⟩ := PyData.shownKv_val_le kvs t ht
      exact Nat.le_trans (Nat.le_trans hl (dictText_mem_le hp)) z1
    obtain ⟨b1, hb1, q1⟩ := RdsD.k h4 s1 k1
    obtain ⟨b2, hb2, q2⟩ := RdsD.k h5 s2 k2
    obtain ⟨as, r4⟩ := RdsD.rd h4
    obtain ⟨bs, r5⟩ := RdsD.rd h5
    have rr : Reads h (.ref a) (.dict kvs) _ := .dict h1 h2 h3 r4 r5
    have hb : ReadAtMost h (PyData.depthKv kvs) (b1 ++ b2) := (hb1.mono (PyData.depthAll_keys_le kvs)).append (hb2.mono (PyData.depthAll_vals_le kvs))
    have na : a ∉ b1 ++ b2 := not_mem_of_deeper rr (by simp only [PyData.depth]; omega) hb
    refine ⟨a :: (b1 ++ b2), .cons rr (by simp only [PyData.depth]; omega) hb, ?_⟩
    simp only [PyData.depth, PyData.shown, PyData.shownKv_eq]
    have p1 := q1.more_le (fun b hb => List.mem_append_left b2 hb) (PyData.depthAll_keys_le kvs)
    have p2 := q2.more_le (fun b hb => List.mem_append_right b1 hb) (PyData.depthAll_vals_le kvs)
    exact .dict h1 h2 h3 h0 na (.of_two es.toList _ _ p1 p2)
theorem RdsD.k : ∀ {v : List Value} {d : List PyData}, RdsD h v d → PyData.showableAll d = true → (∀ t ∈ PyData.shownAll d, t.length ≤ sizeLine) → ∃ bs, ReadAtMost h (PyData.depthAll d) bs ∧ ReprAllK prog w bs h (PyData.depthAll d) v (PyData.shownAll d)
  | _, _, .nil, _, _ => ⟨[], nofun, by unfold PyData.shownAll; exact .nil⟩
  | _, _, .cons (d := d) (ds := ds) a t, hs, hz => by
    have hs' : d.showable = true ∧ PyData.showableAll ds = true := by simpa [PyData.showableAll] using hs
    simp only [PyData.shownAll, List.mem_cons, forall_eq_or_imp] at hz
    obtain ⟨b1, hb1, k1⟩ := RdD.k a hs'.1 hz.1
    obtain ⟨b2, hb2, k2⟩ := RdsD.k t hs'.2 hz.2
    simp only [PyData.depthAll, PyData.shownAll]
    refine ⟨b1 ++ b2, (hb1.mono (Nat.le_max_left _ _)).append (hb2.mono (Nat.le_max_right _ _)), ?_⟩
    exact .cons ((k1.more fun b hb => List.mem_append_left _ hb).level_le (Nat.le_max_left _ _)) (k2.more_le (fun b hb => List.mem_append_right _ hb) (Nat.le_max_right _ _))
end
/-- repr(v) -/
theorem RdD.call {A : Around} {E : Value → Shared → Prop} {s : Shared} {Q : Value → Shared → Prop} {v : Value} {d : PyData} (r : RdD s.heap v d) (hs : d.showable = true) (hz : d.shown.length ≤ sizeLine) (hg : A.guards = some []) (hu : A.units + (d.depth + 1) < cLine)
    (hQ : ∀ h' u tk, (∀ b o, s.heap.get? b = some o → h'.get? b = some o) → Q (.str d.shown u) { s with heap := h', toks := tk }) : wpAny (model prog w) A (call (.builtin "repr") [v]) Q E s := by
  have old : ∀ b o, s.heap.get? b = some o → s.heap.get? b = some o := fun _ _ e => e
  cases r with
  | none => unfold PyData.shown at hQ; exact P.repr_of_none (hQ s.heap _ _ old)
  | bool b => unfold PyData.shown at hQ; exact P.repr_of_bool (hQ s.heap _ _ old)
  | int i t => unfold PyData.shown at hQ; exact P.repr_of_int (by simpa [PyData.showable] using hs) (hQ s.heap _ _ old)
  | str x t => unfold PyData.shown at hQ hz; exact P.repr_of_str (hQ s.heap _ _ old) hz
  | list h1 h2 h3 h4 =>
    rename_i a o vs n xs
    have z1 : (listText (PyData.shownAll xs)).length ≤ sizeLine := by simpa only [PyData.shown] using hz
    have s1 : PyData.showableAll xs = true := by simpa [PyData.showable] using hs
    obtain ⟨bs, hb, hk⟩ := RdsD.k (prog := prog) (w := w) h4 s1 fun t ht => Nat.le_trans (listText_mem_le ht) z1
    obtain ⟨as, r4⟩ := RdsD.rd h4
    have rr : Reads s.heap (.ref a) (.list xs) _ := .list h1 h2 h3 r4
    have na : a ∉ bs := not_mem_of_deeper rr (by simp only [PyData.depth]; omega) hb
    simp only [PyData.depth] at hu
    simp only [PyData.shown] at hQ
    refine call_repr_slot (by omega) ⟨o, h1, h2⟩ F.slot_list_repr.toG ?_
    rcases vs with ⟨_ | ⟨x, l⟩⟩
    · have q : RdsD s.heap [] xs := h4
      cases q
      simp only [PyData.shownAll, listText_nil] at hQ
      exact call_list_repr_empty ⟨o, h1, h2⟩ h1 h3 ⟨_, _, rfl, hQ s.heap _ _ old⟩
    · exact call_list_reprK h1 h2 h3 na (by simpa using hk.length_eq) (fun i y e => hk.item i y (by simpa using e)) hg (fun b _ => Clear.nil b) (by show A.units + 1 + _ < cLine; omega) old (fun h' u tk k => ⟨_, _, rfl, hQ h' u tk k⟩) z1
  | tuple h1 h2 h3 h4 =>
    rename_i a o vs n xs
    have z1 : (tupleText (PyData.shownAll xs)).length ≤ sizeLine := by simpa only [PyData.shown] using hz
    have s1 : PyData.showableAll xs = true := by simpa [PyData.showable] using hs
    obtain ⟨bs, hb, hk⟩ := RdsD.k (prog := prog) (w := w) h4 s1 fun t ht => Nat.le_trans (tupleText_mem_le ht) z1
    obtain ⟨as, r4⟩ := RdsD.rd h4
    have rr : Reads s.heap (.ref a) (.tuple xs) _ := .tuple h1 h2 h3 r4
    have na : a ∉ bs := not_mem_of_deeper rr (by simp only [PyData.depth]; omega) hb
    simp only [PyData.depth] at hu
    simp only [PyData.shown] at hQ
    refine call_repr_slot (by omega) ⟨o, h1, h2⟩ F.slot_tuple_repr ?_
    exact call_tuple_reprK h1 h2 h3 na hk hg (fun b _ => Clear.nil b) (by show A.units + 1 + _ < cLine; omega) old (fun h' u tk k => ⟨_, _, rfl, hQ h' u tk k⟩) z1
  | dict h0 h1 h2 h3 h4 h5 =>
    rename_i a o es n kvs
    have K := RdD.k (prog := prog) (w := w) (.dict h0 h1 h2 h3 h4 h5) hs hz
    have z1 : (dictText (PyData.shownKv kvs)).length ≤ sizeLine := by simpa only [PyData.shown] using hz
    obtain ⟨s1, s2⟩ := PyData.showableKv_split kvs (by simpa [PyData.showable] using hs)
    have k1 : ∀ t ∈ PyData.shownAll (kvs.map (·.1)), t.length ≤ sizeLine := fun t ht => by
      obtain ⟨p, hp, hl⟩ := PyData.shownKv_key_le kvs t ht
      exact Nat.le_trans (Nat.le_trans hl (dictText_mem_le hp)) z1
    have k2 : ∀ t ∈ PyData.shownAll (kvs.map (·.2)), t.length ≤ sizeLine := fun t ht => by
      obtain ⟨p, hp, hl⟩ := PyData.shownKv_val_le kvs t ht
      exact Nat.le_trans (Nat.le_trans hl (dictText_mem_le hp)) z1
    obtain ⟨b1, hb1, q1⟩ := RdsD.k (prog := prog) (w := w) h4 s1 k1
    obtain ⟨b2, hb2, q2⟩ := RdsD.k (prog := prog) (w := w) h5 s2 k2
    obtain ⟨as, r4⟩ := RdsD.rd h4
    obtain ⟨bs, r5⟩ := RdsD.rd h5
    have rr : Reads s.heap (.ref a) (.dict kvs) _ := .dict h1 h2 h3 r4 r5
    have hb : ReadAtMost s.heap (PyData.depthKv kvs) (b1 ++ b2) := (hb1.mono (PyData.depthAll_keys_le kvs)).append (hb2.mono (PyData.depthAll_vals_le kvs))
    have na : a ∉ b1 ++ b2 := not_mem_of_deeper rr (by simp only [PyData.depth]; omega) hb
    have p1 := q1.more_le (fun b hb => List.mem_append_left b2 hb) (PyData.depthAll_keys_le kvs)
    have p2 := q2.more_le (fun b hb => List.mem_append_right b1 hb) (PyData.depthAll_vals_le kvs)
    simp only [PyData.depth] at hu
    simp only [PyData.shown, PyData.shownKv_eq] at hQ
    refine call_repr_slot (by omega) ⟨o, h1, h2⟩ F.slot_dict_repr ?_
    exact call_dict_reprK h1 h2 h3 h0 na (.of_two es.toList _ _ p1 p2) hg (fun b _ => Clear.nil b) (by show A.units + 1 + _ < cLine; omega) old (fun h' u tk k => ⟨_, _, rfl, hQ h' u tk k⟩) (by rw [← PyData.shownKv_eq]; exact z1)
end

/-! ### data in the abstract heap as the heap says it -/
section
variable {X : Cx} {pins : List (Addr × Obj)} {σ : L2.St} {G H : Hp} {s : Shared} {as : List Addr}
theorem toPys_cons {d : Dt} {r : List Dt} {q : List PyData} (h : toPys (d :: r) = some q) : ∃ p ps, toPy d = some p ∧ toPys r = some ps ∧ q = p :: ps := by
  unfold toPys at h
  cases e1 : toPy d with
  | none => rw [e1] at h; simp at h
  | some p =>
    cases e2 : toPys r with
    | none => rw [e1, e2] at h; simp at h
    | some ps => rw [e1, e2] at h; simp at h; exact ⟨p, ps, rfl, rfl, h.symm⟩
theorem toPyk_cons {k : Key} {d : Dt} {r : List (Key × Dt)} {q : List (PyData × PyData)} (h : toPyk ((k, d) :: r) = some q) : ∃ p ps, toPy d = some p ∧ toPyk r = some ps ∧ q = (keyPy k, p) :: ps := by
  unfold toPyk at h
  cases e1 : toPy d with
  | none => rw [e1] at h; simp at h
  | some p =>
    cases e2 : toPyk r with
    | none => rw [e1, e2] at h; simp at h
    | some ps => rw [e1, e2] at h; simp at h; exact ⟨p, ps, rfl, rfl, h.symm⟩
mutual
theorem At.rdD (I : Inv X pins σ H s) (g : Same G H) : ∀ {v : V} {d : Dt} {p : PyData} {u : Value}, At X.K as G v d → toPy d = some p → RelV v u → RdD s.heap u p
  | _, _, _, _, .non, h, r => by
    simp only [toPy, Option.some.injEq] at h
    subst h
    cases r
    exact .none
  | _, _, _, _, .bl b, h, r => by
    simp only [toPy, Option.some.injEq] at h
    subst h
    cases r
    exact .bool b
  | _, _, _, _, .int i, h, r => by
    simp only [toPy, Option.some.injEq] at h
    subst h
    obtain ⟨t, rfl⟩ := r
    exact .int i t
  | _, _, _, _, .str x, h, r => by
    simp only [toPy, Option.some.injEq] at h
    subst h
    obtain ⟨t, rfl⟩ := r
    exact .str x t
  | _, _, _, _, .lst (ds := ds) h1 h2, h, r => by
    simp only [toPy] at h
    cases e : toPys ds with
    | none => rw [e] at h; simp at h
    | some ps =>
      rw [e] at h
      simp at h
      subst h
      cases r
      obtain ⟨its, rv, ⟨o, n, ho, hc, _, hd⟩, _⟩ := I.list (g.seq h1)
      exact .list ho hc hd (by simpa using Ats.rdD I g h2 e rv)
  | _, _, _, _, .tup (ds := ds) h1 h2, h, r => by
    simp only [toPy] at h
    cases e : toPys ds with
    | none => rw [e] at h; simp at h
    | some ps =>
      rw [e] at h
      simp at h
      subst h
      cases r
      obtain ⟨its, rv, ⟨o, ho, hc, n, hd⟩, _⟩ := I.tuple (Same.tup g h1)
      exact .tuple ho hc hd (by simpa using Ats.rdD I g h2 e rv)
  | _, _, _, _, .dic (es := es) h1 h2, h, r => by
    simp only [toPy] at h
    cases e : toPyk es with
    | none => rw [e] at h; simp at h
    | some ps =>
      rw [e] at h
      simp at h
      subst h
      cases r
      obtain ⟨z, hd, vs, rel, o, des, ep, ho, hx, hda, _, hp, _⟩ := dk_of I.hok (g _ _ h1)
      obtain ⟨q1, q2⟩ := Kts.rdD I g h2 e rel hp
      exact .dict hd ho hx.1 hda q1 q2
  | _, _, _, _, .obj _ _, h, _ => by simp [toPy] at h
  | _, _, _, _, .exc _ _ _, h, _ => by simp [toPy] at h
  | _, _, _, _, .val _, h, _ => by simp [toPy] at h
  | _, _, _, _, .mut _, h, _ => by simp [toPy] at h
  | _, _, _, _, .cau _ _, h, _ => by simp [toPy] at h
  | _, _, _, _, .clo _ _, h, _ => by simp [toPy] at h
theorem Ats.rdD (I : Inv X pins σ H s) (g : Same G H) : ∀ {v : List V} {d : List Dt} {p : List PyData} {u : List Value}, Ats X.K as G v d → toPys d = some p → Vals v u → RdsD s.heap u p
  | _, _, _, _, .nil, h, r => by
    cases r
    simp only [toPys, Option.some.injEq] at h
    subst h
    exact .nil
  | _, _, _, _, .cons a t, h, r => by
    cases r with
    | cons r1 r2 =>
      obtain ⟨p, ps, e1, e2, rfl⟩ := toPys_cons h
      exact .cons (At.rdD I g a e1 r1) (Ats.rdD I g t e2 r2)
theorem Kts.rdD (I : Inv X pins σ H s) (g : Same G H) : ∀ {v : List (Key × V)} {d : List (Key × Dt)} {p : List (PyData × PyData)} {u : List (Key × Value)} {des : List DictEntry}, Kts X.K as G v d → toPyk d = some p → KV v u → Pairs (mixKind X.prog X.w) des u →
    RdsD s.heap (des.map (·.key)) (p.map (·.1)) ∧ RdsD s.heap (des.map (·.val)) (p.map (·.2))
  | _, _, _, _, _, .nil, h, r, q => by
    cases r
    cases q
    simp only [toPyk, Option.some.injEq] at h
    subst h
    exact ⟨.nil, .nil⟩
  | _, _, _, _, _, .cons (f := k) a t, h, r, q => by
    cases r with
    | cons r1 r2 =>
      rename_i kv us
      cases q with
      | cons q1 q2 q3 =>
        rename_i de des
        obtain ⟨p, ps, e1, e2, rfl⟩ := toPyk_cons h
        obtain ⟨z1, z2⟩ := Kts.rdD I g t e2 r2 q3
        have hk : RdD s.heap de.key (keyPy k) := by
          rw [← r1.1, mixKind_is] at q1
          rcases keyIs_shape q1 with ⟨i, tt, e3, e4⟩ | ⟨x, tt, e3, e4⟩
          · have e3 : k = Sum.inl i := e3
            subst e3
            rw [e4]
            exact .int i tt
          · have e3 : k = Sum.inr x := e3
            subst e3
            rw [e4]
            exact .str x tt
        refine ⟨.cons hk z1, .cons ?_ z2⟩
        show RdD s.heap de.val p
        rw [q2]
        exact At.rdD I g a e1 r1.2
end
end
section
variable {X : Cx}
/-- repr of data -/
theorem cd_repr (hg : X.A.guards = some []) {n : Nat} (hu : X.A.units + n < cLine) : CallD X (.builtin "repr") (fun ds μ Q => ∃ d p, ds = [d] ∧ toPy d = some p ∧ p.showable = true ∧ p.shown.length ≤ sizeLine ∧ p.depth + 1 ≤ n ∧ Q (.str p.shown) μ) := by
  refine ⟨fun xs H Q => ∃ as G d p, Same G H ∧ Ats X.K as G xs [d] ∧ toPy d = some p ∧ p.showable = true ∧ p.shown.length ≤ sizeLine ∧ p.depth + 1 ≤ n ∧ Q (.str p.shown) H, ?_, ?_⟩
  · intro pins s σ H xs us Q I r h
    obtain ⟨as, G, d, p, g, a, e, hs, hz, hd, q⟩ := h
    obtain ⟨x, rfl, a2⟩ := a.one
    obtain ⟨u, rfl, ru⟩ := vals1 r
    exact RdD.call (a2.rdD I g e ru) hs hz hg (by omega) fun h' u tk k => ⟨.str p.shown, H, I.kept k, ⟨_, rfl⟩, q⟩
  · intro as G H μ xs ds Q Q' m a h f
    obtain ⟨d, p, rfl, e, hs, hz, hd, q⟩ := h
    exact ⟨as, G, d, p, m.same, a, e, hs, hz, hd, f _ _ (.now m (.str _) q)⟩
end
end DL

/-! D7: own exceptions over ValueError: made by place and by name, held as data, raised, asked. -/
namespace PySem.DLX
open PySem PySem.Spec PyProof.Rows PySem.HandSPX PySem.W
section
variable {M : Model} {prog : Program} {w : World} {A : Around} {E : Value → Shared → Prop} {R : Result → Shared → Prop} {h : Heap} {g : Array GenState} {d : Drawn} {t : Nat} {os : OsState}
variable {nm qn : Str} {C N : Addr} {bs bm mB : List Value} {hdct : Bool} {sn : List Str} {sub : List Value} {ab : Bool} {col : Option Bool} {dd : Option Addr} {k0 k1 k2 k3 k5 : Option Value} {B idN idI : String} {kws : List (Str × Value)} {us : List Value}
/-- the look that a call of B.__new__ takes, keywords or not -/
theorem look_new (F : ExcBaseFacts B idN idI mB) (same : ∀ Y : String, bm.contains (.type Y) = mB.contains (.type Y)) {Q : Unit → Shared → Prop}
    (cls : h.get? C = some (excClassObj nm qn C N bs bm hdct sn sub ab col dd k0 k1 k2 k3 k5 idN)) (q : Q () ⟨h, g, d, t, os⟩) : wpAny M A (checkBuiltinCall idN ⟨.ref C :: us, kws⟩) Q E ⟨h, g, d, t, os⟩ := by
  have sb : (Value.ref C :: bm).contains (.type B) = true := by rw [List.contains_cons, same, F.hasB, Bool.or_true]
  have st := F.noStar
  simp only [checkBuiltinCall, F.newKind, F.newSplit, F.newRow]
  repeat (first | refine wpAny_loadPart_at cls ?_ | (refine wpAny_isSubtype_exc cls ?_; rw [sb]) | refine wpAny_staticBase_exc cls ?_ | refine wpAny_madeBy_exc cls ?_ | simp only [bne_self_eq_false, Bool.false_eq_true, if_false] | wp_step)
  all_goals exact q
theorem lay_new (F : ExcBaseFacts B idN idI mB) (same : ∀ Y : String, bm.contains (.type Y) = mB.contains (.type Y))
    (cls : h.get? C = some (excClassObj nm qn C N bs bm hdct sn sub ab col dd k0 k1 k2 k3 k5 idN)) (few : us.length ≤ sizeLine)
    (q : R (.ok (.ret (.ref (h.objs.size + 1)))) ⟨(h.push (kdv_tup us)).push (excO C h.objs.size), g, d, t, os⟩) :
    codeAny (model prog w) A (.builtin idN ⟨.ref C :: us, kws⟩) R ⟨h, g, d, t, os⟩ := by
  have he := F.ends
  have i1 : (Value.ref C :: bm).contains (.type B) = true := by rw [List.contains_cons, same, F.hasB, Bool.or_true]
  have i2 : (Value.ref C :: bm).contains (.type "AttributeError") = false := by rw [List.contains_cons, same, F.noAttr]; rfl
  have i3 : (Value.ref C :: bm).contains (.type "NameError") = false := by rw [List.contains_cons, same, F.noName]; rfl
  refine codeAny_builtinAt F.entry ?_
  unfold Builtin.«BaseException.__new__»
  refine wpAt_bind ?_
  show wpAt _ _ _ (stack >>= _) _ _ _
  refine wpAt_bind (wpAt_stack fun p below => wpAt_of_wpAny ?_)
  wp_walk
  refine wpAt_of_wpAny ?_
  rw [F.owner]
  repeat (first | with_reducible refine wpAny_madeHere_exc F.canon cls ?_ | with_reducible refine wpAny_loadPart_at cls ?_ | (with_reducible refine wpAny_isSubtype_exc cls ?_; first | rw [i1] | rw [i2] | rw [i3]) | wp_step)
  show R _ _
  rw [Heap.size_push]
  exact q
theorem tcall_kw (F : ExcBaseFacts B idN idI mB) (same : ∀ Y : String, bm.contains (.type Y) = mB.contains (.type Y)) {fI : Addr} {Q : Fin → Shared → Prop}
    (cls : h.get? C = some (excClassObj nm qn C N bs bm hdct sn sub ab col dd k0 k1 k2 k3 k5 idN))
    (li : Looks (model prog w) h (typeLookup (.ref C) "__init__") (some (.ref fI))) (lb : ∀ self, Looks (model prog w) h (bindSpecial (.ref fI) self) (.ref fI, [self])) (few : us.length ≤ sizeLine)
    (run : codeAny (model prog w) A (.call (.ref fI) ⟨.ref (h.objs.size + 1) :: us, kws⟩)
      (fun r s' => match r with | .ok (.ret v) => v = .none ∧ Q (.done (.ret (.ref (h.objs.size + 1)))) s' | .ok _ => False | .error e => E e s')
      ⟨(h.push (kdv_tup us)).push (excO C h.objs.size), g, d, t, os⟩) :
    wpAny (model prog w) A (Builtin.«type.__call__» ⟨.ref C :: us, kws⟩) Q E ⟨h, g, d, t, os⟩ := by
  repeat (first | with_reducible refine wpAny_loadPart_at cls ?_ | with_reducible refine wpAny_madeBy_exc cls ?_ | wp_step)
  refine codeAny_call_builtin_code (Code.quiet_builtin _ F.quiet) (look_new F same cls ?_)
  refine lay_new F same cls few ?_
  show wpAny _ _ _ _ _ _
  have up : ∀ b o, h.get? b = some o → ((h.push (kdv_tup us)).push (excO C h.objs.size)).get? b = some o := fun b o e => Heap.get?_push_of_some _ (Heap.get?_push_of_some _ e)
  have c1 := up _ _ cls
  have at1 : ((h.push (kdv_tup us)).push (excO C h.objs.size)).get? (h.objs.size + 1) = some (excO C h.objs.size) := by heap_get
  have cC : (Value.ref C :: bm).contains (.ref C) = true := by simp
  have l1 := li.keeps up
  have l2 := (lb (.ref (h.objs.size + 1))).keeps up
  unfold isInstance
  repeat (first | with_reducible refine wpAny_loadPart_at at1 ?_ | (with_reducible refine wpAny_isSubtype_exc c1 ?_; rw [cC]) | wp_step)
  show wpAny _ _ (typeLookup (.ref C) _) _ _ _
  refine l1.at ?_
  refine wpAny_holding (wpAny_bind (l2.at ?_))
  refine wpAny_bind (wpAny_call (codeAny_mono run fun r s' z => ?_))
  rcases r with e | (v | _ | _ | _) <;> first | exact z | exact z.elim | skip
  obtain ⟨rfl, z⟩ := z
  first
    | exact wpAny_pure (wpAny_pure z)
    | (wp_walk; exact z)
theorem check_tc {Q : Unit → Shared → Prop} (cls : h.get? C = some (excClassObj nm qn C N bs bm hdct sn sub ab col dd k0 k1 k2 k3 k5 idN)) (q : Q () ⟨h, g, d, t, os⟩) : wpAny M A (checkBuiltinCall "type.__call__" ⟨.ref C :: us, kws⟩) Q E ⟨h, g, d, t, os⟩ := by
  have ts := tc_sub
  have ty : (⟨h, g, d, t, os⟩ : Shared).TypeIs (.ref C) "type" := ⟨_, cls, rfl⟩
  simp only [checkBuiltinCall, tc_kind, tc_split]
  repeat (any_goals (first | assumption | with_reducible refine wpAny_loadPart_at cls ?_ | with_reducible refine wpAny_onRaise ?_ | with_reducible refine wpAny_map ?_ | wp_step))
theorem call_kw (F : ExcBaseFacts B idN idI mB) (same : ∀ Y : String, bm.contains (.type Y) = mB.contains (.type Y)) {fI : Addr}
    (cls : h.get? C = some (excClassObj nm qn C N bs bm hdct sn sub ab col dd k0 k1 k2 k3 k5 idN))
    (li : Looks (model prog w) h (typeLookup (.ref C) "__init__") (some (.ref fI))) (lb : ∀ self, Looks (model prog w) h (bindSpecial (.ref fI) self) (.ref fI, [self])) (few : us.length ≤ sizeLine)
    (run : codeAny (model prog w) (A.under (.builtin "type.__call__" ⟨.ref C :: us, kws⟩)) (.call (.ref fI) ⟨.ref (h.objs.size + 1) :: us, kws⟩) (InitBack (h.objs.size + 1) R)
      ⟨(h.push (kdv_tup us)).push (excO C h.objs.size), g, d, t, os⟩) :
    codeAny (model prog w) A (.call (.ref C) ⟨us, kws⟩) R ⟨h, g, d, t, os⟩ := by
  have f1 := tc_lookup
  have f2 := tc_bind (.ref C)
  have ty : (⟨h, g, d, t, os⟩ : Shared).TypeIs (.ref C) "type" := ⟨_, cls, rfl⟩
  refine codeAny_of_tree ?_
  show wpAny _ _ (callAny (.ref C) _) _ _ _
  repeat (any_goals (first | assumption | with_reducible refine wpAny_loadPart_at cls ?_ | wp_step))
  refine ⟨rfl, ?_⟩
  refine codeAny_call_builtin_at (Code.quiet_builtin _ (by decide +kernel)) entry_typeCall (check_tc cls (tcall_kw F same cls li lb few ?_))
  refine codeAny_mono run fun r s' z => ?_
  rcases r with e | (v | _ | _ | _) <;> exact z
end
end PySem.DLX

/-! D8: own exceptions as data. -/
namespace DL
open PySem PySem.Spec PyProof.Rows L2

/-! ### Base.__init__(self, ..) through an own class without __init__ -/
theorem pe_winit {X : Cx} {x : Str} {CW : Addr} {e : Expr} {es : List Expr} {ta : TA} {p1 p2 pos : Pos} {pl : Sem Bool} (hg : Gl X x) (hm : X.mg x = some (.ref CW)) (rd : PySem.W.readsIn X.K CW (.type "type") = true)
    (ga : PySem.W.specialIn X.K (.ref CW) "__getattribute__" = some (some (.builtin "type.__getattribute__"))) (vV : PySem.W.findCls X.K (.ref CW) (.type "type") "__init__" = some (.val (.builtin "ValueError.__init__"))) (ha : PA X (e :: es) ta) (hdb : (x == ("__debug__" : Str)) = false := by decide)
    (hc : eval (.Call (.Attribute (.Name x p1) "__init__" p2) (e :: es) [] pos) X.env = (do
      let ov ← eval (.Name x p1) X.env
      standAt p2.atName
      let (f, first) ← holding [ov] (getMethod ov "__init__" pl)
      callWith pos f first (backTo pos (starEach (e :: es) X.env)) (backToKw pos (keywordEach [] X.env))) := by rfl)
    (he : starEach (e :: es) X.env = (false, eval e X.env) :: starEach es X.env := by rfl) (hpl : (backTo pos (starEach es X.env)).any (·.1) = false := by rfl) :
    PE X (.Call (.Attribute (.Name x p1) "__init__" p2) (e :: es) [] pos) (tVeI X.K ta) := by
  refine ⟨fun pins s σ H Q I h => ?_⟩
  refine PySem.W.methodCall_KW (ld_glob I hg hm ?_ hdb) hc
  refine PySem.W.method_cls I.kIn ga (PySem.W.cls_value I.kIn rd vV (by decide +kernel) ?_)
  show wpAny _ _ (callWith pos (Value.builtin "ValueError.__init__") [] (backTo pos (starEach (e :: es) X.env)) []) _ _ _
  refine PyProof.Rows.callWith_method1 (thn (ha.run pos pins _ σ H _ (I.tok _) h) fun us s1 ⟨vs, H1, I1, r1, a, C, ws, ev, hl, T, ea, q⟩ => ?_) he hpl
  subst ev
  cases r1 with
  | @cons _ u0 _ ur ra rw' =>
    obtain rfl : u0 = Value.ref a := ra
    exact oinit_ok T I1 ea (by rw [← Paired.length rw', sizeLine_eq]; omega) fun s' J => ⟨.non, H1, J, rfl, q⟩

/-! ### the stores of an __init__ -/
def exH (H : Hp) (a C dx : Addr) (fs : List (Str × V)) : Hp := upd (upd H dx (exd dx fs)) a (exo a C (some dx))
theorem exH_put {H : Hp} {a C dx : Addr} {fs gs : List (Str × V)} (n : dx ≠ a) : upd (exH H a C dx fs) dx (exd dx gs) = exH H a C dx gs := by
  funext b
  unfold exH
  by_cases h1 : b = dx
  · subst h1
    rw [upd_same, upd_ne n, upd_same]
  · rw [upd_ne h1]
    by_cases h2 : b = a
    · subst h2; rw [upd_same, upd_same]
    · rw [upd_ne h2, upd_ne h2, upd_ne h1, upd_ne h1]
theorem exH_a {H : Hp} {a C dx : Addr} {fs : List (Str × V)} : exH H a C dx fs a = some (exo a C (some dx)) := upd_same
theorem exH_d {H : Hp} {a C dx : Addr} {fs : List (Str × V)} (n : dx ≠ a) : exH H a C dx fs dx = some (exd dx fs) := by
  unfold exH
  rw [upd_ne n, upd_same]
/-- self.f = f, one after the other -/
inductive Stores : List Stmt → List Str → Prop
  | nil : Stores [] []
  | cons {p1 p2 p3 p4 : Pos} {f : Str} {rest : List Stmt} {fs : List Str} (r : Stores rest fs) : Stores (.Assign [.Attribute (.Name "self" p1) f p2] (.Name f p3) p4 :: rest) (f :: fs)
section
variable {X : Cx} {a C dx : Addr} {H : Hp} {σ : L2.St} {D : Ends}
/-- what a field's name must be -/
structure FldN (X : Cx) (C : Addr) (σ : L2.St) (f : Str) (y : V) : Prop where
  at_ : ∃ j : Nat, X.N[j]? = some f ∧ (σ : List (Option V))[j]? = some (some y)
  vis : Vis X.env.scope f
  db : (f == ("__debug__" : Str)) = false
  cd : (f == ("__classdict__" : Str)) = false
  no : PySem.W.findIn X.K (.ref C) f = some none
theorem ps_store {f : Str} {p1 p2 p3 p4 : Pos} {j : Nat} (h0 : X.N[0]? = some ("self" : Str)) (v0 : Vis X.env.scope "self") (hj : X.N[j]? = some f) (hv : Vis X.env.scope f) (db : (f == ("__debug__" : Str)) = false) (cd : (f == ("__classdict__" : Str)) = false) :
    PS X (.Assign [.Attribute (.Name "self" p1) f p2] (.Name f p3) p4) (tOst X.K f (tVar 0) (tVar j)) :=
  ps_ost (pe_var h0 v0 (by decide) (by decide)) (pe_var hj hv db cd)
theorem stores_old (T : OexC X.K C) (n : dx ≠ a) (h0 : X.N[0]? = some ("self" : Str)) (v0 : Vis X.env.scope "self") (s0 : σ[0]? = some (some (.ref a))) : ∀ {sts : List Stmt} {fs : List Str}, Stores sts fs → ∀ (acc : List (Str × V)) (ys : List V), ys.length = fs.length →
    (∀ p ∈ fs.zip ys, FldN X C σ p.1 p.2) → acc.length + fs.length ≤ 900 → D.nx σ (exH H a C dx ((fs.zip ys).reverse ++ acc)) → wSs X sts D σ (exH H a C dx acc)
  | _, _, .nil, acc, ys, _, _, _, q => (pss_nil (X := X)).w (by
      show D.nx σ (exH H a C dx acc)
      cases ys <;> simpa using q)
  | _, _, .cons (f := f) r, acc, [], hl, _, _, _ => by simp at hl
  | _, _, .cons (f := f) (fs := fs) r, acc, y :: ys, hl, hf, hn, q => by
    have F := hf (f, y) (by simp)
    obtain ⟨j, e1, e2⟩ := F.at_
    refine (pss_cons (ps_store h0 v0 e1 F.vis F.db F.cd) pssW).w ?_
    refine ⟨y, e2, .ref a, s0, a, C, rfl, T, F.no, .inr ⟨dx, acc, exH_a, exH_d n, by simp at hn; omega, ?_⟩⟩
    rw [exH_put n]
    exact stores_old T n h0 v0 s0 r ((f, y) :: acc) ys (by simpa using hl) (fun p hp => hf p (by simp [hp])) (by simp at hn ⊢; omega) (by simpa using q)
theorem stores_new (T : OexC X.K C) (ha : H a = some (exo a C none)) (h0 : X.N[0]? = some ("self" : Str)) (v0 : Vis X.env.scope "self") (s0 : σ[0]? = some (some (.ref a))) {sts : List Stmt} {fs : List Str} (S : Stores sts fs) {ys : List V} (hl : ys.length = fs.length)
    (hf : ∀ p ∈ fs.zip ys, FldN X C σ p.1 p.2) (hn : fs.length ≤ 900) (q0 : fs = [] → D.nx σ H) (q : fs ≠ [] → ∀ dx, H dx = none → dx ≠ a → D.nx σ (exH H a C dx (fs.zip ys).reverse)) : wSs X sts D σ H := by
  cases S with
  | nil => exact (pss_nil (X := X)).w (show D.nx σ H from q0 rfl)
  | @cons p1 p2 p3 p4 f rest fs r =>
    cases ys with
    | nil => simp at hl
    | cons y ys =>
      have F := hf (f, y) (by simp)
      obtain ⟨j, e1, e2⟩ := F.at_
      refine (pss_cons (ps_store h0 v0 e1 F.vis F.db F.cd) pssW).w ?_
      refine ⟨y, e2, .ref a, s0, a, C, rfl, T, F.no, .inl ⟨ha, fun dx hd n => ?_⟩⟩
      show wSs X rest D σ (exH H a C dx [(f, y)])
      exact stores_old T n h0 v0 s0 r [(f, y)] ys (by simpa using hl) (fun p hp => hf p (by simp [hp])) (by simp at hn ⊢; omega) (by simpa using q (by simp) dx hd n)
end

/-! ### the promise of an __init__ -/
def spI (C : Addr) (names : List Str) : Sp := fun vs H Q _ => ∃ a ws, vs = .ref a :: ws ∧ ws.length = names.length ∧ H a = some (exo a C none) ∧ (names = [] → Q .non H) ∧ (names ≠ [] → ∀ dx, H dx = none → dx ≠ a → Q .non (exH H a C dx (names.zip ws).reverse))
theorem init_ok {P : Program} {w : World} {K : PySem.W.Frag} {mg : Str → Option Value} {base : Heap} {qual : Str} {st : Stmt} {f C CW : Addr} {fd : FuncData} {names : List Str} {p1 p2 p3 p4 p5 p6 : Pos} {tx : Str} {kk : Nat} {sts : List Stmt} (F : Fun K "__init__" qual st f fd)
    (S : FnScope ("self" :: names) ("self" :: names) (defScope st)) (T : OexC K C) (hm : mg "WebError" = some (.ref CW)) (rd : PySem.W.readsIn K CW (.type "type") = true)
    (ga : PySem.W.specialIn K (.ref CW) "__getattribute__" = some (some (.builtin "type.__getattribute__"))) (vV : PySem.W.findCls K (.ref CW) (.type "type") "__init__" = some (.val (.builtin "ValueError.__init__")))
    (hb : defBody st = .Expr (.Call (.Attribute (.Name "WebError" p1) "__init__" p2) [.Name "self" p3, .Constant (.str tx) kk p4] [] p5) p6 :: sts) (St : Stores sts names) (hg : (defScope st).names.lookup ("WebError" : Str) = some .globalImplicit)
    (vis : ∀ y : Str, y ∈ (("self" : Str) :: names) → (defScope st).names.lookup y = some .local) (db : ∀ y ∈ names, (y == ("__debug__" : Str)) = false ∧ (y == ("__classdict__" : Str)) = false) (no : ∀ y ∈ names, PySem.W.findIn K (.ref C) y = some none) (hn : names.length ≤ 900)
    (hc : ∀ env : Env, ∃ pl : Sem Bool, eval (.Call (.Attribute (.Name "WebError" p1) "__init__" p2) [.Name "self" p3, .Constant (.str tx) kk p4] [] p5) env = (do
      let ov ← eval (.Name "WebError" p1) env
      standAt p2.atName
      let (f, first) ← holding [ov] (getMethod ov "__init__" pl)
      callWith p5 f first (backTo p5 (starEach [.Name "self" p3, .Constant (.str tx) kk p4] env)) (backToKw p5 (keywordEach [] env)))) :
    FnOk P w K mg base (L2.CX P w) 1 f fd ("self" :: names) (spI C names) := by
  refine F.okX S (fun vs H Q E ⟨a, ws, e, hl, _⟩ => by rw [e]; simp [hl]) fun cdv A outer s H vs Q E hr ⟨a, ws, e, hl, ha, q0, q⟩ => ?_
  refine ⟨_, pssW, ?_⟩
  subst e
  rw [hb]
  have hst : L2.start ("self" :: names) (.ref a :: ws) = (V.ref a :: ws).map some := by
    unfold L2.start
    simp [hl]
  rw [hst]
  obtain ⟨X, hX⟩ : ∃ X, X = cxOf (L2.CX P w) P w K mg base ("self" :: names) qual (defScope st) f cdv A outer s H E := ⟨_, rfl⟩
  obtain ⟨pl, hpl⟩ := hc (cxOf (L2.CX P w) P w K mg base ("self" :: names) qual (defScope st) f cdv A outer s H E).env
  have W := pe_winit (X := cxOf (L2.CX P w) P w K mg base ("self" :: names) qual (defScope st) f cdv A outer s H E) (x := "WebError") (CW := CW) (p1 := p1) (p2 := p2) (pos := p5) (e := .Name "self" p3) (es := [.Constant (.str tx) kk p4]) hg hm rd ga vV
    (pa_cons (pe_var (i := 0) rfl (.inl (vis _ (by simp))) (by decide) (by decide)) (pa_cons pe_str pa_nil)) (by decide) hpl
  refine (pss_cons (ps_expr W) pssW).w ?_
  refine ⟨.ref a, rfl, a, C, [.str tx], rfl, (by show 1 ≤ 1000; decide), T, ha, ?_⟩
  refine stores_new T ha rfl (.inl (vis _ (by simp))) rfl St hl (fun p hp => ?_) hn (fun z => q0 z) (fun z dx h1 h2 => q z dx h1 h2)
  obtain ⟨f, y⟩ := p
  obtain ⟨i, hi, e⟩ := List.mem_iff_getElem.mp hp
  have hi1 : i < names.length := by simp at hi; omega
  have hi2 : i < ws.length := by simp at hi; omega
  simp at e
  obtain ⟨e1, e2⟩ := e
  subst e1 e2
  have mf := List.getElem_mem hi1
  refine ⟨⟨i + 1, ?_, ?_⟩, .inl (vis _ (by simp [mf])), (db _ mf).1, (db _ mf).2, no _ mf⟩
  · show (("self" : Str) :: names)[i + 1]? = _
    simp [hi1]
  · simp [hi2]

end DL

/-! D9: own exceptions over data: made, read, raised, asked by isinstance. -/
namespace DL
open PySem PySem.Spec PyProof.Rows L2

/-- what the text must say of an error's class -/
structure ErK (P : Program) (w : World) (K : PySem.W.Frag) (mg : Str → Option Value) (base : Heap) (C : Addr) (names : List Str) : Prop where
  T : OexC K C
  xf : XfC K C
  free : ∀ f ∈ names, PySem.W.findIn K (.ref C) f = some none
  few : names.length ≤ 900
  ini : ∃ fI fd, PySem.W.findIn K (.ref C) "__init__" = some (some (.ref fI)) ∧ PySem.W.typeIn K (.ref fI) = some (.type "function") ∧ FnOk P w K mg base (L2.CX P w) 1 fI fd ("self" :: names) (spI C names) ∧ Binds K fd ("self" :: names) [] ∧
    ∀ (s : Shared) (self : Value) (ws : List Value), ws.length = names.length → BindsTo s fd ⟨[self], names.reverse.zip ws⟩ ((("self" : Str) :: names).zip (self :: ws.reverse))

theorem Fts.zip {K : PySem.W.Frag} {as : List Addr} {G : Hp} : ∀ {fs : List Str} {vs : List V} {ds : List Dt}, Ats K as G vs ds → Fts K as G (fs.zip vs) (fs.zip ds)
  | [], _, _, _ => .nil
  | _ :: _, _, _, .nil => .nil
  | _ :: _, _, _, .cons a t => .cons a (Fts.zip t)
theorem Fts.append {K : PySem.W.Frag} {as : List Addr} {G : Hp} : ∀ {a b : List (Str × V)} {c d : List (Str × Dt)}, Fts K as G a c → Fts K as G b d → Fts K as G (a ++ b) (c ++ d)
  | _, _, _, _, .nil, r => r
  | _, _, _, _, .cons h t, r => .cons h (Fts.append t r)
theorem Fts.rev {K : PySem.W.Frag} {as : List Addr} {G : Hp} : ∀ {a : List (Str × V)} {c : List (Str × Dt)}, Fts K as G a c → Fts K as G a.reverse c.reverse
  | _, _, .nil => .nil
  | _, _, .cons (f := f) h t => by
    simp only [List.reverse_cons]
    exact Fts.append (Fts.rev t) (.cons h .nil)
/-- the fields of an error made of ds -/
def erF (names : List Str) (ds : List Dt) : List (Str × Dt) := (names.zip ds).reverse
section
variable {X : Cx} {J : JX} {e a b c : Expr} {es : List Expr} {ρ : Env'} {μ : Mu} {σ : L2.St} {H : Hp} {pos : Pos} {C : Addr} {names : List Str}
/-- C(..) runs, the arguments bound in whatever way -/
theorem run_mkE {pins : List (Addr × Obj)} {s : Shared} {as : List Addr} {G : Hp} {Q : Dt → Mu → Prop} {us zs : List Value} {kw : List (Str × Value)} {vs : List V} {ds : List Dt} (Er : ErK X.prog X.w X.K X.mg X.base C names) (hr : Room 2 X.A)
    (I : Inv X pins σ H s) (m : Mem X.K as G H μ) (av : Ats X.K as G vs ds) (r : Vals vs zs) (hl : vs.length = names.length) (few : us.length ≤ names.length)
    (hb : ∀ fd, Binds X.K fd ("self" :: names) [] → (∀ (s : Shared) (self : Value) (ws : List Value), ws.length = names.length → BindsTo s fd ⟨[self], names.reverse.zip ws⟩ ((("self" : Str) :: names).zip (self :: ws.reverse))) →
      ∀ (s : Shared) (self : Value), X.K.In s.heap → BindsTo s fd ⟨self :: us, kw⟩ ((("self" : Str) :: names).zip (self :: zs)))
    (q : Q (.exc C (erF names ds)) μ) : wpAny (model X.prog X.w) X.A (call (.ref C) us kw) (EP X pins σ (AfE X.K as G H Q)) X.xe s := by
  obtain ⟨fI, fd, iC, tI, F1, b1, b2⟩ := Er.ini
  obtain ⟨nm, qn, N, bs, bm, sn, sub, ab, col, dd, k0, k1, k2, k3, k5, hC, hbm⟩ := Er.T.cls
  obtain ⟨hp, g, dr, tk, os⟩ := s
  have hsz : hp.objs.size ≤ hp.objs.size + 1 := Nat.le_succ _
  have hn : H (hp.objs.size + 1) = none := I.hok.fresh hsz
  have kk : ∀ b o, hp.get? b = some o → ((hp.push (PySem.W.kdv_tup us)).push (PySem.HandSPX.excO C hp.objs.size)).get? b = some o := fun b o e => Heap.get?_push_of_some _ (Heap.get?_push_of_some _ e)
  have hget : ((hp.push (PySem.W.kdv_tup us)).push (PySem.HandSPX.excO C hp.objs.size)).get? (hp.objs.size + 1) = some (PySem.HandSPX.excO C hp.objs.size) := by heap_get
  generalize ea : hp.objs.size + 1 = a at *
  have I2 : Inv X pins σ (upd H a (exo a C none)) ⟨(hp.push (PySem.W.kdv_tup us)).push (PySem.HandSPX.excO C hp.objs.size), g, dr, tk, os⟩ :=
    I.laid (t' := tk) (o := exo a C none) (h' := (hp.push (PySem.W.kdv_tup us)).push (PySem.HandSPX.excO C hp.objs.size)) kk hsz (exo_ok hget)
  have r2 : Vals (V.ref a :: vs) (Value.ref a :: zs) := .cons rfl r
  have hus : us.length ≤ sizeLine := by
    have := Er.few
    rw [sizeLine_eq]
    omega
  have sp : spI C names (V.ref a :: vs) (upd H a (exo a C none)) (fun v H2 => v = .non ∧ AfE X.K as G H Q (.ref a) H2) (fun _ _ _ => False) := by
    refine ⟨a, vs, rfl, hl, upd_same, fun z => ⟨rfl, ?_⟩, fun z dx h1 h2 => ⟨rfl, ?_⟩⟩
    · subst z
      have : erF [] ds = [] := rfl
      rw [this] at q
      exact ⟨_, μ, as, _, .lay m hn, m.lay hn, .exc0 (by rw [upd_same]), q⟩
    · have h3 : H dx = none := by rw [upd_ne h2] at h1; exact h1
      have e1 : exH (upd H a (exo a C none)) a C dx (names.zip vs).reverse = upd (upd H dx (exd dx (names.zip vs).reverse)) a (exo a C (some dx)) := by
        funext b
        unfold exH
        by_cases hb : b = a
        · subst hb; rw [upd_same, upd_same]
        · rw [upd_ne hb, upd_ne hb]
          by_cases hd : b = dx
          · subst hd; rw [upd_same, upd_same]
          · rw [upd_ne hd, upd_ne hd, upd_ne hb]
      rw [e1]
      have hn2 : upd H dx (exd dx (names.zip vs).reverse) a = none := by rw [upd_ne (Ne.symm h2)]; exact hn
      have m1 := m.lay (o := exd dx (names.zip vs).reverse) h3
      have s1 := Step.lay (o := exd dx (names.zip vs).reverse) m h3
      have m2 := m1.lay (o := exo a C (some dx)) hn2
      have s2 := Step.lay (o := exo a C (some dx)) m1 hn2
      refine ⟨_, μ, as, _, s1.trans s2, m2, .exc (d := dx) (by rw [upd_same]) (by rw [upd_ne h2, upd_same]) ((Fts.zip av).rev.mono (s1.trans s2).gg (s1.trans s2).ix), q⟩
  refine wpAny_call (PySem.DLX.call_kw F.excBase_ValueError (fun Y => PySem.HandSPX.refsVE_contains Y bm hbm) (I.kIn _ _ hC) (PySem.W.looks_findIn I.kIn iC) (fun self => PySem.W.bind_fn I.kIn self tI) hus ?_)
  rw [ea]
  refine codeAny_mono (F1.run _ X.stack _ _ ⟨Value.ref a :: us, kw⟩ (Value.ref a :: zs) _ _ (fun _ _ _ => False) (hr.make C us kw) (I2.env0.make C us kw) (hb fd b1 b2 _ (Value.ref a) I2.kIn) r2 sp) fun r s' hq' => ?_
  cases r with
  | error er => exact passL pins σ _ _ er s' I2 hq'
  | ok fl =>
    cases fl with
    | ret u =>
      obtain ⟨v, H', I3, rv, ev, q3⟩ := I2.after hq'
      subst ev
      refine ⟨rv, ?_⟩
      refine ⟨V.ref a, H', ?_, rfl, q3⟩
      exact ⟨I3.ok, I3.os, I3.bare, I3.base, I3.loc, I3.cell, I3.free, I3.freeC, I3.pin, I3.hok, I3.len⟩
    | next => exact False.elim hq'
    | brk => exact False.elim hq'
    | cont => exact False.elim hq'
/-- C(e, ..) -/
theorem dE_mkE {x : Str} {p : Pos} {Q : Dt → Mu → Prop} (Er : ErK X.prog X.w X.K X.mg X.base C names) (hr : Room 2 X.A) (hm : X.mg x = some (.ref C)) (h : dA X J (e :: es) ρ μ fun ds μ1 => ds.length = names.length ∧ Q (.exc C (erF names ds)) μ1)
    (hg : Gl X x := by rfl) (hdb : (x == ("__debug__" : Str)) = false := by decide) (he : starEach (e :: es) X.env = (false, eval e X.env) :: starEach es X.env := by rfl) (hpl : (backTo pos (starEach es X.env)).any (·.1) = false := by rfl) :
    dE X J (.Call (.Name x p) (e :: es) [] pos) ρ μ Q := .mk fun as G H σ S pins s I => by
  refine wpAny_Call_Name_kw (ld_glob I hg hm ?_ hdb)
  refine PySem.W.callWith_K (h₀ := X.base) I.ok.mod.kin Er.T.kC (thn (h as G H σ S pos pins s I) fun us s1 ⟨vs, H1, I1, r, ds, μ1, as1, G1, t, m, av, hl, q⟩ => ⟨I1.kIn, ?_⟩) he hpl
  have e1 : vs.length = names.length := av.length.trans hl
  refine thn (run_mkE Er hr I1 m av r e1 (by rw [List.nil_append, ← r.length, e1]; exact Nat.le_refl _) (fun fd b1 _ s self ki => ?_) q) fun u s2 ⟨v, H2, I2, rv, q2⟩ => ⟨v, H2, I2, rv, q2.back t⟩
  have z := b1 s (self :: us) ki (by simp [← r.length, e1])
  rw [List.append_nil] at z
  exact z
/-- C() -/
theorem dE_mkE0 {x : Str} {p : Pos} {Q : Dt → Mu → Prop} (Er : ErK X.prog X.w X.K X.mg X.base C []) (hr : Room 2 X.A) (hm : X.mg x = some (.ref C)) (q : Q (.exc C []) μ)
    (hg : Gl X x := by rfl) (hdb : (x == ("__debug__" : Str)) = false := by decide) :
    dE X J (.Call (.Name x p) [] [] pos) ρ μ Q := .mk fun as G H σ S pins s I => by
  refine wpAny_Call_Name_kw (ld_glob I hg hm ?_ hdb)
  refine PySem.W.callWith_K0 I.kIn Er.T.kC ?_
  exact run_mkE Er hr I S.mem .nil .nil rfl (Nat.le_refl _) (fun fd b1 _ s self ki => b1 s [self] ki rfl) q
/-- C(k = e, ..): all by name, the last one first -/
structure dK (X : Cx) (J : JX) (kws : List Keyword) (ρ : Env') (μ : Mu) (Q : List Dt → Mu → Prop) : Prop where
  go : ∀ as G H σ, Sx X J as G H σ ρ μ → ∀ (pos : Pos) (pins : List (Addr × Obj)) (s : Shared), Inv X pins σ H s → wpAny (model X.prog X.w) X.A (evalAll ((backToKw pos (keywordEach kws X.env)).map (·.2))) (AP X pins σ (AfA X.K as G H Q)) X.xe s
instance {X : Cx} {J : JX} {kws : List Keyword} {ρ : Env'} {μ : Mu} {Q : List Dt → Mu → Prop} : CoeFun (dK X J kws ρ μ Q) (fun _ => ∀ as G H σ, Sx X J as G H σ ρ μ → ∀ (pos : Pos) (pins : List (Addr × Obj)) (s : Shared), Inv X pins σ H s → wpAny (model X.prog X.w) X.A (evalAll ((backToKw pos (keywordEach kws X.env)).map (·.2))) (AP X pins σ (AfA X.K as G H Q)) X.xe s) := ⟨dK.go⟩
theorem dK_nil {Q : List Dt → Mu → Prop} (q : Q [] μ) : dK X J [] ρ μ Q := .mk fun as G H σ S pos pins s I => wpAny_evalAll_nil ⟨[], H, I, .nil, [], μ, as, G, .refl _ _ _, S.mem, .nil, q⟩
theorem dK_cons {nm : Option Str} {kpos : Pos} {kws : List Keyword} {Q : List Dt → Mu → Prop} (h : dE X J e ρ μ fun d μ1 => dK X J kws ρ μ1 fun ds μ2 => Q (d :: ds) μ2) : dK X J (⟨nm, e, kpos⟩ :: kws) ρ μ Q := .mk fun as G H σ S pos pins s I => by
  show wpAny _ _ (evalAll ((do let v ← eval e X.env; standAt pos; pure v) :: (backToKw pos (keywordEach kws X.env)).map (·.2))) _ _ s
  refine wpAny_evalAll_cons (wpAny_bind (thn (h as G H σ S pins s I) fun u s1 ⟨x, H1, I1, r1, d, μ1, as1, G1, t1, m1, a1, q1⟩ => wpAny_bind (wpAny_standAt (wpAny_pure ?_))))
  exact thn (q1 as1 G1 H1 σ (S.step t1 m1) pos pins s1 I1) fun us s2 ⟨xs, H2, I2, r2, ds, μ2, as2, G2, t2, m2, a2, q2⟩ => ⟨x :: xs, H2, I2, .cons r1 r2, d :: ds, μ2, as2, G2, t1.trans t2, m2, .cons (a1.mono t2.gg t2.ix) a2, q2⟩
theorem Ats.rev {K : PySem.W.Frag} {as : List Addr} {G : Hp} : ∀ {vs : List V} {ds : List Dt}, Ats K as G vs ds → Ats K as G vs.reverse ds.reverse
  | _, _, .nil => .nil
  | _, _, .cons h t => by
    simp only [List.reverse_cons]
    exact Ats.append (Ats.rev t) (.cons h .nil)
theorem vals_rev : ∀ {vs : List V} {us : List Value}, Vals vs us → Vals vs.reverse us.reverse
  | _, _, .nil => .nil
  | _, _, .cons h t => by
    simp only [List.reverse_cons]
    exact Vals.append (vals_rev t) (.cons h .nil)
theorem dE_mkEk {x : Str} {p : Pos} {kws : List Keyword} {Q : Dt → Mu → Prop} (Er : ErK X.prog X.w X.K X.mg X.base C names) (hr : Room 2 X.A) (hm : X.mg x = some (.ref C)) (h : dK X J kws ρ μ fun ds μ1 => ds.length = names.length ∧ Q (.exc C (erF names ds.reverse)) μ1)
    (hks : (backToKw pos (keywordEach kws X.env)).filterMap (·.1) = names.reverse := by rfl) (hall : (backToKw pos (keywordEach kws X.env)).all (·.1.isSome) = true := by rfl)
    (hg : Gl X x := by rfl) (hdb : (x == ("__debug__" : Str)) = false := by decide)
    (hpl : ((backTo pos (starEach [] X.env)).any (·.1) || (backToKw pos (keywordEach kws X.env)).any (·.1.isNone)) = false := by rfl) :
    dE X J (.Call (.Name x p) [] kws pos) ρ μ Q := .mk fun as G H σ S pins s I => by
  refine wpAny_Call_Name_kw (ld_glob I hg hm ?_ hdb)
  refine PySem.W.callWith_KW0 (h₀ := X.base) I.ok.mod.kin Er.T.kC hall (thn (h as G H σ S pos pins s I) fun us s1 ⟨vs, H1, I1, r, ds, μ1, as1, G1, t, m, av, hl, q⟩ => ⟨I1.kIn, ?_⟩) hpl
  rw [hks]
  have e1 : vs.length = names.length := av.length.trans hl
  refine thn (run_mkE (us := []) (zs := us.reverse) (kw := names.reverse.zip us) Er hr I1 m av.rev (vals_rev r) (by simpa using e1) (Nat.zero_le _) (fun fd _ b2 s self ki => b2 s self us (by rw [← r.length, e1])) q) fun u s2 ⟨v, H2, I2, rv, q2⟩ => ⟨v, H2, I2, rv, q2.back t⟩
end
end DL

/-! D10: own exceptions over data: read, asked, raised; try with clauses. -/
namespace DL
open PySem PySem.Spec PyProof.Rows L2
section
variable {X : Cx} {J : JX} {e a b c : Expr} {es : List Expr} {ρ : Env'} {μ : Mu} {σ : L2.St} {H : Hp} {pos : Pos} {C : Addr} {names : List Str}
/-- e.f of an error held as a value -/
theorem dE_fldX {f : Str} {Q : Dt → Mu → Prop} (xf : XfC X.K C) (no : PySem.W.findIn X.K (.ref C) f = some none) (h : dE X J a ρ μ fun d μ1 => ∃ gs x, d = .exc C gs ∧ gs.lookup f = some x ∧ Q x μ1) (hb : attributeBase a f X.env (eval a X.env) = eval a X.env := by rfl) :
    dE X J (.Attribute a f pos) ρ μ Q := .mk fun as G H σ S pins s I => by
  refine attr_of hb (thn (h as G H σ S pins s I) fun u s1 ⟨v, H1, I1, r1, d, μ1, as1, G1, t1, m1, a1, gs, x, e1, e2, q⟩ => ?_)
  subst e1
  cases a1 with
  | exc0 h1 => simp at e2
  | exc h1 h2 h3 =>
    rename_i p dx fs
    obtain rfl : u = Value.ref p := r1
    obtain ⟨w, l, aw⟩ := h3.look e2
    obtain ⟨t0, ho⟩ := exo_at I1.hok (m1.same _ _ h1)
    obtain ⟨mA, hns, rel⟩ := exd_at I1.hok (m1.same _ _ h2)
    obtain ⟨od, hd, hl⟩ := lookIn_ns hns
    obtain ⟨z, hz, rz⟩ := RelO.some_of (v := w) (o := mA f) (by rw [← l]; exact rel f)
    exact HandSPX.exc_get I1.kIn ⟨ho, rfl, rfl, hd⟩ xf.ga xf.gg xf.exC (PySem.W.findObj_own xf.hdC no rfl (by rw [hl, hz])) (handed_of rz) ⟨w, H1, I1.tok _, rz, x, μ1, as1, G1, t1, m1, aw, q⟩

/-! ### isinstance -/
/-- a built-in type's name as a value -/
theorem dE_bty {x : Str} {p : Pos} {T : String} {Q : Dt → Mu → Prop} (hm : X.mg x = none) (q : Q (.val (.ty T)) μ) (hv : bootBuiltins x = some (.type T) := by decide +kernel) (hg : Gl X x := by rfl) (hn : x ≠ "__name__" := by decide) (hdb : (x == ("__debug__" : Str)) = false := by decide) :
    dE X J (.Name x p) ρ μ Q := .mk fun as G H σ S pins s I => ld_blt I hg hm hv ⟨.ty T, H, I, rfl, AfE.now S.mem (.val _) q⟩ hn hdb
/-- the type of data -/
inductive TyM (K : PySem.W.Frag) (μ : Mu) : Dt → Value → Prop
  | non : TyM K μ .non (.type "NoneType")
  | bl (b : Bool) : TyM K μ (.bl b) (.type "bool")
  | int (i : Int) : TyM K μ (.int i) (.type "int")
  | str (x : Str) : TyM K μ (.str x) (.type "str")
  | lst (xs : List Dt) : TyM K μ (.lst xs) (.type "list")
  | tup (xs : List Dt) : TyM K μ (.tup xs) (.type "tuple")
  | dic (es : List (Key × Dt)) : TyM K μ (.dic es) (.type "dict")
  | mlst {k : Nat} {xs : List Dt} (h : μ[k]? = some (.lst xs)) : TyM K μ (.mut k) (.type "list")
  | mdic {k : Nat} {es : List (Key × Dt)} (h : μ[k]? = some (.dic es)) : TyM K μ (.mut k) (.type "dict")
  | obj {C : Addr} {gs : List (Str × Dt)} (cl : Cls K C) (ha : PySem.W.findIn K (.ref C) "__class__" = some (some (.builtin "object.__class__")))
      (hn : PySem.W.specialIn K (.builtin "object.__class__") "__get__" = some (some (.builtin "getset_descriptor.__get__"))) (htk : PySem.W.takesIn K (.builtin "object.__class__") = some true)
      (hm : PySem.W.mroIn K C (.type "object") = some true) : TyM K μ (.obj C gs) (.ref C)
  | exc {C : Addr} {gs : List (Str × Dt)} (x : ExcC K C) : TyM K μ (.exc C gs) (.ref C)
  | mins {k : Nat} {C : Addr} {gs : List (Str × Dt)} (h : μ[k]? = some (.ins C gs)) (cl : Cls K C) (ha : PySem.W.findIn K (.ref C) "__class__" = some (some (.builtin "object.__class__")))
      (hn : PySem.W.specialIn K (.builtin "object.__class__") "__get__" = some (some (.builtin "getset_descriptor.__get__"))) (htk : PySem.W.takesIn K (.builtin "object.__class__") = some true)
      (hm : PySem.W.mroIn K C (.type "object") = some true) : TyM K μ (.mut k) (.ref C)
theorem tyX_of {K : PySem.W.Frag} {as : List Addr} {G : Hp} {v : V} {d : Dt} {t : Value} (m : Mem K as G H μ) (a : At K as G v d) (ty : TyM K μ d t) : TyX K H v t ∨ ∃ (p C : Addr) (dx : Option Addr), v = .ref p ∧ t = .ref C ∧ ExcC K C ∧ H p = some (exo p C dx) ∧ ∀ y, dx = some y → ∃ fs, H y = some (exd y fs) := by
  cases ty with
  | non => cases a; exact .inl (.base .non)
  | bl b => cases a; exact .inl (.base (.bl b))
  | int b => cases a; exact .inl (.base (.int b))
  | str b => cases a; exact .inl (.base (.str b))
  | lst xs =>
    cases a with
    | lst h1 h2 =>
      rcases h1 with (h1 | ⟨o, h1⟩) | ⟨o, its, n, h1, h3, _⟩
      · exact .inl (.base (.lst (m.same _ _ h1)))
      · exact .inl (.base (.frz (m.same _ _ h1)))
      · exact .inl (.kList h1 h3)
  | tup xs =>
    cases a with
    | tup h1 h2 =>
      rcases h1 with (h1 | ⟨o, h1⟩) | ⟨o, its, n, h1, h3, _⟩
      · exact .inl (.base (.tup (m.same _ _ h1)))
      · exact .inl (.fTuple (m.same _ _ h1))
      · exact .inl (.kTuple h1 h3)
  | dic es => cases a with | dic h1 h2 => exact .inl (.base (.dK (m.same _ _ h1)))
  | mlst h =>
    cases a with
    | «mut» hk =>
      obtain ⟨p, o, e1, e2, ⟨xs, e3, _⟩, _⟩ := m.cell _ _ h (by simp)
      rw [hk] at e1; cases e1
      exact .inl (.base (.lst (by rw [e2, e3])))
  | mdic h =>
    cases a with
    | «mut» hk =>
      obtain ⟨p, o, e1, e2, ⟨xs, e3, _⟩, _⟩ := m.cell _ _ h (by simp)
      rw [hk] at e1; cases e1
      exact .inl (.base (.dK (by rw [e2, e3])))
  | mins h cl ha hn htk hm =>
    cases a with
    | «mut» hk =>
      obtain ⟨p, o, e1, e2, ⟨dx, vs, e3, _⟩, _⟩ := m.cell _ _ h (by simp)
      rw [hk] at e1; cases e1
      exact .inl (.base (.ins (by rw [e2, e3]) cl ha hn htk hm))
  | obj cl ha hn htk hm => cases a with | obj h1 h2 => exact .inl (.base (.ins (m.same _ _ h1) cl ha hn htk hm))
  | exc x =>
    cases a with
    | exc h1 h2 h3 => exact .inr ⟨_, _, _, rfl, rfl, x, m.same _ _ h1, fun y e => by cases e; exact ⟨_, m.same _ _ h2⟩⟩
    | exc0 h1 => exact .inr ⟨_, _, _, rfl, rfl, x, m.same _ _ h1, fun y e => by cases e⟩
def rIsX (K : PySem.W.Frag) : List V → Hp → VK → Prop := fun xs H Q => rIsi K xs H Q ∨ ∃ (p C : Addr) (dx : Option Addr) (c : V) (u : Value) (r : Bool), xs = [.ref p, c] ∧ ClsV c u ∧ ExcC K C ∧ H p = some (exo p C dx) ∧ (∀ y, dx = some y → ∃ fs, H y = some (exd y fs)) ∧ PySem.W.kitOne K (.ref C) u = some r ∧ Q (.bl r) H
theorem call_isX : CallR X (.builtin "isinstance") (rIsX X.K) := by
  intro pins s σ H xs us Q I r h
  rcases h with h | ⟨p, C, dx, c, u, b, rfl, k, x, hp, hd, e, q⟩
  · exact call_isi pins s σ H xs us Q I r h
  · obtain ⟨u1, u2, rfl, r1, r2⟩ := vals2 r
    have e2 := k.eq r2
    subst e2
    obtain rfl : u1 = Value.ref p := r1
    obtain ⟨t0, ho⟩ := exo_at I.hok hp
    have cl : (PySem.W.clsIn X.K C).isSome = true := by
      obtain ⟨cd, hc, _⟩ := PySem.W.any_some x.hd
      rw [hc]; rfl
    have Z : ∀ ox od, PySem.W.KitX X.K (.ref p) (.ref C) (fun h => PySem.W.InstAt h p ox C od) := fun ox od => PySem.W.kitx_exc cl x.hg x.hk x.hs x.ha x.hn x.ht x.hm
    cases dx with
    | none => exact PySem.W.kia_one (Z _ none) I.kIn ⟨ho, rfl, rfl, trivial⟩ e (fun z => nomatch z) fun tk => ⟨.bl b, H, I.tok tk, rfl, q⟩
    | some y =>
      obtain ⟨fs, hy⟩ := hd y rfl
      obtain ⟨mA, hns, rel⟩ := exd_at I.hok hy
      obtain ⟨od, hod, _⟩ := lookIn_ns hns
      exact PySem.W.kia_one (Z _ (some od)) I.kIn ⟨ho, rfl, rfl, hod⟩ e (fun z => nomatch z) fun tk => ⟨.bl b, H, I.tok tk, rfl, q⟩
theorem cd_isi : CallD X (.builtin "isinstance") (fun ds μ Q => ∃ d c t u r, ds = [d, .val c] ∧ ClsV c u ∧ TyM X.K μ d t ∧ PySem.W.kitOne X.K t u = some r ∧ Q (.bl r) μ) := by
  refine ⟨⟨_, call_isX, fun as G H μ xs ds Q Q' m a ⟨d, c, t, u, r, e, k, ty, ki, q⟩ f => ?_⟩⟩
  subst e
  obtain ⟨x, y, rfl, a1, a2⟩ := a.two
  cases a2
  rcases tyX_of m a1 ty with z | ⟨p, C, dx, rfl, rfl, xc, hp, hd⟩
  · exact .inl ⟨x, c, t, u, r, rfl, k, z, ki, f _ _ (.now m (.bl _) q)⟩
  · exact .inr ⟨p, C, dx, c, u, r, rfl, k, xc, hp, hd, ki, f _ _ (.now m (.bl _) q)⟩

/-! ### raise -/
theorem dS_raiseE {x : Str} {p : Pos} {D : DEnds} (hc : X.calm = true) (Er : ErK X.prog X.w X.K X.mg X.base C names) (hr : Room 2 X.A) (hm : X.mg x = some (.ref C)) (hne : names ≠ [])
    (h : dA X J (e :: es) ρ μ fun ds μ1 => ds.length = names.length ∧ J C (erF names ds) μ1) {rpos : Pos}
    (hg : Gl X x := by rfl) (hdb : (x == ("__debug__" : Str)) = false := by decide) (he : starEach (e :: es) X.env = (false, eval e X.env) :: starEach es X.env := by rfl) (hpl : (backTo pos (starEach es X.env)).any (·.1) = false := by rfl) :
    dS X J (.Raise (some (.Call (.Name x p) (e :: es) [] pos)) none rpos) ρ μ D := .mk fun as G H σ S => by
  obtain ⟨fI, fd, iC, tI, F1, b1, _⟩ := Er.ini
  refine (ps_raise hc S.tk (pmk_oex Er.T iC tI F1 hr b1 .nil passL hg hm paW hdb he hpl)).w ?_
  refine wA_mono (h as G H σ S) fun vs H1 ⟨ds, μ1, as1, G1, t1, m1, av, hl, q⟩ => ?_
  have e1 : vs.length = names.length := av.length.trans hl
  refine ⟨by have := Er.few; omega, fun a ha => ⟨a, vs, by rw [List.append_nil], e1, upd_same, fun z => absurd z hne, fun _ dx h1 h2 => ⟨rfl, dx, (names.zip vs).reverse, exH_a, exH_d h2, ?_, ?_⟩⟩⟩
  · rw [upd_ne h2] at h1; exact h1
  · have h3 : H1 dx = none := by rw [upd_ne h2] at h1; exact h1
    have e2 : upd (del (exH (upd H1 a (exo a C none)) a C dx (names.zip vs).reverse) a) dx (.xd (names.zip vs).reverse) = upd H1 dx (.xd (names.zip vs).reverse) := by
      funext b
      by_cases hb : b = dx
      · subst hb; rw [upd_same, upd_same]
      · rw [upd_ne hb, upd_ne hb]
        by_cases hba : b = a
        · subst hba; rw [del_same, ha]
        · rw [del_ne hba]
          unfold exH
          rw [upd_ne hba, upd_ne hb, upd_ne hba]
    rw [e2]
    have t2 := Step.lay (o := .xd (names.zip vs).reverse) m1 h3
    exact ⟨C, as1, _, μ1, erF names ds, rfl, t1.trans t2, m1.lay h3, .inr ⟨dx, _, rfl, upd_same, (Fts.zip av).rev.mono t2.gg t2.ix⟩, q⟩
end
end DL

/-! D11: try over data: clauses with and without a name. -/
namespace DL
open PySem PySem.Spec PyProof.Rows L2

/-- the caught exception as a slot's data -/
def cauD (a : Addr) (d : Option Addr) (gs : List (Str × Dt)) : Dt := match d with
  | some dd => .cau a dd gs
  | none => .val (.ref a)
def nones (n : Nat) : Env' := List.replicate n none
theorem Slots.nones {K : PySem.W.Frag} {as : List Addr} {G : Hp} {σ : L2.St} {n : Nat} (h : σ.length = n) : Slots K as G σ (nones n) :=
  ⟨by simp [DL.nones, h], fun i d e => by
    unfold DL.nones at e
    rw [List.getElem?_replicate] at e
    split at e <;> cases e⟩
/-- what the clauses make of an exception -/
def ClsD (X : Cx) (J : JX) (D : DEnds) : List ExceptHandler → JX
  | [] => J
  | h :: r => fun C gs μ' => ∃ (x : Str) (np : Pos) (nm : Option Str) (b0 : Stmt) (suite : List Stmt) (hp : Pos) (c : Value) (k : Bool), h = .ExceptHandler (some (.Name x np)) nm (b0 :: suite) hp ∧ Names X x c ∧ PySem.W.exmOne X.K (.ref C) c = some k ∧
      (k = false → ClsD X J D r C gs μ') ∧ (k = true → ∀ (a : Addr) (oe : Obj) (d : Option Addr) (pn : List (Addr × Obj)), Zc (.ref C) d oe → (∃ vs, oe.data = .fields vs) → (gs ≠ [] → d.isSome = true) →
        match nm with
        | none => dSs (X.suite a ((a, oe) :: pn)) J0 (b0 :: suite) (nones X.N.length) μ' D
        | some n => ∃ i, X.N[i]? = some n ∧ X.env.kindOf n = some .local ∧ dSs (X.suite a ((a, oe) :: pn)) J0 (b0 :: suite) ((nones X.N.length).set i (some (cauD a d gs))) μ'
            { nx := fun ρ' => D.nx (ρ'.set i none), rt := D.rt, bk := fun ρ' => D.bk (ρ'.set i none), ct := fun ρ' => D.ct (ρ'.set i none) })
section
variable {X : Cx} {J : JX} {ρ : Env'} {μ : Mu} {σ : L2.St} {H : Hp} {D : DEnds} {as : List Addr} {G : Hp} {pins : List (Addr × Obj)}
theorem clauses_ok (ok : X.Ok) (hN : X.N.Nodup) (tk : TakesD X J as G H) {B : Heap} {a : Addr} {C : Addr} {d : Option Addr} {gs : List (Str × Dt)} {σ1 : L2.St} {H1 : Hp} {sI sL : Shared} {as1 : List Addr} {G1 : Hp} {μ1 : Mu}
    (hs : X.stack = X.env :: X.outer) (hf : X.env.frame = some X.env.locals) (I0 : Inv X pins σ1 H1 sI) (nb : ∀ b o, sI.heap.get? b = some o → b ∉ frs X.stack → B.get? b = some o) (up : sI.heap.UpToSlots sL.heap) (os : sL.os = sI.os) (ag : AllBare sL.gens)
    (fly : HandSPX.FlyingZ B (X.env :: X.outer) a (Zc (.ref C) d) sL.heap) (na : H1 a = none) (t1 : Step as G H as1 G1 H1) (m1 : Mem X.K as1 G1 H1 μ1) (fz : (d = none ∧ gs = []) ∨ ∃ (dd : Addr) (fs : List (Str × V)), d = some dd ∧ G1 dd = some (.xd fs) ∧ Fts X.K as1 G1 fs gs) :
    ∀ {hds : List ExceptHandler}, ClsD X J D hds C gs μ1 → wpAny (model X.prog X.w) X.A (handleBy (.ref a) X.env hds) (SP X pins (EndsOf X.K as G H D)) X.xe sL := by
  obtain ⟨oeL, vsL, atL, zL, dL⟩ := fly.there
  have nofr : a ∉ frs (X.env :: X.outer) := fun hm => by
    obtain ⟨_, o2, e2, nf⟩ := fly.2.2.1.mem hm
    rw [atL] at e2
    cases e2
    exact nf _ dL
  have neL : a ≠ X.env.locals := fun z => nofr (List.mem_filterMap.mpr ⟨X.env, List.mem_cons_self, by rw [hf, z]⟩)
  have neF : a ∉ X.fs := fun hm => by
    obtain ⟨e, e1, e2⟩ := List.mem_filterMap.mp hm
    exact nofr (List.mem_filterMap.mpr ⟨e, List.mem_cons_of_mem _ e1, e2⟩)
  have IL : Inv X pins σ1 H1 sL := I0.landed nb fly.1 up os ag
  have SL := IL.suite atL dL na neL neF
  intro hds
  induction hds with
  | nil =>
    intro w
    refine wpAny_handleBy_nil ?_
    obtain ⟨_, _, _, oe, vs, T, oT, ts, e1, z1, d1, f1, rt⟩ := id fly
    unfold PySem.passOn
    refine wpAny_bind (wpAny_field e1 d1 f1 ?_)
    rw [if_neg (show ¬ ((Value.ref T == Value.none) = true) from by simp)]
    have last : wpAny (model X.prog X.w) X.A (setFlight (.ref a) X.env.frame) (fun _ s4 => wpAny (model X.prog X.w) X.A (throw (.ref a) : Sem Flow) (SP X pins (EndsOf X.K as G H D)) X.xe s4) X.xe sL := by
      rw [hf]
      refine HandSPX.setFlight_upZ fly fun h4 held u4 => wpAny_throw (tk _ _ ?_)
      exact ⟨a, B, sI, pins, σ1, H1, .ref C, d, rfl, I0, nb, up.trans u4, .inr (.inr (by rw [hs]; exact held)), na, os, ag, C, as1, G1, μ1, gs, rfl, t1, m1, fz, w⟩
    first
      | exact wpAny_bind (wpAny_pure (wpAny_bind last))
      | exact wpAny_bind last
  | cons h r ih =>
    intro w
    obtain ⟨x, np, nm, b0, suite, hp, c, k, rfl, hc, hk, no, yes⟩ := w
    refine wpAny_handleBy_cons (codeAny_handlers_test ?_) (by intro q; cases q)
    have ty : PySem.W.Looks (model X.prog X.w) sL.heap (typeOf (.ref a)) (.ref C) := fun A Q E s k q => wpAny_typeOf_ref (k _ _ atL) (by rw [zL.1]; exact q)
    have lk := PySem.W.exm_one (M := model X.prog X.w) SL.kIn ty hk
    have read : ∀ {Q : Value → Shared → Prop} {E : Value → Shared → Prop}, Q c sL → wpAny (model X.prog X.w) (X.A.mark (some (.ref a))) (eval (.Name x np) X.env) Q E sL := fun {Q E} q => by
      obtain ⟨g, db, hm | ⟨hm, hv, hnn⟩⟩ := hc
      · exact ld_glob (X := X.suite a ((a, oeL) :: (X.pn ++ pins))) SL g hm q db
      · exact ld_blt (X := X.suite a ((a, oeL) :: (X.pn ++ pins))) SL g hm hv q hnn db
    refine read (lk.here ?_)
    cases k with
    | false =>
      show wpAny _ X.A (handleBy (.ref a) X.env r) _ _ _
      exact ih (no rfl)
    | true =>
      have Y := yes rfl
      have dz : gs ≠ [] → d.isSome = true := fun h => by
        rcases fz with ⟨_, e⟩ | ⟨dd, fs, e, _⟩
        · exact absurd e h
        · rw [e]; rfl
      cases nm with
      | none =>
        refine codeAny_handlers_suite ?_
        refine HandSPX.lands_againZ fly fun h4 fl4 u4 => ?_
        have I4 : Inv X pins σ1 H1 { sL with heap := h4 } := I0.landed nb fl4.1 (up.trans u4) os ag
        obtain ⟨oe4, vs4, at4, z4, d4⟩ := fl4.there
        have S4 := I4.suite at4 d4 na neL neF
        refine wpAny_mono (Y a oe4 d (X.pn ++ pins) z4 ⟨_, d4⟩ dz as1 G1 H1 σ1 ⟨m1, .nones I4.len, .none⟩ [] _ S4) (fun f s6 hsp => ?_) (fun _ _ z => False.elim z)
        have hsp2 := SP.mono (EndsOf.back D t1) hsp
        cases f with
        | next => obtain ⟨σ6, H6, S6, q6⟩ := hsp2; exact ⟨_, _, S6.unsuite ok, q6⟩
        | brk => obtain ⟨σ6, H6, S6, q6⟩ := hsp2; exact ⟨_, _, S6.unsuite ok, q6⟩
        | cont => obtain ⟨σ6, H6, S6, q6⟩ := hsp2; exact ⟨_, _, S6.unsuite ok, q6⟩
        | ret u => obtain ⟨v6, σ6, H6, S6, r6, q6⟩ := hsp2; exact ⟨_, _, _, S6.unsuite ok, r6, q6⟩
      | some n =>
        refine codeAny_handlers_suite_as ?_
        refine HandSPX.lands_againZ fly fun h4 fl4 u4 => ?_
        have I4 : Inv X pins σ1 H1 { sL with heap := h4 } := I0.landed nb fl4.1 (up.trans u4) os ag
        obtain ⟨oe4, vs4, at4, z4, d4⟩ := fl4.there
        have S4 := I4.suite at4 d4 na neL neF
        obtain ⟨i, hi, hln, Y⟩ := Y a oe4 d (X.pn ++ pins) z4 ⟨_, d4⟩ dz
        refine store_ok (X := X.suite a ((a, oe4) :: (X.pn ++ pins))) (v := .ref a) S4 hN hi (.inl hln) rfl (fun s5 S5 => ?_) (.inr hln)
        have ad : At X.K as1 G1 (.ref a) (cauD a d gs) := by
          rcases fz with ⟨rfl, rfl⟩ | ⟨dd, fs, rfl, e2, e3⟩
          · exact .val _
          · exact .cau e2 e3
        refine wpAny_mono (Y as1 G1 H1 _ ⟨m1, (Slots.nones I4.len).set i ad, .none⟩ [] s5 S5) (fun f s6 hsp => ?_) (fun _ _ z => False.elim z)
        have wipe : ∀ {σ6 : L2.St} {H6 : Hp} {Q : Shared → Prop}, Inv (X.suite a ((a, oe4) :: (X.pn ++ pins))) [] σ6 H6 s6 → (∀ s7, Inv X pins (σ6.set i none) H6 s7 → Q s7) →
            wpAny (model X.prog X.w) X.A (do bindName X.env n .none; unbindBehindTheSuite X.env n hp) (fun _ s7 => Q s7) X.xe s6 := fun {σ6 H6 Q} S6 hq => gone_ok (S6.unsuite ok) hN hi hln hq
        have back : ∀ {Q : Env' → Mu → Prop} {σ6 : L2.St} {H6 : Hp}, AfS X.K as1 G1 H1 (fun ρ' => Q (ρ'.set i none)) σ6 H6 → AfS X.K as G H Q (σ6.set i none) H6 := fun {Q σ6 H6} ⟨ρ6, μ6, as6, G6, t6, m6, s6, q6⟩ => ⟨_, μ6, as6, G6, t1.trans t6, m6, s6.unset i, q6⟩
        cases f with
        | next => obtain ⟨σ6, H6, S6, q6⟩ := hsp; exact wipe S6 fun s7 J7 => ⟨_, _, J7, back q6⟩
        | brk => obtain ⟨σ6, H6, S6, q6⟩ := hsp; exact wipe S6 fun s7 J7 => ⟨_, _, J7, back q6⟩
        | cont => obtain ⟨σ6, H6, S6, q6⟩ := hsp; exact wipe S6 fun s7 J7 => ⟨_, _, J7, back q6⟩
        | ret u => obtain ⟨v6, σ6, H6, S6, r6, q6⟩ := hsp; exact wipe S6 fun s7 J7 => ⟨_, _, _, J7, r6, AfE.back t1 q6⟩
/-- try: body / except .. -/
theorem dS_try {body : List Stmt} {h0 : ExceptHandler} {hds : List ExceptHandler} {pos : Pos} (hN : X.N.Nodup) (hs : X.stack = X.env :: X.outer) (hf : X.env.frame = some X.env.locals)
    (hb : ∀ (pn : List (Addr × Obj)) (xe : Value → Shared → Prop), PassesOwn (model X.prog X.w) X.A X.env xe → dSs (X.tr pn xe) (ClsD X J D (h0 :: hds)) body ρ μ D) : dS X J (.Try body (h0 :: hds) [] [] pos) ρ μ D := .mk fun as G H σ S pins s I => by
  have ok := I.ok
  have hfr : X.A.frames = some (X.env :: X.outer) := by rw [ok.frames, hs]
  refine wpAny_Try_except ?_
  have Bd := hb (X.pn ++ pins) (fun e s₁ => wpAny (model X.prog X.w) X.A (noteFrame e X.env) (fun _ s₂ => wpAny (model X.prog X.w) X.A (setFlight e none) (fun _ s₃ =>
    wpAny (model X.prog X.w) X.A (handleBy e X.env (h0 :: hds)) (SP X pins (EndsOf X.K as G H D)) X.xe s₃) X.xe s₂) X.xe s₁) PassesOwn.looking
  refine wpAny_mono (Bd as G H σ ⟨S.mem, S.sl, fun u s' air => ?_⟩ [] s (I.toTry _)) (fun f s1 hsp => ?_) (fun e s1 he => he)
  · obtain ⟨a, B, sI, pins', σ1, H1, cls, d, rfl, J', nb, up, sky, na, os, ag, C, as1, G1, μ1, gs, rfl, t1, m1, fz, w⟩ := air
    have I0 : Inv X pins σ1 H1 sI := J'.ofTry ok
    have sky2 : Sky B (X.env :: X.outer) a (Zc (.ref C) d) X.env.locals s'.heap := by rw [← hs]; exact sky
    show wpAny (model X.prog X.w) X.A (noteFrame (.ref a) X.env) _ _ _
    exact Sky.land Zc.steady hfr hf sky2 fun h3 fl3 up3 => clauses_ok (sL := { s' with heap := h3 }) ok hN S.tk hs hf I0 nb (up.trans up3) os ag fl3 na t1 m1 fz w
  · cases f with
    | next => obtain ⟨σ1, H1, J1, q⟩ := hsp; exact wpAny_execs_nil ⟨_, _, J1.ofTry ok, q⟩
    | brk => obtain ⟨σ1, H1, J1, q⟩ := hsp; exact ⟨_, _, J1.ofTry ok, q⟩
    | cont => obtain ⟨σ1, H1, J1, q⟩ := hsp; exact ⟨_, _, J1.ofTry ok, q⟩
    | ret u => obtain ⟨v, σ1, H1, J1, r, q⟩ := hsp; exact ⟨_, _, _, J1.ofTry ok, r, q⟩
/-- n.f in a suite, n the caught exception -/
theorem dE_fldC {e : Expr} {f : Str} {pos : Pos} {Q : Dt → Mu → Prop} {a C : Addr} {oe : Obj} {d : Option Addr} {pn : List (Addr × Obj)} (xf : XfC X.K C) (no : PySem.W.findIn X.K (.ref C) f = some none) (hz : Zc (.ref C) d oe) (hd : ∃ vs, oe.data = .fields vs)
    (h : dE (X.suite a ((a, oe) :: pn)) J e ρ μ fun y μ1 => ∃ gs x, y = cauD a d gs ∧ gs.lookup f = some x ∧ d.isSome = true ∧ Q x μ1) (hb : attributeBase e f X.env (eval e X.env) = eval e X.env := by rfl) :
    dE (X.suite a ((a, oe) :: pn)) J (.Attribute e f pos) ρ μ Q := .mk fun as G H σ S => by
  refine (pe_xf (cls := .ref C) (d := d) xf no hz hd peW hb).w ?_
  refine wE_mono (h as G H σ S) fun v H1 ⟨y, μ1, as1, G1, t1, m1, a1, gs, x, e1, e2, e3, q⟩ => ?_
  cases d with
  | none => cases e3
  | some dd =>
    subst e1
    cases a1 with
    | cau h1 h2 =>
      obtain ⟨w, l, aw⟩ := h2.look e2
      exact ⟨rfl, rfl, dd, _, w, rfl, m1.same _ _ h1, l, x, μ1, as1, G1, t1, m1, aw, q⟩
end
end DL

/-! D12: the head of a law over data. -/
namespace DL
open PySem PySem.Spec PyProof.Rows L2

theorem ats_ints {K : PySem.W.Frag} {as : List Addr} {G : Hp} : ∀ ns : List Int, Ats K as G (ns.map V.int) (ns.map Dt.int)
  | [] => .nil
  | n :: r => .cons (.int n) (ats_ints r)
/-- the heap that knows the script alone -/
def oneH (a : Addr) (u : HO) : Hp := fun b => if b = a then some u else none
theorem run_law {P : Program} {w : World} {K : PySem.W.Frag} {mg mb : Str → Option Value} {k : Nat} {fa a : Addr} {fd : FuncData} {x : Str} {R : Spc} {s₁ : Shared} {vs : List Value} {ns : List Int}
    (KX : K.In s₁.heap) (gl : s₁.heap.Ns mainGlobals mg) (bl : s₁.heap.Ns builtinsNs mb) (bb : ∀ x : Str, x ≠ "__name__" → mb x = bootBuiltins x) (lim : s₁.heap.NoLimit) (gens : s₁.gens = #[])
    (at_ : s₁.heap.get? a = some { cls := .type "list", data := .seq vs.toArray }) (isInts : IntsAre vs ns) (few : ns.length ≤ sizeLine) (room : Room k callerA)
    (F : ∀ base : Heap, K.In base → base.Ns mainGlobals mg → FnG P w K mg base k fa fd [x] R) (bind : ∀ (s : Shared) (u : Value), BindsTo s fd ⟨[u], []⟩ [(x, u)])
    (hR : R [.lst (ns.map .int)] [] (fun d _ => d = .bl true) J0) :
    codeAny (model P w) callerA (.call (.ref fa) ⟨[.ref a], []⟩) (fun r s' => r = .ok (.ret (.bool true)) ∧ OldK s₁.heap s'.heap ∧ s'.os = s₁.os ∧ AllBare s'.gens) s₁ := by
  have rv := vals_ints isInts
  have go : ∀ H : Hp, (∀ b u, H b = some u → b = a ∧ K.lookup a = none ∧ ∃ o xs, u = .frz o (.lst xs)) → SqL K H a (ns.map V.int) → HOk P w H s₁.heap →
      codeAny (model P w) callerA (.call (.ref fa) ⟨[.ref a], []⟩) (fun r s' => r = .ok (.ret (.bool true)) ∧ OldK s₁.heap s'.heap ∧ s'.os = s₁.os ∧ AllBare s'.gens) s₁ := by
    intro H only sq hok
    have free : ∀ {b : Addr} {o : Obj}, s₁.heap.get? b = some o → (b ≠ a ∨ K.lookup a ≠ none) → H b = none := fun {b o} e h => by
      cases q : H b with
      | none => rfl
      | some u =>
        obtain ⟨e1, e2, _⟩ := only b u q
        rcases h with h | h
        · exact absurd e1 h
        · exact absurd e2 h
    have ns_ : ∀ {b : Addr} {m : Str → Option Value}, s₁.heap.Ns b m → (hidT s₁.heap H).Ns b m := fun {b m} ⟨o, es, ep, e, d, r⟩ => ⟨o, es, ep, hidT_get e (free e (.inl fun z => by
      rw [z, at_] at e
      cases e
      cases d)), d, r⟩
    have kin : K.In (hidT s₁.heap H) := fun b o e => hidT_get (KX b o e) (free (KX b o e) (by
      by_cases hb : b = a
      · exact .inr fun z => by rw [hb, z] at e; cases e
      · exact .inl hb))
    have md : Mod K mg (hidT s₁.heap H) := ⟨kin, ns_ gl, ⟨mb, ns_ bl, bb⟩, let ⟨mc, h1, h2⟩ := lim; ⟨mc, ns_ h1, h2⟩⟩
    have e0 : Env0 P w K mg (hidT s₁.heap H) callerA [] s₁ H := ⟨rfl, md, fun b o e => of_hidT e, Nat.le_of_eq (hidT_size _ _), trivial, fun b hb => absurd (show b ∈ ([] : List Addr) from hb) (by simp), hok, .of_eq gens⟩
    have sp : spD K R [.ref a] H (fun v _ => v = .bl true) (fun _ _ _ => False) := by
      refine ⟨[], H, [.lst (ns.map .int)], [], _, _, ⟨Same.refl _, rfl, fun k m h => by simp at h, List.nodup_nil, fun a h => by simp at h⟩, .cons (.lst sq (ats_ints ns)) .nil, hR, ?_, ?_⟩
      · rintro v H' ⟨d, μ', as', G', t, m', a', q⟩
        subst q
        cases a'
        rfl
      · rintro cls d H' ⟨_, _, _, _, _, _, _, _, _, j⟩
        exact j.elim
    refine codeAny_mono ((F _ kin (ns_ gl)).run callerA [] s₁ H ⟨[.ref a], []⟩ [.ref a] [.ref a] _ _ room rfl e0 (bind s₁ (.ref a)) (.cons rfl .nil) sp) fun r s' h => ?_
    cases r with
    | error e =>
      obtain ⟨_, _, _, _, _, _, _, _, _, _, _, _, z⟩ := h
      exact z.elim
    | ok fl =>
      cases fl with
      | next => exact False.elim h
      | brk => exact False.elim h
      | cont => exact False.elim h
      | ret u =>
        obtain ⟨v, H', os, bare, un, hok', r', q⟩ := h
        have q' : v = .bl true := q
        subst q'
        obtain rfl : u = Value.bool true := r'
        refine ⟨rfl, OldK.of_keep fun b o e => ?_, os, bare⟩
        cases z : H b with
        | none => exact un.keep b o e z (fun y => absurd (show b ∈ ([] : List Addr) from y) (by simp)) (by simp)
        | some u =>
          obtain ⟨_, _, ob, xs, rfl⟩ := only b u z
          obtain ⟨e1, _⟩ := hok b _ z
          obtain ⟨e2, _⟩ := hok' b _ (un.frzs b ob _ z)
          rw [e] at e1
          cases e1
          exact e2
  cases hk : K.lookup a with
  | some o =>
    have e := KX a o hk
    rw [at_] at e
    cases e
    exact go (fun _ => none) (fun b u z => by cases z) (.inr ⟨_, vs.toArray, _, hk, rfl, rfl, rfl, by rw [List.size_toArray, isInts.length]; exact few, by simpa using rv⟩) (fun b u z => by cases z)
  | none =>
    refine go (oneH a (.frz { cls := .type "list", data := .seq vs.toArray } (.lst (ns.map V.int)))) (fun b u z => ?_) (.inl (.inr ⟨{ cls := .type "list", data := .seq vs.toArray }, if_pos rfl⟩)) (fun b u z => ?_)
    · unfold oneH at z
      split at z
      · rename_i hb
        cases z
        exact ⟨hb, hk, _, _, rfl⟩
      · cases z
    · unfold oneH at z
      split at z
      · rename_i hb
        cases z
        subst hb
        exact ⟨at_, by rw [List.length_map]; exact few, vs, _, rv, at_⟩
      · cases z
theorem walkG {l : PySem.W.OpenLaw} {n k : Nat} {q : Program} {loose : List Str} {XP : (Str → Option Value) → Heap → Prop} {YP : World → Heap → Prop} {d : DefRec} {K : Params → PySem.W.Frag} {R : World → Spc} {x : Str}
    (hn : l.most = some n) (hn2 : n ≤ sizeLine) (hdf : d.params.defaults = []) (hr : Room k callerA)
    (hY : ∀ (w : World) (h : Heap), YP w h → (K w.params).In h)
    (F : ∀ (w : World) (mg : Str → Option Value) (fa : Addr) (h : Heap), (K w.params).In h → h.Ns mainGlobals mg → mg d.name = some (.ref fa) →
      ∃ fd : FuncData, (∀ (s : Shared) (u : Value), BindsTo s fd ⟨[u], []⟩ [(x, u)]) ∧
        ∀ base : Heap, (K w.params).In base → base.Ns mainGlobals mg → FnG l.prog w (K w.params) mg base k fa fd [x] (R w))
    (hR : ∀ (w : World) (ns : List Int), ns.length ≤ n → R w [.lst (ns.map .int)] [] (fun d _ => d = .bl true) J0) :
    PySem.W.WalkO q loose XP YP l.row.toRowW d [] (fun f vs => PySem.call f vs) := by
  refine Att.attach_call hn hdf fun w s₀ s₁ mg mb fa o pm cd doc a vs ns G Y ho hd hcd hmg hobj hints hlen hg => ?_
  have KX := hY w _ Y
  obtain ⟨fd, hb, hF⟩ := F w mg fa _ KX G.T.g hmg
  exact run_law KX G.T.g G.T.b G.T.builtins G.T.nolimit hg hobj hints (Nat.le_trans hlen hn2) hr hF hb (hR w ns hlen)
end DL

/-! D13: a callee's new mutable object handed over; the pen. -/
namespace DL
open PySem PySem.Spec PyProof.Rows L2

/-- a callee's own mutable object becomes one of ours -/
theorem liftN {K : PySem.W.Frag} {as as' : List Addr} {G H G' H' : Hp} {μ μ' : Mu} {j : Nat} {p : Addr} {mo : Mo} (m : Mem K as G H μ) (t : Step [] G H as' G' H') (m' : Mem K as' G' H' μ') (hj : as'[j]? = some p) (hm : μ'[j]? = some mo) (ng : mo ≠ .gone) (f : mo.mf = true) :
    Step as G H (as ++ [p]) G' H' ∧ Mem K (as ++ [p]) G' H' (μ ++ [mo]) := by
  obtain ⟨s1, m1⟩ := lift0 m t m'.same
  have hn : H p = none := by
    rcases t.nw p (List.mem_of_getElem? hj) with z | z
    · simp at z
    · exact z
  obtain ⟨q, o, e1, e2, e3, e4⟩ := m'.cell j mo hm ng
  rw [hj] at e1
  cases e1
  have np : p ∉ as := fun h => m.ne p h hn
  have ix : ∀ (k : Nat) (a : Addr), as[k]? = some a → (as ++ [p])[k]? = some a := fun k a h => by
    rw [List.getElem?_append_left (List.getElem?_eq_some_iff.mp h).1]; exact h
  refine ⟨⟨⟨[p], rfl⟩, s1.gg, s1.hh, s1.ho, s1.fr, fun a h => ?_⟩, ⟨m1.same, by simp [m1.len], fun k mo' hk hg => ?_, ?_, fun a h => ?_⟩⟩
  · rcases List.mem_append.mp h with h | h
    · exact s1.nw a h
    · have : a = p := by simpa using h
      subst this
      exact .inr hn
  · by_cases hl : k < μ.length
    · rw [List.getElem?_append_left hl] at hk
      obtain ⟨a, o', h1, h2, h3, h4⟩ := m1.cell k mo' hk hg
      exact ⟨a, o', ix _ _ h1, h2, h3.mono (Same.refl _) ix, h4⟩
    · have hk2 := (List.getElem?_eq_some_iff.mp hk).1
      simp at hk2
      have e : k = μ.length := by omega
      subst e
      simp at hk
      subst hk
      exact ⟨p, o, by rw [← m.len]; simp, e2, e3.free f, e4⟩
  · rw [List.nodup_append]
    refine ⟨m.nd, by simp, fun a ha b hb => ?_⟩
    have : b = p := by simpa using hb
    subst this
    exact fun z => np (z ▸ ha)
  · rcases List.mem_append.mp h with h | h
    · exact m1.ne a h
    · have : a = p := by simpa using h
      subst this
      rw [e2]; simp
def CallsN (R : Spc) (J : JX) (ds : List Dt) (μ : Mu) (Q : Dt → Mu → Prop) : Prop :=
  mfs ds = true ∧ R ds [] (fun d μ' => ∃ j mo, d = .mut j ∧ μ'[j]? = some mo ∧ mo ≠ .gone ∧ mo.mf = true ∧ Q (.mut μ.length) (μ ++ [mo])) (fun C fs _ => mff fs = true ∧ J C fs μ)
theorem CallsN.sp {K : PySem.W.Frag} {as : List Addr} {G H : Hp} {μ : Mu} {R : Spc} {J : JX} {vs : List V} {ds : List Dt} {Q : Dt → Mu → Prop} (h : CallsN R J ds μ Q) (m : Mem K as G H μ) (av : Ats K as G vs ds) : spD K R vs H (AfE K as G H Q) (fun cls d H' => WJ K J as G H cls d H') := by
  obtain ⟨mf, h⟩ := h
  refine ⟨[], G, ds, [], _, _, ⟨m.same, rfl, fun k mo hk => by simp at hk, List.nodup_nil, fun a h => by simp at h⟩, av.free mf, h, ?_, ?_⟩
  · rintro v H' ⟨d, μ', as', G', t, m', a', j, mo, rfl, hm, ng, f, q⟩
    cases a' with
    | «mut» hj =>
      obtain ⟨t2, m2⟩ := liftN m t m' hj hm ng f
      exact ⟨_, _, _, G', t2, m2, .mut (by rw [← m.len]; simp), q⟩
  · rintro cls d H' ⟨C, as', G', μ', gs, e, t, m', fz, mg, j⟩
    obtain ⟨t2, m2⟩ := lift0 m t m'.same
    refine ⟨C, as, G', μ, gs, e, t2, m2, ?_, j⟩
    rcases fz with z | ⟨dd, fs, e1, e2, e3⟩
    · exact .inl z
    · exact .inr ⟨dd, fs, e1, e2, e3.free mg⟩
section
variable {X : Cx} {J : JX} {e a b c o i : Expr} {es : List Expr} {ρ : Env'} {μ : Mu} {σ : L2.St} {H : Hp} {pos : Pos} {k : Nat} {f : Addr} {fd : FuncData} {ps : List Str} {R : Spc}
/-- what is known of a def of the module -/
structure DefD (X : Cx) (k : Nat) (x : Str) (ps : List Str) (R : Spc) : Prop where
  ex : ∃ f fd, FnG X.prog X.w X.K X.mg X.base k f fd ps R ∧ X.mg x = some (.ref f) ∧ PySem.W.keepIn X.K (.ref f) = true ∧ Binds X.K fd ps []
theorem dE_do {x : Str} {p : Pos} {Q : Dt → Mu → Prop} (F : DefD X k x ps R) (hr : Room k X.A) (hgd : X.A.guards = some [])
    (h : dA X J (e :: es) ρ μ fun ds μ1 => CallsD R J ds μ1 Q)
    (hg : Gl X x := by rfl) (hdb : (x == ("__debug__" : Str)) = false := by decide) (he : starEach (e :: es) X.env = (false, eval e X.env) :: starEach es X.env := by rfl) (hpl : (backTo pos (starEach es X.env)).any (·.1) = false := by rfl) :
    dE X J (.Call (.Name x p) (e :: es) [] pos) ρ μ Q := by
  obtain ⟨f, fd, F, hm, hk, hb⟩ := F.ex
  exact dE_call F hr hgd hm hk hb h hg hdb he hpl
theorem dE_do0 {x : Str} {p : Pos} {Q : Dt → Mu → Prop} (F : DefD X k x ps R) (hr : Room k X.A) (hgd : X.A.guards = some []) (h : CallsD R J [] μ Q) (hg : Gl X x := by rfl) (hdb : (x == ("__debug__" : Str)) = false := by decide) : dE X J (.Call (.Name x p) [] [] pos) ρ μ Q := by
  obtain ⟨f, fd, F, hm, hk, hb⟩ := F.ex
  exact dE_call0 F hr hgd hm hk hb h hg hdb
theorem dE_doN {x : Str} {p : Pos} {Q : Dt → Mu → Prop} (F : DefD X k x ps R) (hr : Room k X.A) (hgd : X.A.guards = some [])
    (h : dA X J (e :: es) ρ μ fun ds μ1 => CallsN R J ds μ1 Q)
    (hg : Gl X x := by rfl) (hdb : (x == ("__debug__" : Str)) = false := by decide) (he : starEach (e :: es) X.env = (false, eval e X.env) :: starEach es X.env := by rfl) (hpl : (backTo pos (starEach es X.env)).any (·.1) = false := by rfl) :
    dE X J (.Call (.Name x p) (e :: es) [] pos) ρ μ Q := .mk fun as G H σ S pins s I => by
  obtain ⟨f, fd, F, hm, hk, hb⟩ := F.ex
  refine wpAny_Call_Name_kw (ld_glob I hg hm ?_ hdb)
  refine PySem.W.callWith_K (h₀ := X.base) I.ok.mod.kin hk (thn (h as G H σ S pos pins s I) fun us s1 ⟨vs, H1, I1, r, ds, μ1, as1, G1, t, m, av, q⟩ => ⟨I1.kIn, ?_⟩) he hpl
  have z := run_fnG (Q := AfE X.K as1 G1 H1 Q) F hr hgd hb (S.tk.step t) I1 r (q.sp m av)
  exact thn z fun u s2 ⟨v, H2, I2, rv, q2⟩ => ⟨v, H2, I2, rv, q2.back t⟩
end

/-! ### the pen -/
def penD (cells : List Int) (at_ dg ct fold : Int) : List (Key × Dt) := [(.inr "cells", .lst (cells.map .int)), (.inr "at", .int at_), (.inr "digits", .int dg), (.inr "count", .int ct), (.inr "fold", .int fold)]
/-- a pen after at most B draws -/
def Pen (B : Nat) (m : Mo) : Prop := ∃ cells at_ dg ct fold, m = .dic (penD cells at_ dg ct fold) ∧ 0 ≤ at_ ∧ 0 ≤ ct ∧ ct ≤ B ∧ 0 ≤ fold ∧ fold < 2147483269
theorem Pen.mono {B B' : Nat} {m : Mo} (h : Pen B m) (l : B ≤ B') : Pen B' m := by
  obtain ⟨c, a, d, t, f, e, h1, h2, h3, h4, h5⟩ := h
  exact ⟨c, a, d, t, f, e, h1, h2, by omega, h4, h5⟩
theorem mfs_ints : ∀ l : List Int, mfs (l.map Dt.int) = true
  | [] => rfl
  | _ :: r => by simp [mfs, Dt.mf, mfs_ints r]
theorem Pen.mf {B : Nat} {m : Mo} (h : Pen B m) : m.mf = true := by
  obtain ⟨c, a, d, t, f, rfl, _⟩ := h
  simp [Mo.mf, penD, mfk, Dt.mf, mfs_ints]
theorem Pen.ng {B : Nat} {m : Mo} (h : Pen B m) : m ≠ .gone := by
  obtain ⟨c, a, d, t, f, rfl, _⟩ := h
  exact fun z => by cases z
section
variable {cells : List Int} {a d c f x : Int}
theorem pen_cells : valD (penD cells a d c f) (.inr "cells") = some (.lst (cells.map .int)) := by kernel_rfl
theorem pen_at : valD (penD cells a d c f) (.inr "at") = some (.int a) := by kernel_rfl
theorem pen_dg : valD (penD cells a d c f) (.inr "digits") = some (.int d) := by kernel_rfl
theorem pen_ct : valD (penD cells a d c f) (.inr "count") = some (.int c) := by kernel_rfl
theorem pen_fold : valD (penD cells a d c f) (.inr "fold") = some (.int f) := by kernel_rfl
theorem pen_at_put : putD (penD cells a d c f) (.inr "at") (.int x) = penD cells x d c f := by kernel_rfl
theorem pen_dg_put : putD (penD cells a d c f) (.inr "digits") (.int x) = penD cells a x c f := by kernel_rfl
theorem pen_ct_put : putD (penD cells a d c f) (.inr "count") (.int x) = penD cells a d x f := by kernel_rfl
theorem pen_fold_put : putD (penD cells a d c f) (.inr "fold") (.int x) = penD cells a d c x := by kernel_rfl
theorem pen_merge {e : Dt} : mergeD [] [(.inr "cells", e), (.inr "at", .int a), (.inr "digits", .int d), (.inr "count", .int c), (.inr "fold", .int f)] = [(.inr "cells", e), (.inr "at", .int a), (.inr "digits", .int d), (.inr "count", .int c), (.inr "fold", .int f)] := by kernel_rfl
theorem pen_len : (penD cells a d c f).length < sizeLine := by rw [sizeLine_eq]; show 5 < _; omega
end
def rPen : Spc := fun ds μ Q _ => ∃ ns : List Int, ds = [.lst (ns.map .int)] ∧ μ = [] ∧ ∀ m, Pen 0 m → Q (.mut 0) [m]
def rDraw : Spc := fun ds μ Q _ => ∃ (B : Nat) (many : Int) (m : Mo), ds = [.mut 0, .int many] ∧ μ = [m] ∧ Pen B m ∧ B < 2 ^ 40 ∧ 0 < many ∧ many < 1073741824 ∧ ∀ (r : Int) m', 0 ≤ r → r < many → Pen (B + 1) m' → Q (.int r) [m']
def rPick : Spc := fun ds μ Q _ => ∃ (B : Nat) (xs : List Dt) (d : Dt) (m : Mo), ds = [.mut 0, d] ∧ (d = .lst xs ∨ d = .tup xs) ∧ μ = [m] ∧ Pen B m ∧ B < 2 ^ 40 ∧ xs ≠ [] ∧ xs.length < 1073741824 ∧ ∀ x ∈ xs, ∀ m', Pen (B + 1) m' → Q x [m']
end DL

/-! D14: the walk as a tactic. -/
namespace DL
open PySem PySem.Spec PyProof.Rows L2
/-- what is known of a def of the module -/
structure DefP (P : Program) (w : World) (K : PySem.W.Frag) (mg : Str → Option Value) (base : Heap) (k : Nat) (x : Str) (ps : List Str) (R : Spc) : Prop where
  ex : ∃ f fd, FnG P w K mg base k f fd ps R ∧ mg x = some (.ref f) ∧ PySem.W.keepIn K (.ref f) = true ∧ Binds K fd ps []
section
variable {X : Cx} {J : JX} {e a b c o i : Expr} {es : List Expr} {ρ : Env'} {μ : Mu} {pos : Pos} {k : Nat} {ps : List Str} {R : Spc}
theorem DefP.d {k' : Nat} {x : Str} (F : DefP X.prog X.w X.K X.mg X.base k x ps R) (h : k ≤ k') : DefD X k' x ps R := by
  obtain ⟨f, fd, F, r⟩ := F.ex
  exact ⟨f, fd, F.mono h, r⟩
theorem dE_go {x : Str} {p : Pos} {Q : Dt → Mu → Prop} (F : DefP X.prog X.w X.K X.mg X.base k x ps R) (hr : Room k X.A) (hgd : X.A.guards = some []) (h : dA X J (e :: es) ρ μ fun ds μ1 => CallsD R J ds μ1 Q)
    (hg : Gl X x := by rfl) (hdb : (x == ("__debug__" : Str)) = false := by decide) (he : starEach (e :: es) X.env = (false, eval e X.env) :: starEach es X.env := by rfl) (hpl : (backTo pos (starEach es X.env)).any (·.1) = false := by rfl) :
    dE X J (.Call (.Name x p) (e :: es) [] pos) ρ μ Q := dE_do (F.d (Nat.le_refl _)) hr hgd h hg hdb he hpl
theorem dE_go0 {x : Str} {p : Pos} {Q : Dt → Mu → Prop} (F : DefP X.prog X.w X.K X.mg X.base k x ps R) (hr : Room k X.A) (hgd : X.A.guards = some []) (h : CallsD R J [] μ Q)
    (hg : Gl X x := by rfl) (hdb : (x == ("__debug__" : Str)) = false := by decide) : dE X J (.Call (.Name x p) [] [] pos) ρ μ Q := dE_do0 (F.d (Nat.le_refl _)) hr hgd h hg hdb
theorem dE_goN {x : Str} {p : Pos} {Q : Dt → Mu → Prop} (F : DefP X.prog X.w X.K X.mg X.base k x ps R) (hr : Room k X.A) (hgd : X.A.guards = some []) (h : dA X J (e :: es) ρ μ fun ds μ1 => CallsN R J ds μ1 Q)
    (hg : Gl X x := by rfl) (hdb : (x == ("__debug__" : Str)) = false := by decide) (he : starEach (e :: es) X.env = (false, eval e X.env) :: starEach es X.env := by rfl) (hpl : (backTo pos (starEach es X.env)).any (·.1) = false := by rfl) :
    dE X J (.Call (.Name x p) (e :: es) [] pos) ρ μ Q := dE_doN (F.d (Nat.le_refl _)) hr hgd h hg hdb he hpl
theorem mk_I0 {g : Int → Int → Dt} {x y : Int} {Q : Dt → Mu → Prop} (q : Q (g x y) μ) : rdI0 g (.int x) (.int y) μ Q := ⟨x, y, rfl, rfl, q⟩
theorem mk_I {C : Int → Int → Prop} {g : Int → Int → Dt} {x y : Int} {Q : Dt → Mu → Prop} (c : C x y) (q : Q (g x y) μ) : rdI C g (.int x) (.int y) μ Q := ⟨x, y, rfl, rfl, c, q⟩
theorem mk_mod {g : Int → Int → Dt} {x y : Int} {Q : Dt → Mu → Prop} (c : 0 < y) (q : Q (g x y) μ) : rdI (fun _ j => 0 < j) g (.int x) (.int y) μ Q := ⟨x, y, rfl, rfl, c, q⟩
theorem mk_B {k : Bool} {Q : Bool → Mu → Prop} (q : Q k μ) : QB Q (.bl k) μ := ⟨k, rfl, q⟩
theorem mk_eqI {x y : Int} {Q : Dt → Mu → Prop} (q : Q (.bl (x == y)) μ) : ∃ b, flatEq (.int x) (.int y) = some b ∧ Q (.bl b) μ := ⟨_, rfl, q⟩
theorem mk_int {i : Int} {Q : Dt → Mu → Prop} (q : Q (.int i) μ) : (∃ j, [Dt.int i] = [.int j] ∧ Q (.int j) μ) ∨ ∃ k, [Dt.int i] = [.bl k] ∧ Q (.int (if k then 1 else 0)) μ := .inl ⟨i, rfl, q⟩
theorem mk_len {d : Dt} {n : Nat} {Q : Dt → Mu → Prop} (h : lenM μ d = some n) (q : Q (.int n) μ) : ∃ d' n, [d] = [d'] ∧ lenM μ d' = some n ∧ Q (.int n) μ := ⟨d, n, rfl, h, q⟩
theorem mk_call0 {J : JX} {ds : List Dt} {Q : Dt → Mu → Prop} (mf : mfs ds = true) (h : R ds [] (fun d _ => d.mf = true ∧ Q d μ) (fun C fs _ => mff fs = true ∧ J C fs μ)) : CallsD R J ds μ Q := .inl ⟨mf, h⟩
theorem mk_call1 {J : JX} {j : Nat} {m0 : Mo} {r : List Dt} {Q : Dt → Mu → Prop} (h0 : μ[j]? = some m0) (ng : m0 ≠ .gone) (f : m0.mf = true) (mf : mfs r = true)
    (h : R (.mut 0 :: r) [m0] (fun d μ' => d.mf = true ∧ ∃ m1, μ'[0]? = some m1 ∧ m1 ≠ .gone ∧ m1.mf = true ∧ Q d (μ.set j m1)) (fun C fs μ' => mff fs = true ∧ ∃ m1, μ'[0]? = some m1 ∧ m1 ≠ .gone ∧ m1.mf = true ∧ J C fs (μ.set j m1))) : CallsD R J (.mut j :: r) μ Q := .inr ⟨j, m0, r, rfl, h0, ng, f, mf, h⟩
theorem mk_dget {d : Dt} {x : Str} {y : Dt} {es : List (Key × Dt)} {Q : Dt → Mu → Prop} (h1 : dicM μ d = some es) (h2 : valD es (.inr x) = some y) (q : Q y μ) : ∃ es k x', dicM μ d = some es ∧ (Dt.str x) = keyD k ∧ valD es k = some x' ∧ Q x' μ := ⟨es, .inr x, y, h1, rfl, h2, q⟩
theorem mk_dput {D : DEnds} {j : Nat} {x : Str} {v : Dt} {es : List (Key × Dt)} (h1 : μ[j]? = some (.dic es)) (h2 : es.length < sizeLine) (q : D.nx ρ (μ.set j (.dic (putD es (.inr x) v)))) :
    ∃ k es key, (Dt.mut j) = .mut k ∧ (Dt.str x) = keyD key ∧ μ[k]? = some (.dic es) ∧ es.length < sizeLine ∧ D.nx ρ (μ.set k (.dic (putD es key v))) := ⟨j, es, .inr x, rfl, rfl, h1, h2, q⟩
theorem atI_get {α : Type} {xs : List α} {i : Int} (h0 : 0 ≤ i) (h : i.toNat < xs.length) : atI xs i = some xs[i.toNat] := by
  have h1 : i < xs.length := by omega
  unfold atI ixN
  rw [if_pos h0]
  first
    | (rw [if_pos h1]; show xs[i.toNat]? = _; simp [h])
    | simp [h, h1]
/-- a test whose answer is a decided one -/
theorem iteD {c A B : Prop} [Decidable c] (h1 : c → A) (h2 : ¬ c → B) : if decide c = true then A else B := by
  by_cases h : c
  · rw [decide_eq_true h, if_pos rfl]; exact h1 h
  · rw [decide_eq_false h, if_neg Bool.false_ne_true]; exact h2 h
theorem iteB {k : Bool} {A B : Prop} (h1 : k = true → A) (h2 : k = false → B) : if k = true then A else B := by
  cases k with
  | true => rw [if_pos rfl]; exact h1 rfl
  | false => rw [if_neg Bool.false_ne_true]; exact h2 rfl
end
end DL

/-! D15: deep equality, all, any. -/
namespace DL
open PySem PySem.Spec PyProof.Rows L2
mutual
theorem At.dp {K : PySem.W.Frag} {as : List Addr} {G H : Hp} (g : Same G H) : ∀ {v : V} {d : Dt} {p : PyData}, At K as G v d → toPy d = some p → p.canLay0 = true → Dp K H v p
  | _, _, _, .non, e, _ => by simp [toPy] at e; subst e; exact .non
  | _, _, _, .bl b, e, _ => by simp [toPy] at e; subst e; exact .bl b
  | _, _, _, .int b, e, _ => by simp [toPy] at e; subst e; exact .int b
  | _, _, _, .str b, e, _ => by simp [toPy] at e; subst e; exact .str b
  | _, _, p, .lst (ds := ds) h t, e, c => by
    simp only [toPy, Option.map_eq_some_iff] at e
    obtain ⟨ps, e1, e2⟩ := e
    subst e2
    exact .lst (g.seq h) (Ats.dp g t e1 (by simpa only [PyData.canLay0] using c))
  | _, _, p, .tup (ds := ds) h t, e, c => by
    simp only [toPy, Option.map_eq_some_iff] at e
    obtain ⟨ps, e1, e2⟩ := e
    subst e2
    exact .tup (Same.tup g h) (Ats.dp g t e1 (by simpa only [PyData.canLay0] using c))
  | _, _, p, .dic h t, e, c => by
    simp only [toPy, Option.map_eq_some_iff] at e
    obtain ⟨ps, e1, e2⟩ := e
    subst e2
    simp [PyData.canLay0] at c
  | _, _, _, .obj _ _, e, _ => by simp [toPy] at e
  | _, _, _, .exc _ _ _, e, _ => by simp [toPy] at e
  | _, _, _, .exc0 _, e, _ => by simp [toPy] at e
  | _, _, _, .val _, e, _ => by simp [toPy] at e
  | _, _, _, .mut _, e, _ => by simp [toPy] at e
  | _, _, _, .cau _ _, e, _ => by simp [toPy] at e
  | _, _, _, .clo _ _, e, _ => by simp [toPy] at e
theorem Ats.dp {K : PySem.W.Frag} {as : List Addr} {G H : Hp} (g : Same G H) : ∀ {v : List V} {d : List Dt} {p : List PyData}, Ats K as G v d → toPys d = some p → PyData.canLayAll0 p = true → DpAll K H v p
  | _, _, _, .nil, e, _ => by simp [toPys] at e; subst e; exact .nil
  | _, _, p, .cons h t, e, c => by
    obtain ⟨x, xs, e1, e2, e3⟩ := toPys_cons e
    subst e3
    have c' : x.canLay0 = true ∧ PyData.canLayAll0 xs = true := by simpa [PyData.canLayAll0] using c
    exact .cons (At.dp g h e1 c'.1) (Ats.dp g t e2 c'.2)
end
section
variable {X : Cx} {J : JX}
def rdEq (b : Bool) : Dt → Dt → Mu → (Dt → Mu → Prop) → Prop := fun d e μ Q => ∃ p q, toPy d = some p ∧ toPy e = some q ∧ SeqAt.shaped p = true ∧ SeqAt.shaped q = true ∧ Q (.bl (xor b (PyData.eqv p q))) μ
theorem od_eqD (hu : X.A.units + 64 < cLine) : OpD X (compareOp .Eq) (rdEq false) := by
  refine ⟨_, op_eqD hu, ?_⟩
  intro as G H μ x y d e Q Q' m a1 a2 ⟨p, q, e1, e2, s1, s2, k⟩ f
  refine ⟨p, q, a1.dp m.same e1 (SeqAt.canLay_of_shaped s1), a2.dp m.same e2 (SeqAt.canLay_of_shaped s2), s1, s2, f _ _ (.now m (.bl _) ?_)⟩
  simpa using k
theorem od_neD (hu : X.A.units + 64 < cLine) : OpD X (compareOp .NotEq) (rdEq true) := by
  refine ⟨_, op_neD hu, ?_⟩
  intro as G H μ x y d e Q Q' m a1 a2 ⟨p, q, e1, e2, s1, s2, k⟩ f
  refine ⟨p, q, a1.dp m.same e1 (SeqAt.canLay_of_shaped s1), a2.dp m.same e2 (SeqAt.canLay_of_shaped s2), s1, s2, f _ _ (.now m (.bl _) ?_)⟩
  simpa using k
theorem ats_bools {K : PySem.W.Frag} {as : List Addr} {G : Hp} : ∀ {bs : List Bool} {vs : List V}, Ats K as G vs (bs.map Dt.bl) → vs = bs.map V.bl
  | [], _, h => by cases h; rfl
  | b :: r, _, h => by
    cases h with
    | cons a t =>
      cases a
      rw [ats_bools t]
      rfl
theorem cd_all (hc : X.calm = true) : CallD X (.builtin "all") (fun ds μ Q => ∃ bs : List Bool, ds = [.lst (bs.map .bl)] ∧ Q (.bl (bs.all id)) μ) := by
  refine ⟨_, cr_all hc, ?_⟩
  intro as G H μ xs ds Q Q' m a ⟨bs, e, q⟩ f
  subst e
  obtain ⟨x, rfl, a2⟩ := a.one
  cases a2 with
  | lst h t =>
    rw [ats_bools t] at h
    exact ⟨_, bs, rfl, m.same.seq h, f _ _ (.now m (.bl _) q)⟩
theorem cd_any (hc : X.calm = true) : CallD X (.builtin "any") (fun ds μ Q => ∃ bs : List Bool, ds = [.lst (bs.map .bl)] ∧ Q (.bl (bs.any id)) μ) := by
  refine ⟨_, cr_any hc, ?_⟩
  intro as G H μ xs ds Q Q' m a ⟨bs, e, q⟩ f
  subst e
  obtain ⟨x, rfl, a2⟩ := a.one
  cases a2 with
  | lst h t =>
    rw [ats_bools t] at h
    exact ⟨_, bs, rfl, m.same.seq h, f _ _ (.now m (.bl _) q)⟩
end
end DL

/-! D16: what the text says of the errors' classes. -/
namespace DL
open PySem PySem.Spec PyProof.Rows L2
/-- an own class under ValueError; bs: its chain behind itself -/
def Xl (K : PySem.W.Frag) (C : Addr) (bm : List Value) : Prop := ∃ nm q N bs sn sub ab col dd k0 k1 k2 k3 k5, K.lookup C = some (excClassObj nm q C N bs bm true sn sub ab col dd k0 k1 k2 k3 k5 "ValueError.__new__")
abbrev veL : List Value := [.type "ValueError", .type "Exception", .type "BaseException", .type "object"]
section
variable {K : PySem.W.Frag} {C D CW : Addr} {bm : List Value}
theorem Xl.cls (x : Xl K C bm) : ∃ cd, PySem.W.clsIn K C = some cd ∧ cd.mro = .ref C :: bm ∧ cd.hasDict = true := by
  obtain ⟨nm, q, N, bs, sn, sub, ab, col, dd, k0, k1, k2, k3, k5, h⟩ := x
  refine ⟨{ name := nm, bases := bs, mro := .ref C :: bm, ns := N, qualname := q, hasDict := true, slotNames := sn, subclasses := sub, abstract := ab, collection := col, hasDel := false }, ?_, rfl, rfl⟩
  unfold PySem.W.clsIn
  rw [h]
theorem Xl.ty (x : Xl K C bm) : PySem.W.typeIn K (.ref C) = some (.type "type") := by
  obtain ⟨nm, q, N, bs, sn, sub, ab, col, dd, k0, k1, k2, k3, k5, h⟩ := x
  show (K.lookup C).map (·.cls) = _
  rw [h]
  rfl
theorem Xl.mro (x : Xl K C bm) (b : Value) : PySem.W.mroIn K C b = some ((Value.ref C :: bm).contains b) := by
  obtain ⟨cd, h1, h2, _⟩ := x.cls
  unfold PySem.W.mroIn
  rw [h1, Option.bind_some, h2]
  rfl
theorem Xl.dict (x : Xl K C bm) : PySem.W.hasDictIn K C = true := by
  obtain ⟨cd, h1, _, h3⟩ := x.cls
  unfold PySem.W.hasDictIn
  rw [h1]
  exact h3
theorem Xl.sub (x : Xl K C bm) (b : Value) : PySem.W.subIn K (.ref C) b = some ((Value.ref C :: bm).contains b) := x.mro b
theorem Xl.kit {bm' : List Value} (x : Xl K C (.ref CW :: veL)) (y : Xl K D bm') (n : CW ≠ D) : PySem.W.kitOne K (.ref C) (.ref D) = some (decide (C = D)) := by
  unfold PySem.W.kitOne
  by_cases h : C = D
  · subst h
    rw [if_pos (by simp), decide_eq_true rfl]
  · rw [if_neg (by simpa using h), decide_eq_false h]
    obtain ⟨cd, h1, _⟩ := y.cls
    show (if ((PySem.W.clsIn K D).isSome && PySem.W.typeIn K (.ref D) == some (.type "type")) = true then PySem.W.subIn K (.ref C) (.ref D) else none) = some false
    rw [h1, y.ty]
    rw [if_pos (by rfl), x.sub]
    have h' : (Value.ref D == Value.ref C) = false := by simpa using fun z : D = C => h z.symm
    have n' : (Value.ref D == Value.ref CW) = false := by simpa using fun z : D = CW => n z.symm
    simp only [List.contains_cons, List.contains_nil, h', n']
    rfl
theorem Xl.kitW (x : Xl K C (.ref CW :: veL)) (y : Xl K CW veL) : PySem.W.kitOne K (.ref C) (.ref CW) = some true := by
  unfold PySem.W.kitOne
  by_cases h : C = CW
  · subst h
    rw [if_pos (by simp)]
  · rw [if_neg (by simpa using h)]
    obtain ⟨cd, h1, _⟩ := y.cls
    show (if ((PySem.W.clsIn K CW).isSome && PySem.W.typeIn K (.ref CW) == some (.type "type")) = true then PySem.W.subIn K (.ref C) (.ref CW) else none) = some true
    rw [h1, y.ty]
    rw [if_pos (by rfl), x.sub]
    simp [List.contains_cons]
theorem Xl.exm {bm' : List Value} {b : Bool} (x : Xl K C bm) (y : Xl K D bm') (hb : bm'.contains (.type "BaseException") = true) (h : (Value.ref C :: bm).contains (.ref D) = b) : PySem.W.exmOne K (.ref C) (.ref D) = some b :=
  PySem.W.exm_ref (by rw [y.sub, List.contains_cons, hb, Bool.or_true]) y.dict y.ty (by rw [x.sub, h])
end
section
variable {P : Program} {w : World} {K : PySem.W.Frag} {mg : Str → Option Value} {base : Heap}
theorem erk_of {qual : Str} {st : Stmt} {f C CW : Addr} {fd : FuncData} {names : List Str} {p1 p2 p3 p4 p5 p6 : Pos} {tx : Str} {kk : Nat} {sts : List Stmt} (xW : Xl K CW veL) (hm : mg "WebError" = some (.ref CW)) (rd : PySem.W.readsIn K CW (.type "type") = true)
    (gaW : PySem.W.specialIn K (.ref CW) "__getattribute__" = some (some (.builtin "type.__getattribute__"))) (vV : PySem.W.findCls K (.ref CW) (.type "type") "__init__" = some (.val (.builtin "ValueError.__init__")))
    (hn : PySem.W.specialIn K (.builtin "object.__class__") "__get__" = some (some (.builtin "getset_descriptor.__get__"))) (ht : PySem.W.takesIn K (.builtin "object.__class__") = some true)
    (x : Xl K C (.ref CW :: veL)) (sa : PySem.W.findIn K (.ref C) "__setattr__" = some (some (.builtin "object.__setattr__"))) (ga : PySem.W.findIn K (.ref C) "__getattribute__" = some (some (.builtin "BaseException.__getattribute__")))
    (gg : PySem.W.findIn K (.ref C) "__getattr__" = some none) (ha : PySem.W.findIn K (.ref C) "__class__" = some (some (.builtin "object.__class__"))) (kC : PySem.W.keepIn K (.ref C) = true)
    (iC : PySem.W.findIn K (.ref C) "__init__" = some (some (.ref f))) (tI : PySem.W.typeIn K (.ref f) = some (.type "function")) (no : ∀ y ∈ names, PySem.W.findIn K (.ref C) y = some none)
    (F : Fun K "__init__" qual st f fd) (S : FnScope ("self" :: names) ("self" :: names) (defScope st))
    (hb : defBody st = .Expr (.Call (.Attribute (.Name "WebError" p1) "__init__" p2) [.Name "self" p3, .Constant (.str tx) kk p4] [] p5) p6 :: sts) (St : Stores sts names) (hg : (defScope st).names.lookup ("WebError" : Str) = some .globalImplicit)
    (vis : ∀ y : Str, y ∈ (("self" : Str) :: names) → (defScope st).names.lookup y = some .local) (db : ∀ y ∈ names, (y == ("__debug__" : Str)) = false ∧ (y == ("__classdict__" : Str)) = false) (few : names.length ≤ 900)
    (hc : ∀ env : Env, ∃ pl : Sem Bool, eval (.Call (.Attribute (.Name "WebError" p1) "__init__" p2) [.Name "self" p3, .Constant (.str tx) kk p4] [] p5) env = (do
      let ov ← eval (.Name "WebError" p1) env
      standAt p2.atName
      let (f, first) ← holding [ov] (getMethod ov "__init__" pl)
      callWith p5 f first (backTo p5 (starEach [.Name "self" p3, .Constant (.str tx) kk p4] env)) (backToKw p5 (keywordEach [] env))))
    (b : Binds K fd ("self" :: names) []) (kw : ∀ (s : Shared) (self : Value) (ws : List Value), ws.length = names.length → BindsTo s fd ⟨[self], names.reverse.zip ws⟩ ((("self" : Str) :: names).zip (self :: ws.reverse))) :
    ErK P w K mg base C names ∧ ExcC K C := by
  have ex : PySem.W.subIn K (.ref C) (.type "BaseException") = some true := by rw [x.sub]; simp [List.contains_cons]
  have T : OexC K C := by
    obtain ⟨nm, q, N, bs, sn, sub, ab, col, dd, k0, k1, k2, k3, k5, h⟩ := id x
    exact ⟨⟨nm, q, N, bs, _, sn, sub, ab, col, dd, k0, k1, k2, k3, k5, h, by rfl⟩, sa, ex, x.ty, kC⟩
  refine ⟨⟨T, ⟨ga, gg, ex, x.dict⟩, no, few, f, fd, iC, tI, init_ok F S T hm rd gaW vV hb St hg vis db no few hc, b, kw⟩, ⟨ga, gg, ex, x.dict, ha, hn, ht, ?_⟩⟩
  rw [x.mro]
  simp [List.contains_cons]
end
end DL

/-! D17: bit_length, is of bools, isinstance with a tuple of classes. -/
namespace DL
open PySem PySem.Spec PyProof.Rows L2
section
variable {X : Cx} {J : JX} {e a b c o : Expr} {es : List Expr} {ρ : Env'} {μ : Mu} {σ : L2.St} {H : Hp} {pos apos : Pos}
/-- x.bit_length() -/
theorem dE_bits {Q : Dt → Mu → Prop} (h : dE X J o ρ μ fun d μ1 => ∃ i, d = .int i ∧ Q (.int (Builtin.Int.intBits i : Nat)) μ1) (hbase : attributeBase o "bit_length" X.env (eval o X.env) = eval o X.env := by rfl) (hline : (apos.endLine == pos.line) = true := by rfl) :
    dE X J (.Call (.Attribute o "bit_length" apos) [] [] pos) ρ μ Q := .mk fun as G H σ S => by
  refine (pe_bits peW hbase hline).w ?_
  refine wE_mono (h as G H σ S) fun x H1 ⟨d, μ1, as1, G1, t1, m1, a1, i, e1, q⟩ => ?_
  subst e1
  cases a1
  exact ⟨i, rfl, _, μ1, as1, G1, t1, m1, .int _, q⟩
theorem od_isB : OpD X (compareOp .Is) (fun d e μ Q => ∃ x y : Bool, d = .bl x ∧ e = .bl y ∧ Q (.bl (decide (x = y))) μ) := by
  refine ⟨_, op_isBl, ?_⟩
  intro as G H μ x y d e Q Q' m a1 a2 ⟨i, j, e1, e2, q⟩ f
  subst e1 e2
  cases a1
  cases a2
  exact ⟨i, j, rfl, rfl, f _ _ (.now m (.bl _) q)⟩
theorem od_notB : OpD X (compareOp .IsNot) (fun d e μ Q => ∃ x y : Bool, d = .bl x ∧ e = .bl y ∧ Q (.bl (!decide (x = y))) μ) := by
  refine ⟨_, op_notBl, ?_⟩
  intro as G H μ x y d e Q Q' m a1 a2 ⟨i, j, e1, e2, q⟩ f
  subst e1 e2
  cases a1
  cases a2
  exact ⟨i, j, rfl, rfl, f _ _ (.now m (.bl _) q)⟩
/-- isinstance(x, (c1, c2, ..)) -/
def rIsS (K : PySem.W.Frag) : List V → Hp → VK → Prop := fun xs H Q => ∃ (x : V) (tp : Addr) (cs : List V) (t : Value) (us : List Value) (r : Bool), xs = [x, .ref tp] ∧ SqT K H tp cs ∧ Paired ClsV cs us ∧ TyX K H x t ∧ PySem.W.kitAny K t us = some r ∧ Q (.bl r) H
theorem call_isS : CallR X (.builtin "isinstance") (rIsS X.K) := by
  intro pins s σ H xs us Q I r h
  obtain ⟨x, tp, cs, t, ws, k, rfl, hT, kc, ty, e, q⟩ := h
  obtain ⟨u1, u2, rfl, r1, r2⟩ := vals2 r
  cases (show u2 = Value.ref tp from r2)
  obtain ⟨P, Z, p, hx⟩ := kit_of I r1 ty
  obtain ⟨its, rv, ⟨⟨oc, od, dt, sl⟩, h1, h2, n, h3⟩, _⟩ := I.tuple hT
  have e3 := ClsV.all kc rv
  subst e3
  simp only at h2 h3
  subst h2 h3
  exact PySem.W.kia_tup Z I.kIn p h1 e hx fun tk => ⟨.bl k, H, I.tok tk, rfl, q⟩
/-- classes as data -/
theorem ats_cls {K : PySem.W.Frag} {as : List Addr} {G : Hp} : ∀ {cs : List V} {vs : List V}, Ats K as G vs (cs.map Dt.val) → vs = cs
  | [], _, h => by cases h; rfl
  | c :: r, _, h => by
    cases h with
    | cons a t =>
      cases a
      rw [ats_cls t]
theorem cd_isT : CallD X (.builtin "isinstance") (fun ds μ Q => ∃ d cs t us r, ds = [d, .tup (cs.map .val)] ∧ Paired ClsV cs us ∧ TyM X.K μ d t ∧ (∀ C gs, d ≠ .exc C gs) ∧ PySem.W.kitAny X.K t us = some r ∧ Q (.bl r) μ) := by
  refine ⟨⟨_, call_isS, fun as G H μ xs ds Q Q' m a ⟨d, cs, t, us, r, e, k, ty, ne, ki, q⟩ f => ?_⟩⟩
  subst e
  obtain ⟨x, y, rfl, a1, a2⟩ := a.two
  cases a2 with
  | tup h1 h2 =>
    have e1 := ats_cls h2
    subst e1
    rcases tyX_of m a1 ty with z | ⟨p, C, dx, rfl, rfl, xc, hp, hd⟩
    · exact ⟨x, _, _, t, us, r, rfl, Same.tup m.same h1, k, z, ki, f _ _ (.now m (.bl _) q)⟩
    · cases ty with
      | exc _ => exact absurd rfl (ne _ _)
      | mins h cl ha hn htk hm =>
        cases a1 with
        | «mut» hk =>
          obtain ⟨p2, o, e1, e2, ⟨dx2, vs2, e3, _⟩, _⟩ := m.cell _ _ h (fun z => by cases z)
          rw [hk] at e1
          cases e1
          rw [e3, hp] at e2
          have z' : HO.ext _ = HO.ins _ _ _ := Option.some.inj e2
          cases z'
      | obj cl ha hn htk hm =>
        cases a1 with
        | obj g1 g2 =>
          have z := m.same _ _ g1
          rw [hp] at z
          have z' : HO.ext _ = HO.ins _ _ _ := Option.some.inj z
          cases z'
end
end DL

/-! D18: lambdas: what is tracked, taken out and put back; the body's context. -/
namespace DL
open PySem PySem.Spec PyProof.Rows L2

/-! ### tracked objects taken out, put back -/
def cut (H : Hp) (xs : List Addr) : Hp := fun b => if b ∈ xs then none else H b
def glue (H : Hp) (xs : List Addr) (H' : Hp) : Hp := fun b => if b ∈ xs then H b else H' b
section
variable {P : Program} {w : World} {H H' : Hp} {h h' B : Heap} {xs fs : List Addr} {b : Addr}
theorem cut_in (m : b ∈ xs) : cut H xs b = none := if_pos m
theorem cut_out (m : b ∉ xs) : cut H xs b = H b := if_neg m
theorem glue_in (m : b ∈ xs) : glue H xs H' b = H b := if_pos m
theorem glue_out (m : b ∉ xs) : glue H xs H' b = H' b := if_neg m
/-- each at xs is tracked as just one object -/
def Xos (H : Hp) (xs : List Addr) : Prop := ∀ c ∈ xs, ∃ oc, H c = some (xo c oc)
theorem Xos.ne (x : Xos H xs) {u : HO} (q : H b = some u) (nx : ∀ φ, u ≠ .ext φ) : b ∉ xs := fun m => by
  obtain ⟨oc, e⟩ := x b m
  rw [q] at e
  exact nx _ (Option.some.inj e)
theorem Xos.none (x : Xos H xs) (q : H b = none) : b ∉ xs := fun m => by
  obtain ⟨oc, e⟩ := x b m
  rw [q] at e
  cases e
theorem xo_ok {c : Addr} {oc : Obj} (ok : HOk P w H h) (e : H c = some (xo c oc)) : h.get? c = some oc := (ok c _ e).1
theorem hok_cut (ok : HOk P w H h) (x : Xos H xs) : HOk P w (cut H xs) h := fun a o e => by
  by_cases m : a ∈ xs
  · rw [cut_in m] at e
    cases e
  · rw [cut_out m] at e
    exact (ok a o e).stay (fun _ _ _ q => q) (fun b q => by rw [cut_out (x.ne q (fun _ z => by cases z))]; exact q) (fun b ys q => by rw [cut_out (x.ne q fun _ z => by cases z)]; exact q)
theorem hok_glue (ok : HOk P w H' h') (x : ∀ c ∈ xs, ∃ oc, H c = some (xo c oc) ∧ h'.get? c = some oc) (n : ∀ c ∈ xs, H' c = none) : HOk P w (glue H xs H') h' := fun a o e => by
  by_cases m : a ∈ xs
  · rw [glue_in m] at e
    obtain ⟨oc, e1, e2⟩ := x a m
    rw [e] at e1
    cases e1
    exact ⟨e2, ⟨_, e2⟩, fun h1 h2 p st => st _ p⟩
  · rw [glue_out m] at e
    have no : ∀ b u, H' b = some u → b ∉ xs := fun b u q z => by
      rw [n b z] at q
      cases q
    exact (ok a o e).stay (fun _ _ _ q => q) (fun b q => by rw [glue_out (no _ _ q)]; exact q) (fun b ys q => by rw [glue_out (no _ _ q)]; exact q)
theorem un_glue (u : Un fs [] (cut H xs) H' h h') (x : Xos H xs) : Un fs [] H (glue H xs H') h h' where
  keep := fun b o e n hb hx => u.keep b o e (by rw [cut_out (x.none n)]; exact n) hb hx
  slot := fun b o e n hb hx => u.slot b o e (by rw [cut_out (x.none n)]; exact n) hb hx
  free := fun b o e n hx => by rw [glue_out (x.none n)]; exact u.free b o e (by rw [cut_out (x.none n)]; exact n) hx
  there := u.there
  tups := fun b ys q => by
    have m := x.ne q fun _ z => by cases z
    rw [glue_out m]
    exact u.tups b ys (by rw [cut_out m]; exact q)
  frzs := fun b o v q => by
    have m := x.ne q fun _ z => by cases z
    rw [glue_out m]
    exact u.frzs b o v (by rw [cut_out m]; exact q)
  tbls := fun b ps q => by
    have m := x.ne q fun _ z => by cases z
    rw [glue_out m]
    exact u.tbls b ps (by rw [cut_out m]; exact q)
theorem ub_glue (u : UB fs (cut H xs) H' h B h') (x : Xos H xs) : UB fs H (glue H xs H') h B h' where
  keep := fun b o e n hb => u.keep b o e (by rw [cut_out (x.none n)]; exact n) hb
  slot := u.slot
  free := fun b o e n => by rw [glue_out (x.none n)]; exact u.free b o e (by rw [cut_out (x.none n)]; exact n)
  there := u.there
  tups := fun b ys q => by
    have m := x.ne q fun _ z => by cases z
    rw [glue_out m]
    exact u.tups b ys (by rw [cut_out m]; exact q)
  frzs := fun b o v q => by
    have m := x.ne q fun _ z => by cases z
    rw [glue_out m]
    exact u.frzs b o v (by rw [cut_out m]; exact q)
  tbls := fun b ps q => by
    have m := x.ne q fun _ z => by cases z
    rw [glue_out m]
    exact u.tbls b ps (by rw [cut_out m]; exact q)
/-- what a wish becomes -/
def glK (H : Hp) (xs : List Addr) (Q : VK) : VK := fun v H'' => ∃ H', H'' = glue H xs H' ∧ (∀ c ∈ xs, H' c = none) ∧ Q v H'
def glE (H : Hp) (xs : List Addr) (E : XK) : XK := fun cls d H'' => ∃ H', H'' = glue H xs H' ∧ (∀ c ∈ xs, H' c = none) ∧ E cls d H'
theorem ce_glue {outer : List Env} {s s' : Shared} {Q : VK} {u : Value} (c : CE outer P w (cut H xs) s Q u s') (x : Xos H xs) (ok : HOk P w H s.heap) (nf : ∀ c ∈ xs, c ∉ frs outer) : CE outer P w H s (glK H xs Q) u s' := by
  obtain ⟨v, H', os, bare, un, hok, r, q⟩ := c
  have n : ∀ c ∈ xs, H' c = none := fun c m => by
    obtain ⟨oc, e⟩ := x c m
    exact un.free c oc (xo_ok ok e) (cut_in m) (by simp)
  refine ⟨v, DL.glue H xs H', os, bare, un_glue un x, hok_glue hok (fun c m => ?_) n, r, H', rfl, n, q⟩
  obtain ⟨oc, e⟩ := x c m
  exact ⟨oc, e, un.keep c oc (xo_ok ok e) (cut_in m) (nf c m) (by simp)⟩
theorem cx_glue {outer : List Env} {s s' : Shared} {E : XK} {e : Value} (c : L2.CX P w outer (cut H xs) s E e s') (x : Xos H xs) (ok : HOk P w H s.heap) (nf : ∀ c ∈ xs, c ∉ frs outer) : L2.CX P w outer H s (glE H xs E) e s' := by
  obtain ⟨a, B, H', cls, d, rfl, fl, hok, ub, na, os, ag, hE⟩ := c
  have n : ∀ c ∈ xs, H' c = none := fun c m => by
    obtain ⟨oc, e⟩ := x c m
    exact ub.free c oc (xo_ok ok e) (cut_in m)
  have kB : ∀ c ∈ xs, ∃ oc, H c = some (xo c oc) ∧ B.get? c = some oc := fun c m => by
    obtain ⟨oc, e⟩ := x c m
    exact ⟨oc, e, ub.keep c oc (xo_ok ok e) (cut_in m) (nf c m)⟩
  refine ⟨a, B, DL.glue H xs H', cls, d, rfl, fl, hok_glue hok kB n, ub_glue ub x, ?_, os, ag, H', rfl, n, hE⟩
  have ma : a ∉ xs := fun m => by
    obtain ⟨oc, _, e⟩ := kB a m
    rw [fl.2.1] at e
    cases e
  rw [glue_out ma]
  exact na
/-- the data's side of it -/
theorem lift_cut {K : PySem.W.Frag} {as as' : List Addr} {G G' : Hp} {μ : Mu} (m : Mem K as G H μ) (sub : ∀ c ∈ xs, c ∈ as) (gn : ∀ c ∈ xs, G c = none) (t : Step [] G (cut H xs) as' G' H') (g : Same G' H') (n : ∀ c ∈ xs, H' c = none) :
    Step as G H as G' (glue H xs H') ∧ Mem K as G' (glue H xs H') μ := by
  have gx : ∀ b o, G' b = some o → b ∉ xs := fun b o e z => by
    have := g b o e
    rw [n b z] at this
    cases this
  have hh : ∀ b o, H b = some o → b ∉ xs → glue H xs H' b = some o := fun b o e z => by
    rw [glue_out z]
    exact t.hh b o (by rw [cut_out z]; exact e) (by simp)
  have ho : ∀ b, H b ≠ none → glue H xs H' b ≠ none := fun b e => by
    by_cases z : b ∈ xs
    · rw [glue_in z]; exact e
    · rw [glue_out z]; exact t.ho b (by rw [cut_out z]; exact e)
  have fr : ∀ b o, G' b = some o → G b = some o ∨ H b = none := fun b o e => by
    rcases t.fr b o e with z | z | z
    · exact .inl z
    · rw [cut_out (gx b o e)] at z
      exact .inr z
    · simp at z
  refine ⟨⟨⟨[], by simp⟩, t.gg, fun b o e z => hh b o e fun zz => z (sub b zz), ho, fun b o e => (fr b o e).elim .inl fun z => .inr (.inl z), fun a h => .inl h⟩,
    ⟨fun b o e => by rw [glue_out (gx b o e)]; exact g b o e, m.len, fun k mo hk hg => ?_, m.nd, fun a h => ho a (m.ne a h)⟩⟩
  obtain ⟨a, o, h1, h2, h3, h4⟩ := m.cell k mo hk hg
  refine ⟨a, o, h1, ?_, h3.mono t.gg (fun _ _ h => h), ?_⟩
  · by_cases z : a ∈ xs
    · rw [glue_in z]; exact h2
    · exact hh a o h2 z
  · cases q : G' a with
    | none => rfl
    | some u =>
      rcases fr a u q with z | z
      · rw [h4] at z; cases z
      · rw [h2] at z; cases z
end

/-! ### the context of a lambda's body -/
structure LamN (scope : Scope) (N : List Str) : Prop where
  kind : scope.kind = .function
  co : scope.isCoroutine = false
  gen : scope.isGenerator = false
  own : ∀ y ∈ scope.names, y.2 ≠ .local ∧ y.2 ≠ .cell
  free : ∀ y ∈ scope.names, y.2 = .free → y.1 ∈ N
def lamNB (scope : Scope) (N : List Str) : Bool :=
  decide (scope.kind = .function) && !scope.isCoroutine && !scope.isGenerator && scope.names.all fun y => !decide (y.2 = .local) && !decide (y.2 = .cell) && (!decide (y.2 = .free) || decide (y.1 ∈ N))
theorem lamN_by {scope : Scope} {N : List Str} (h : lamNB scope N = true) : LamN scope N := by
  unfold lamNB at h
  simp only [Bool.and_eq_true, Bool.or_eq_true, Bool.not_eq_true', decide_eq_true_eq, decide_eq_false_iff_not, List.all_eq_true] at h
  obtain ⟨⟨⟨h1, h2⟩, h3⟩, h4⟩ := h
  exact ⟨h1, h2, h3, fun y hy => (h4 y hy).1, fun y hy e => (h4 y hy).2.elim (fun z => absurd e z) fun z => z⟩
abbrev lamV (L : LamI) (cs : List (Str × Addr)) (l f c' : Addr) : Env := PySem.W.envX L.qual L.scope l f (.ref c') cs
def lamC (P : Program) (w : World) (K : PySem.W.Frag) (mg : Str → Option Value) (base : Heap) (N : List Str) (L : LamI) (cs : List (Str × Addr)) (f c' : Addr) (A : Around) (outer : List Env) (s : Shared) (H : Hp) (E : XK) : Cx where
  prog := P
  w := w
  K := K
  mg := mg
  base := base
  A := A.deeper (lamV L cs s.heap.objs.size f c')
  N := N
  s_0 := s
  H_0 := H
  env := lamV L cs s.heap.objs.size f c'
  outer := outer
  stack := lamV L cs s.heap.objs.size f c' :: outer
  ex := []
  fn := fun _ => false
  calm := true
  pn := []
  xe := fun e s' => wpAny (model P w) (A.deeper (lamV L cs s.heap.objs.size f c')) (leaving (lamV L cs s.heap.objs.size f c') e) (fun _ s'' => L2.CX P w outer H s E e s'') (fun e' s'' => L2.CX P w outer H s E e' s'') s'
section
variable {P : Program} {w : World} {K : PySem.W.Frag} {mg : Str → Option Value} {base : Heap} {N : List Str} {L : LamI} {cs : List (Str × Addr)} {f c' : Addr} {A : Around} {outer : List Env} {s : Shared} {H : Hp} {E : XK}
theorem lamC_start {σ : L2.St} {h₁ : Heap} {tk : Nat} (e0 : Env0 P w K mg base A outer s H) (hd : A.handled = none) (ok : LamN L.scope (cs.map (·.1))) (inj : ∀ (x y : Str) (c : Addr), cs.lookup x = some c → cs.lookup y = some c → x = y)
    (hc : ∀ (x : Str) (c : Addr), cs.lookup x = some c → H c = none ∧ ∃ v, s.heap.IsCell c v) (hl : σ.length = N.length)
    (hσ : ∀ (i : Nat) (x : Str) (v : V), N[i]? = some x → σ[i]? = some (some v) → ∃ c u, cs.lookup x = some c ∧ RelV v u ∧ s.heap.IsCell c (some u))
    (hns : h₁.Ns s.heap.objs.size fun y => ([] : List (Str × Value)).reverse.lookup y) (kp : ∀ b o, s.heap.get? b = some o → h₁.get? b = some o) :
    Inv (lamC P w K mg base N L cs f c' A outer s H E) [] σ H { s with heap := h₁, toks := tk } := by
  have noA : ∀ b : Addr, b ∉ (lamC P w K mg base N L cs f c' A outer s H E).ex := fun b z => absurd (show b ∈ ([] : List Addr) from z) (by simp)
  have ck : ∀ {c : Addr} {v : Option Value}, s.heap.IsCell c v → h₁.IsCell c v := fun ⟨o, ho, hd⟩ => ⟨o, kp _ _ ho, hd⟩
  refine ⟨⟨e0.mod, ok.kind, rfl, rfl, Nat.le_refl _, inj, fun y hy => ?_, fun y c z _ => ?_, fun _ => hd, Around.frames_deeper e0.frames, .inr ⟨rfl, rfl⟩, fun b z => absurd z (noA b), e0.bs, e0.bsz, fun b _ _ => noA b,
      fun b z => absurd z (noA b), e0.funs, e0.frf⟩,
    rfl, e0.bare, Un.kept kp, ⟨_, hns, fun i y v e1 e2 e3 => ?_⟩, fun y c e => ?_, e0.hok.fresh (Nat.le_refl _), fun y c e => (hc y c e).1, fun q hq => absurd (show q ∈ ([] : List (Addr × Obj)) ++ [] from hq) (by simp), e0.hok.kept kp, hl⟩
  · have hy : L.scope.names.lookup y = some .cell ∨ L.scope.names.lookup y = some .free := hy
    rcases hy with hy | hy
    · exact absurd rfl (ok.own _ (PySem.mem_of_lookup hy)).2
    · have m := ok.free _ (PySem.mem_of_lookup hy) rfl
      obtain ⟨p, hp, rfl⟩ := List.mem_map.mp m
      exact L2.mem_lookup (l := cs) (n := p.1) (c := p.2) hp
  · have z : false = true := z
    cases z
  · have e3 : Vis L.scope y := e3
    obtain ⟨c, u, h1, h2, h3⟩ := hσ i y v e1 e2
    rcases e3 with k | k | k
    · exact absurd rfl (ok.own _ (PySem.mem_of_lookup k)).1
    · exact absurd rfl (ok.own _ (PySem.mem_of_lookup k)).2
    · exact ⟨u, h2, .inr ⟨.inr k, c, h1, ck h3⟩⟩
  · obtain ⟨_, v, z⟩ := hc y c e
    exact ⟨v, ck z⟩
theorem lookup_ix : ∀ {cs : List (Str × Addr)} {i : Nat} {x : Str} {c : Addr}, (cs.map (·.1)).Nodup → cs[i]? = some (x, c) → cs.lookup x = some c
  | [], _, _, _, _, h => by simp at h
  | (y, d) :: r, 0, x, c, _, h => by
    simp at h
    obtain ⟨rfl, rfl⟩ := h
    simp [List.lookup]
  | (y, d) :: r, i + 1, x, c, nd, h => by
    simp only [List.map_cons, List.nodup_cons] at nd
    have h' : r[i]? = some (x, c) := by simpa using h
    have ne : x ≠ y := fun z => nd.1 (by rw [← z]; exact List.mem_map.mpr ⟨(x, c), List.mem_of_getElem? h', rfl⟩)
    rw [List.lookup_cons, show (x == y) = false from by simpa using ne]
    exact lookup_ix nd.2 h'
end
end DL

/-! D19: lambdas: made; called in the def that got it. -/
namespace DL
open PySem PySem.Spec PyProof.Rows L2

theorem upd_comm {H : Hp} {a b : Addr} {o u : HO} (h : a ≠ b) : upd (upd H a o) b u = upd (upd H b u) a o := by
  funext c
  unfold upd
  by_cases h1 : c = a
  · subst h1; simp [h]
  · simp [h1]
section
variable {X : Cx} {J : JX} {e : Expr} {es : List Expr} {ρ : Env'} {μ : Mu} {pos : Pos} {k : Nat}
/-- a lambda is made: its code object is new, or in the table; its function object is new -/
theorem dE_lam {n : Nat} {c P : Addr} {params : Arguments} {body : Expr} {scope : Scope} {Q : Dt → Mu → Prop} (TB : LamX.TabB X.base X.mg c P) (hcode : X.env.code = .ref c) (hk : μ[n]? = some (.tab n P (X.env.qual ++ "<lambda>"))) (LS : LamX.LamS X.env.scope scope)
    (q : Q (.clo ⟨X.env.qual ++ "<lambda>", params, body, scope⟩ (cloFrom X.env.cells scope.names [])) μ) (hdef : defaultsOf params X.env = ([], []) := by rfl) : dE X J (.Lambda params body scope pos) ρ μ Q := .mk fun as G H σ S pins s I => by
  have hfree := LS.has I.ok
  obtain ⟨P', o, e1, hP, ⟨e2, ps, rfl, ht, ha⟩, gP⟩ := S.mem.cell n _ hk (fun z => by cases z)
  rw [e1] at e2
  cases e2
  refine PySem.W.kla_eval hdef ?_
  have bP : s.heap.BuiltinsAt X.mg P := TB.bm.keeps I.bk
  have hPs : s.heap.get? P = some { cls := .none, data := .fields ps } := I.hok P _ hP
  -- the end: the function object is laid
  have fin : ∀ (H1 : Hp) (h' : Heap) (tk : Nat) (c' : Addr) (pm ctv : Value) (G1 : Hp), Inv X pins σ H1 { s with heap := h', toks := tk } → Step as G H as G1 H1 → Mem X.K as G1 H1 μ → G1 c' = some (LamX.CodeO c' (X.env.qual ++ "<lambda>")) →
      EP X pins σ (AfE X.K as G H Q) (.ref h'.objs.size) { s with heap := h'.push (PySem.W.kla_obj "<lambda>" (X.env.qual ++ "<lambda>") params body scope (cloFrom X.env.cells scope.names []) pm c' ctv), toks := tk } := by
    intro H1 h' tk c' pm ctv G1 I1 t1 m1 hc
    have hn : H1 h'.objs.size = none := I1.hok.fresh (Nat.le_refl _)
    have ob : ObjOk X.prog X.w (upd H1 h'.objs.size (xo h'.objs.size (PySem.W.kla_obj "<lambda>" (X.env.qual ++ "<lambda>") params body scope (cloFrom X.env.cells scope.names []) pm c' ctv)))
        (h'.push (PySem.W.kla_obj "<lambda>" (X.env.qual ++ "<lambda>") params body scope (cloFrom X.env.cells scope.names []) pm c' ctv)) h'.objs.size (xo h'.objs.size (PySem.W.kla_obj "<lambda>" (X.env.qual ++ "<lambda>") params body scope (cloFrom X.env.cells scope.names []) pm c' ctv)) :=
      ⟨Heap.get?_push_size _ rfl, ⟨_, Heap.get?_push_size _ rfl⟩, fun h1 h2 p st => st _ p⟩
    have I2 := I1.laid (t' := tk) (h' := h'.push (PySem.W.kla_obj "<lambda>" (X.env.qual ++ "<lambda>") params body scope (cloFrom X.env.cells scope.names []) pm c' ctv)) (fun b u z => Heap.get?_push_of_some _ z) (Nat.le_refl _) ob
    exact ⟨.ref h'.objs.size, _, I2, rfl, _, μ, as, _, t1.trans (.lay m1 hn), m1.lay hn, .clo (L := ⟨X.env.qual ++ "<lambda>", params, body, scope⟩) (pm := pm) (ctv := ctv) (c' := c') upd_same (same_upd_none (m1.same.free hn) _ _ hc), q⟩
  cases hc : codeAmong pos ps.toList with
  | none =>
    refine PySem.W.kla_makeFunction (mg := X.mg) (c := c) (P := P) (ps := ps) (closure_ok hfree) I.ok.glob (I.mod.glob.keeps I.bk) hcode (TB.code.keeps I.bk) hPs ht hc TB.gP bP fun c' ctv h' tk hx hge hlt hrec htb => ?_
    obtain ⟨c2, oc, vs, t, e2, hoc, hd, hv⟩ := hrec
    cases e2
    have nC : H c' = none := I.hok.fresh hge
    have nPc : P ≠ c' := ne_of_none hP nC
    have I1 := LamX.inv_table (t' := tk) (more := #[rawInt pos.line, rawInt pos.col, .ref c']) (h' := h') I hP (fun b o hb e => hx b o hb e) htb hge ⟨oc, vs, t, hoc, hd, hv⟩
    rw [upd_comm nPc] at I1
    have m1 := S.mem.lay (o := LamX.CodeO c' (X.env.qual ++ "<lambda>")) nC
    have eL : (ps ++ #[rawInt pos.line, rawInt pos.col, .ref c']).toList = ps.toList ++ [rawInt pos.line, rawInt pos.col, .ref c'] := by simp
    have m2 := m1.put (mo := .tab n P (X.env.qual ++ "<lambda>")) (o := .tbl (ps ++ #[rawInt pos.line, rawInt pos.col, .ref c'])) e1 hk (fun z => by cases z) ⟨e1, _, rfl, by rw [eL]; exact PySem.TriplesOk_snoc _ _ _ _ ht, fun p' cv hcv => by
      rw [eL] at hcv
      rcases LamX.among_app _ ht hcv with z | z
      · obtain ⟨c0, z1, z2⟩ := ha p' cv z
        exact ⟨c0, z1, same_upd_none (S.mem.same.free nC) _ _ z2⟩
      · exact ⟨c', z, upd_same⟩⟩
    have eμ : μ.set n (.tab n P (X.env.qual ++ "<lambda>")) = μ := by
      apply List.ext_getElem?
      intro j
      by_cases hj : n = j
      · subst hj
        rw [List.getElem?_set_self (List.getElem?_eq_some_iff.mp hk).1, hk]
      · rw [List.getElem?_set_ne hj]
    rw [eμ] at m2
    exact fin _ h' tk c' _ ctv _ I1 ((Step.lay S.mem nC).trans (.put m1 e1)) m2 upd_same
  | some cv =>
    obtain ⟨c', e3, hco⟩ := ha pos cv hc
    subst e3
    refine PySem.W.kla_makeFunctionHit (mg := X.mg) (c := c) (P := P) (ps := ps) (closure_ok hfree) I.ok.glob (I.mod.glob.keeps I.bk) hcode (TB.code.keeps I.bk) hPs ht hc bP fun ctv h' tk hx hsz => ?_
    have I1 : Inv X pins σ H { s with heap := h', toks := tk } := I.kept fun b o e => hx b o e
    exact fin H h' tk c' _ ctv G I1 (.refl _ _ _) S.mem hco

/-- the cells at cs hold the data ds -/
def CellsD (μ : Mu) (cs : List (Str × Addr)) (ds : List Dt) : Prop := cs.length = ds.length ∧ ∀ (i : Nat) (x : Str) (c : Addr) (d : Dt), cs[i]? = some (x, c) → ds[i]? = some d → ∃ n oc, μ[n]? = some (Mo.cell n c oc d)
/-- a(): the lambda that the slot holds is run -/
theorem dE_act {L : LamI} {cs : List (Str × Addr)} {ds : List Dt} {i : Nat} {a : Str} {p1 p2 : Pos} {Q : Dt → Mu → Prop} (hN : X.N[i]? = some a) (hi : ρ[i]? = some (some (.clo L cs))) (ok : LamN L.scope (cs.map (·.1))) (nd : (cs.map (·.1)).Nodup)
    (inj : ∀ (x y : Str) (c : Addr), cs.lookup x = some c → cs.lookup y = some c → x = y) (hcd : CellsD μ cs ds) (mf : mfs ds = true)
    (hbind : ∀ (pm cv ctv : Value), bindArgs (PySem.W.kla_fn "<lambda>" L.qual L.params L.body L.scope cs pm cv ctv) ⟨[], []⟩ = pure [])
    (hr : Room (k + 1) X.A) (hg : X.A.guards = some [])
    (hbody : ∀ (f c' : Addr) (A : Around) (outer : List Env) (s : Shared) (H : Hp) (E : XK), Room k (A.deeper (lamV L cs s.heap.objs.size f c')) → A.guards = some [] →
      dE (lamC X.prog X.w X.K X.mg X.base (cs.map (·.1)) L cs f c' A outer s H E) (fun C fs _ => mff fs = true ∧ J C fs μ) L.body (ds.map some) [] fun d _ => d.mf = true ∧ Q d μ)
    (hv : Vis X.env.scope a := by first | exact Or.inl rfl | exact Or.inr (Or.inl rfl) | exact Or.inr (Or.inr rfl)) (hd : (a == ("__debug__" : Str)) = false := by decide) (hcl : (a == ("__classdict__" : Str)) = false := by decide) :
    dE X J (.Call (.Name a p1) [] [] p2) ρ μ Q := .mk fun as G H σ S pins s I => by
  obtain ⟨v0, e1, a1⟩ := S.sl.at_ i _ hi
  cases a1 with
  | clo hf hc =>
    rename_i f c' pm ctv
    refine wpAny_Call_Name_kw (thn ((pe_var (pos := p1) (i := i) hN hv hd hcl).run pins s σ H (fun v H1 => v = .ref f ∧ H1 = H) I ⟨.ref f, e1, rfl, rfl⟩) fun u s1 ⟨v, H1, I1, r1, q1⟩ => ?_)
    obtain ⟨ev, eH⟩ := q1
    subst ev
    rw [eH] at I1
    obtain rfl : u = Value.ref f := r1
    have hfH := S.mem.same _ _ hf
    have of1 := xo_ok I1.hok hfH
    refine PySem.W.callWith_F0 ⟨_, _, _, _, of1⟩ ?_
    obtain ⟨⟨oc, vs, t, hoc, hdc, hvc⟩, _, _⟩ := I1.hok c' _ (S.mem.same _ _ hc)
    have cell_ : ∀ p ∈ cs, ∃ oc v u, H p.2 = some (xo p.2 oc) ∧ oc.data = .cell (some u) ∧ RelV v u ∧ p.2 ∈ as ∧ G p.2 = none := fun p hp => by
      obtain ⟨j, hj⟩ := List.getElem?_of_mem hp
      have hlt : j < ds.length := by rw [← hcd.1]; exact (List.getElem?_eq_some_iff.mp hj).1
      obtain ⟨n, oc, hn⟩ := hcd.2 j p.1 p.2 ds[j] hj (List.getElem?_eq_getElem hlt)
      obtain ⟨a2, o2, z1, z2, ⟨z3, v, u, z4, z5, z6, z7⟩, z8⟩ := S.mem.cell n _ hn (fun z => by cases z)
      rw [z1] at z3
      cases z3
      subst z4
      exact ⟨oc, v, u, z2, z5, z6, List.mem_of_getElem? z1, z8⟩
    have xos : Xos H (cs.map (·.2)) := fun c hc => by
      obtain ⟨p, hp, rfl⟩ := List.mem_map.mp hc
      obtain ⟨oc, v, u, z, _⟩ := cell_ p hp
      exact ⟨oc, z⟩
    have sub : ∀ c ∈ cs.map (·.2), c ∈ as := fun c hc => by
      obtain ⟨p, hp, rfl⟩ := List.mem_map.mp hc
      obtain ⟨_, _, _, _, _, _, z, _⟩ := cell_ p hp
      exact z
    have gn : ∀ c ∈ cs.map (·.2), G c = none := fun c hc => by
      obtain ⟨p, hp, rfl⟩ := List.mem_map.mp hc
      obtain ⟨_, _, _, _, _, _, _, z⟩ := cell_ p hp
      exact z
    have nf : ∀ c ∈ cs.map (·.2), c ∉ frs X.stack := fun c hc hm => by
      obtain ⟨oc, z⟩ := xos c hc
      rw [I1.stkFree c hm] at z
      cases z
    -- the values of the cells
    have vals : ∃ ws : List V, ws.length = ds.length ∧ Ats X.K [] G ws ds ∧ ∀ (j : Nat) (x : Str) (c : Addr) (v : V), cs[j]? = some (x, c) → ws[j]? = some v → ∃ u oc, RelV v u ∧ H c = some (xo c oc) ∧ oc.data = .cell (some u) := by
      have go : ∀ (cs : List (Str × Addr)) (ds : List Dt), CellsD μ cs ds → mfs ds = true → ∃ ws : List V, ws.length = ds.length ∧ Ats X.K [] G ws ds ∧ ∀ (j : Nat) (x : Str) (c : Addr) (v : V), cs[j]? = some (x, c) → ws[j]? = some v → ∃ u oc, RelV v u ∧ H c = some (xo c oc) ∧ oc.data = .cell (some u) := by
        intro cs
        induction cs with
        | nil =>
          intro ds h _
          cases ds with
          | nil => exact ⟨[], rfl, .nil, fun j x c v h1 _ => by simp at h1⟩
          | cons _ _ => exact absurd h.1 (by simp)
        | cons p r ih =>
          intro ds h mf
          cases ds with
          | nil => exact absurd h.1 (by simp)
          | cons d dr =>
            simp only [mfs, Bool.and_eq_true] at mf
            obtain ⟨ws, l, a, q⟩ := ih dr ⟨by have := h.1; simpa using this, fun i x c d h1 h2 => h.2 (i + 1) x c d (by simpa using h1) (by simpa using h2)⟩ mf.2
            obtain ⟨n, oc, hn⟩ := h.2 0 p.1 p.2 d rfl rfl
            obtain ⟨a2, o2, z1, z2, ⟨z3, v, u, z4, z5, z6, z7⟩, z8⟩ := S.mem.cell n _ hn (fun z => by cases z)
            rw [z1] at z3
            cases z3
            subst z4
            refine ⟨v :: ws, by simp [l], .cons (z7.free mf.1) a, fun j x c w h1 h2 => ?_⟩
            cases j with
            | zero =>
              simp at h1 h2
              subst h1 h2
              exact ⟨u, oc, z6, z2, z5⟩
            | succ j => exact q j x c w (by simpa using h1) (by simpa using h2)
      exact go cs ds hcd mf
    obtain ⟨ws, wl, wa, wq⟩ := vals
    have e0 : Env0 X.prog X.w X.K X.mg X.base X.A X.stack s1 (cut H (cs.map (·.2))) := by
      have e := I1.env0
      have cn : ∀ b, H b = none → cut H (cs.map (·.2)) b = none := fun b h => by
        unfold cut
        split
        · rfl
        · exact h
      exact ⟨e.frames, e.mod, fun b o z => ⟨(e.bs b o z).1, cn b (e.bs b o z).2⟩, e.bsz, e.funs, fun b hb => cn b (e.frf b hb), hok_cut e.hok xos, e.bare⟩
    have rc : codeAny (model X.prog X.w) X.A (.call (.ref f) ⟨[], []⟩) (CR (L2.CX X.prog X.w) X.stack X.prog X.w (cut H (cs.map (·.2))) s1 (AfE X.K [] G (cut H (cs.map (·.2))) fun d _ => d.mf = true ∧ Q d μ)
        (fun cls d H' => WJ X.K (fun C fs _ => mff fs = true ∧ J C fs μ) [] G (cut H (cs.map (·.2))) cls d H')) s1 := by
      refine PySem.W.kla_callFunE hr.depth of1 rfl ok.co ok.gen rfl ⟨c', oc, vs, t, rfl, hoc, hdc, hvc⟩ ?_
      rw [hbind]
      refine wpAny_pure (wpAny_newFunctionEnv (fun y hy => (ok.own y hy).2) (fun y hy => absurd hy (by simp)) (fun h₁ hns hsb => ⟨I1.nolimit.fresh _ hsb, ?_⟩) ok.kind)
      have kp : ∀ b o, s1.heap.get? b = some o → h₁.get? b = some o := fun b o e => hsb.extBut b o (Nat.ne_of_lt (Heap.lt_size e)) (Heap.get?_push_of_some _ e)
      show codeAny _ _ (.expr L.body (lamV L cs s1.heap.objs.size f c')) _ _
      have sl : Slots X.K [] G (ws.map some) (ds.map some) := ⟨by simp [wl], fun j d hj => by
        rw [List.getElem?_map] at hj
        cases hd : ds[j]? with
        | none => rw [hd] at hj; cases hj
        | some d' =>
          rw [hd] at hj
          cases hj
          obtain ⟨x, hx, ax⟩ := wa.got hd
          exact ⟨x, by rw [List.getElem?_map, hx]; rfl, ax⟩⟩
      have J0 : Inv (lamC X.prog X.w X.K X.mg X.base (cs.map (·.1)) L cs f c' X.A X.stack s1 (cut H (cs.map (·.2))) (fun cls d H' => WJ X.K (fun C fs _ => mff fs = true ∧ J C fs μ) [] G (cut H (cs.map (·.2))) cls d H')) [] (ws.map some) (cut H (cs.map (·.2))) { s1 with heap := h₁, toks := s1.toks + ([] : List (Str × Value)).length } := by
        refine lamC_start e0 hr.hd ok inj (fun x c hx => ?_) (by simp [wl, hcd.1]) (fun j x v hj hv => ?_) hns kp
        · have hm := PySem.mem_of_lookup hx
          obtain ⟨oc, v, u, z1, z2, _⟩ := cell_ _ hm
          exact ⟨cut_in (List.mem_map.mpr ⟨_, hm, rfl⟩), some u, oc, xo_ok I1.hok z1, z2⟩
        · rw [List.getElem?_map] at hj hv
          cases hcj : cs[j]? with
          | none => rw [hcj] at hj; cases hj
          | some p =>
            rw [hcj] at hj
            cases hj
            cases hwj : ws[j]? with
            | none => rw [hwj] at hv; cases hv
            | some v' =>
              rw [hwj] at hv
              cases hv
              obtain ⟨u, oc, z1, z2, z3⟩ := wq j p.1 p.2 v hcj hwj
              exact ⟨p.2, u, lookup_ix nd hcj, z1, oc, xo_ok I1.hok z2, z3⟩
      have tk : TakesD (lamC X.prog X.w X.K X.mg X.base (cs.map (·.1)) L cs f c' X.A X.stack s1 (cut H (cs.map (·.2))) (fun cls d H' => WJ X.K (fun C fs _ => mff fs = true ∧ J C fs μ) [] G (cut H (cs.map (·.2))) cls d H')) (fun C fs _ => mff fs = true ∧ J C fs μ) [] G (cut H (cs.map (·.2))) :=
        Takes.imp (takes_of rfl rfl rfl rfl) fun cls d σ H' z => z
      have mem0 : Mem X.K [] G (cut H (cs.map (·.2))) [] := ⟨fun b o z => by
        by_cases hb : b ∈ cs.map (·.2)
        · rw [gn b hb] at z; cases z
        · rw [cut_out hb]; exact S.mem.same b o z, rfl, fun k mo hk => by simp at hk, List.nodup_nil, fun a h => by simp at h⟩
      refine PySem.W.kla_codeExpr (wpAny_mono ((hbody f c' X.A X.stack s1 (cut H (cs.map (·.2))) _ (hr.deeper _) hg) [] G _ (ws.map some) ⟨mem0, sl, tk⟩ [] _ J0) (fun v s' hq => ?_) fun e s' hq => hq)
      obtain ⟨w', H', J', rv, q⟩ := hq
      exact ⟨w', H', J'.os, J'.bare, J'.base, J'.hok, rv, q⟩
    refine wpAny_call (codeAny_mono rc fun r s' hq => ?_)
    cases r with
    | error e =>
      refine passAt S.tk σ pins H s1 e s' I1 ?_
      have z := cx_glue hq xos I1.hok nf
      obtain ⟨a, B, H', cls, d, q1, q2, q3, q4, q5, q6, q7, H0, rfl, n0, w0⟩ := z
      refine ⟨a, B, _, cls, d, q1, q2, q3, q4, q5, q6, q7, ?_⟩
      obtain ⟨C, as', G', μ', gs, z1, t, m', fz, mg, jj⟩ := w0
      obtain ⟨t2, m2⟩ := lift_cut S.mem sub gn t m'.same n0
      refine ⟨C, as, G', μ, gs, z1, t2, m2, ?_, jj⟩
      rcases fz with z | ⟨dd, fs, e1, e2, e3⟩
      · exact .inl z
      · exact .inr ⟨dd, fs, e1, e2, e3.free mg⟩
    | ok fl =>
      cases fl with
      | ret u =>
        have z := ce_glue hq xos I1.hok nf
        obtain ⟨v, H', q1, q2, q3, q4, q5, H0, rfl, n0, d, μ', as', G', t, m', a', md, q⟩ := z
        obtain ⟨t2, m2⟩ := lift_cut S.mem sub gn t m'.same n0
        exact I1.after ⟨v, _, q1, q2, q3, q4, q5, d, μ, as, G', t2, m2, a'.free md, q⟩
      | next => exact False.elim hq
      | brk => exact False.elim hq
      | cont => exact False.elim hq
end
end DL

/-! D20: lambdas: a callee that is handed the cells; the head of a law that makes lambdas. -/
namespace DL
open PySem PySem.Spec PyProof.Rows L2

/-- the cells as a callee's mutable objects -/
def cellMu (g : Addr → Obj) : Nat → List (Addr × Dt) → Mu
  | _, [] => []
  | n, (c, d) :: r => .cell n c (g c) d :: cellMu g (n + 1) r
theorem cellMu_get {g : Addr → Obj} : ∀ {cl : List (Addr × Dt)} {n j : Nat}, (cellMu g n cl)[j]? = (cl[j]?).map fun p => Mo.cell (n + j) p.1 (g p.1) p.2
  | [], _, _ => by simp [cellMu]
  | (c, d) :: r, n, 0 => by simp [cellMu]
  | (c, d) :: r, n, j + 1 => by
    simp only [cellMu, List.getElem?_cons_succ]
    rw [cellMu_get]
    congr 1
    funext p
    rw [show n + 1 + j = n + (j + 1) from by omega]
theorem cellMu_length {g : Addr → Obj} : ∀ {cl : List (Addr × Dt)} {n : Nat}, (cellMu g n cl).length = cl.length
  | [], _ => rfl
  | (c, d) :: r, n => by simp [cellMu, cellMu_length]
/-- the callee's wish: it gives the cells back as they were -/
def CallsC (R : Spc) (cl : List (Addr × Dt)) (ds : List Dt) (μ : Mu) (Q : Dt → Mu → Prop) : Prop :=
  mfs ds = true ∧ ∀ g : Addr → Obj, R ds (cellMu g 0 cl) (fun d μ' => d.mf = true ∧ (∀ j, j < cl.length → μ'[j]? = (cellMu g 0 cl)[j]?) ∧ Q d μ) J0
section
variable {X : Cx} {J : JX} {e : Expr} {es : List Expr} {ρ : Env'} {μ : Mu} {pos : Pos} {k : Nat} {ps : List Str} {R : Spc}
theorem dE_cells {cl : List (Addr × Dt)} {x : Str} {p : Pos} {Q : Dt → Mu → Prop} (F : DefP X.prog X.w X.K X.mg X.base k x ps R) (hr : Room k X.A) (hgd : X.A.guards = some [])
    (hcl : ∀ t ∈ cl, t.2.mf = true ∧ ∃ (i : Nat) (y : Str), X.N[i]? = some y ∧ ρ[i]? = some (some t.2) ∧ X.env.scope.names.lookup y = some .cell ∧ X.env.cells.lookup y = some t.1 ∧ X.fn y = true) (nd : (cl.map (·.1)).Nodup)
    (h : dA X J (e :: es) ρ μ fun ds μ1 => CallsC R cl ds μ1 Q)
    (hg : Gl X x := by rfl) (hdb : (x == ("__debug__" : Str)) = false := by decide) (he : starEach (e :: es) X.env = (false, eval e X.env) :: starEach es X.env := by rfl) (hpl : (backTo pos (starEach es X.env)).any (·.1) = false := by rfl) :
    dE X J (.Call (.Name x p) (e :: es) [] pos) ρ μ Q := .mk fun as G H σ S pins s I => by
  obtain ⟨f, fd, F, hm, hk, hb⟩ := F.ex
  refine wpAny_Call_Name_kw (ld_glob I hg hm ?_ hdb)
  refine PySem.W.callWith_K (h₀ := X.base) I.ok.mod.kin hk (thn (h as G H σ S pos pins s I) fun us s1 ⟨vs, H1, I1, r, ds, μ1, as1, G1, t, m, av, mfd, q⟩ => ⟨I1.kIn, ?_⟩) he hpl
  -- what is known of the cells
  have inf : ∀ t ∈ cl, ∃ oc v u, s1.heap.get? t.1 = some oc ∧ oc.data = .cell (some u) ∧ RelV v u ∧ At X.K as1 G1 v t.2 ∧ H1 t.1 = none ∧ t.1 ∉ frs X.stack ∧ X.s_0.heap.objs.size ≤ t.1 := fun tt ht => by
    obtain ⟨_, i, y, z1, z2, z3, z4, z5⟩ := hcl tt ht
    obtain ⟨v, e1, a1⟩ := S.sl.at_ i _ z2
    obtain ⟨mm, hn, hl⟩ := I1.loc
    obtain ⟨u, rv, lk⟩ := hl i y v z1 e1 (.inr (.inl z3))
    have hc := I1.freeC y tt.1 z4
    have cab := I1.ok.cab y tt.1 z5 z4
    have nf : tt.1 ∉ frs X.stack := fun hm => by
      rcases List.mem_cons.mp (I1.stkSub _ hm) with e | e
      · exact I1.cne y tt.1 z4 e
      · obtain ⟨_, o, ho, _⟩ := I1.ok.funs.mem e
        exact absurd (Nat.lt_of_lt_of_le (Heap.lt_size ho) cab) (Nat.lt_irrefl _)
    rcases lk with ⟨k', _⟩ | ⟨_, c3, e', oc, ho, hd⟩
    · have k' : X.env.scope.names.lookup y = some .local := k'
      rw [z3] at k'
      cases k'
    · rw [z4] at e'
      cases e'
      exact ⟨oc, v, u, ho, hd, rv, a1.mono t.gg t.ix, hc, nf, cab⟩
  let g : Addr → Obj := fun c => (s1.heap.get? c).getD { cls := .none, data := .plain }
  have gg : ∀ c oc, s1.heap.get? c = some oc → g c = oc := fun c oc e => by simp [g, e]
  let xs := cl.map (·.1)
  have inx : ∀ c ∈ xs, s1.heap.get? c = some (g c) ∧ H1 c = none ∧ c ∉ frs X.stack ∧ X.s_0.heap.objs.size ≤ c := fun c hc => by
    obtain ⟨tt, ht, rfl⟩ := List.mem_map.mp hc
    obtain ⟨oc, v, u, z1, z2, z3, z4, z5, z6, z7⟩ := inf tt ht
    exact ⟨by rw [gg _ _ z1]; exact z1, z5, z6, z7⟩
  let Hw : Hp := fun b => if b ∈ xs then some (xo b (g b)) else H1 b
  have win : ∀ {b}, b ∈ xs → Hw b = some (xo b (g b)) := fun hb => if_pos hb
  have wout : ∀ {b}, b ∉ xs → Hw b = H1 b := fun hb => if_neg hb
  have tno : ∀ b u, H1 b = some u → b ∉ xs := fun b u e z => by
    rw [(inx b z).2.1] at e
    cases e
  have gno : ∀ c ∈ xs, G1 c = none := fun c hc => m.same.free (inx c hc).2.1
  have e0 : Env0 X.prog X.w X.K X.mg X.base X.A X.stack s1 Hw := by
    have e := I1.env0
    refine ⟨e.frames, e.mod, fun b o z => ⟨(e.bs b o z).1, ?_⟩, e.bsz, e.funs, fun b hb => ?_, fun b u z => ?_, e.bare⟩
    · rw [wout fun hb => absurd (Nat.lt_of_lt_of_le (Nat.lt_of_lt_of_le (Heap.lt_size z) I1.ok.bsz) (inx b hb).2.2.2) (Nat.lt_irrefl _)]
      exact (e.bs b o z).2
    · rw [wout fun hx => (inx b hx).2.2.1 hb]
      exact e.frf b hb
    · by_cases hb : b ∈ xs
      · rw [win hb] at z
        cases z
        exact ⟨(inx b hb).1, ⟨_, (inx b hb).1⟩, fun h1 h2 p st => st _ p⟩
      · rw [wout hb] at z
        exact (e.hok b u z).stay (fun _ _ _ q => q) (fun b q => by rw [wout (tno _ _ q)]; exact q) (fun b ys q => by rw [wout (tno _ _ q)]; exact q)
  have mw : Mem X.K xs G1 Hw (cellMu g 0 cl) := by
    refine ⟨fun b o z => ?_, by simp [xs, cellMu_length], fun j mo hj hgone => ?_, nd, fun a ha => by rw [win ha]; simp⟩
    · rw [wout fun hb => by rw [gno b hb] at z; cases z]
      exact m.same b o z
    · rw [cellMu_get] at hj
      cases hc : cl[j]? with
      | none => rw [hc] at hj; cases hj
      | some tt =>
        rw [hc] at hj
        cases hj
        have ht := List.mem_of_getElem? hc
        have hx : xs[j]? = some tt.1 := by
          show (cl.map (·.1))[j]? = _
          rw [List.getElem?_map, hc]
          rfl
        obtain ⟨oc, v, u, z1, z2, z3, z4, z5, z6, z7⟩ := inf tt ht
        refine ⟨tt.1, _, hx, win (List.mem_of_getElem? hx), ⟨by rw [Nat.zero_add]; exact hx, v, u, rfl, by rw [gg _ _ z1]; exact z2, z3, z4.free (hcl tt ht).1⟩, gno _ (List.mem_of_getElem? hx)⟩
  have sp : spD X.K R vs Hw (AfE X.K xs G1 Hw fun d μ' => d.mf = true ∧ (∀ j, j < cl.length → μ'[j]? = (cellMu g 0 cl)[j]?) ∧ Q d μ1) (fun _ _ _ => False) :=
    ⟨xs, G1, ds, _, _, _, mw, av.free mfd, q g, fun _ _ z => z, fun cls d H' ⟨_, _, _, _, _, _, _, _, _, j⟩ => j⟩
  have hl : us.length = ps.length := by
    rw [← r.length, av.length]
    exact F.len _ _ _ _ (q g)
  have b0 := hb s1 us I1.kIn (by rw [List.append_nil]; exact hl)
  rw [List.append_nil] at b0
  refine wpAny_call (codeAny_mono (F.run X.A X.stack s1 Hw ⟨us, []⟩ us vs _ _ hr hgd e0 b0 r sp) fun r s' hq => ?_)
  cases r with
  | error e =>
    obtain ⟨_, _, _, _, _, _, _, _, _, _, _, _, z⟩ := hq
    exact z.elim
  | ok fl =>
    cases fl with
    | next => exact False.elim hq
    | brk => exact False.elim hq
    | cont => exact False.elim hq
    | ret u =>
      obtain ⟨v, H', os, bare, un, hok', rv, d, μ', as', G', t', m', a', md, hkeep, qq⟩ := hq
      have back : ∀ c ∈ xs, H' c = some (xo c (g c)) ∧ G' c = none := fun c hc => by
        obtain ⟨j, hj⟩ := List.getElem?_of_mem hc
        have hj2 : (cl.map (·.1))[j]? = some c := hj
        rw [List.getElem?_map] at hj2
        cases hcj : cl[j]? with
        | none => rw [hcj] at hj2; cases hj2
        | some tt =>
          rw [hcj] at hj2
          cases hj2
          have hm := hkeep j (List.getElem?_eq_some_iff.mp hcj).1
          rw [cellMu_get, hcj] at hm
          obtain ⟨a2, o2, y1, y2, ⟨y3, v2, u2, y4, _⟩, y8⟩ := m'.cell j _ hm (fun z => by cases z)
          rw [t'.ix j _ hj] at y1
          cases y1
          subst y4
          exact ⟨y2, y8⟩
      have hw1 : ∀ b, H1 b = none → b ∉ xs → Hw b = none := fun b n hb => by rw [wout hb]; exact n
      have fr : ∀ b o, G' b = some o → G1 b = some o ∨ H1 b = none := fun b o e => by
        rcases t'.fr b o e with z | z | z
        · exact .inl z
        · by_cases hb : b ∈ xs
          · exact .inr (inx b hb).2.1
          · rw [wout hb] at z
            exact .inr z
        · exact .inr (inx b z).2.1
      have hh : ∀ b o, H1 b = some o → cut H' xs b = some o := fun b o e => by
        have nb := tno b o e
        rw [cut_out nb]
        exact t'.hh b o (by rw [wout nb]; exact e) nb
      have ho : ∀ b, H1 b ≠ none → cut H' xs b ≠ none := fun b e => by
        cases q : H1 b with
        | none => exact absurd q e
        | some o => rw [hh b o q]; simp
      have T : Step as1 G1 H1 as1 G' (cut H' xs) := ⟨⟨[], by simp⟩, t'.gg, fun b o e _ => hh b o e, ho, fun b o e => (fr b o e).elim .inl fun z => .inr (.inl z), fun a ha => .inl ha⟩
      have M : Mem X.K as1 G' (cut H' xs) μ1 := by
        refine ⟨fun b o e => ?_, m.len, fun j mo hj hgone => ?_, m.nd, fun a ha => ho a (m.ne a ha)⟩
        · rw [cut_out fun hb => by rw [(back b hb).2] at e; cases e]
          exact m'.same b o e
        · obtain ⟨a, o, h1, h2, h3, h4⟩ := m.cell j mo hj hgone
          refine ⟨a, o, h1, hh a o h2, h3.mono t'.gg (fun _ _ h => h), ?_⟩
          cases q : G' a with
          | none => rfl
          | some u =>
            rcases fr a u q with z | z
            · rw [h4] at z; cases z
            · rw [h2] at z; cases z
      have U : Un (frs X.stack) [] H1 (cut H' xs) s1.heap s'.heap := by
        have at_ : ∀ b o, s1.heap.get? b = some o → b ∈ xs → s'.heap.get? b = some o := fun b o e hb => by
          have z := xo_ok hok' (back b hb).1
          rw [(inx b hb).1] at e
          cases e
          exact z
        refine ⟨fun b o e n hb hx => ?_, fun b o e n hb hx => ?_, fun b o e n hx => ?_, un.there, fun b ys q => ?_, fun b o v q => ?_, fun b ps q => ?_⟩
        · by_cases hbx : b ∈ xs
          · exact at_ b o e hbx
          · exact un.keep b o e (hw1 b n hbx) hb hx
        · by_cases hbx : b ∈ xs
          · exact ⟨o.slots, at_ b o e hbx⟩
          · exact un.slot b o e (hw1 b n hbx) hb hx
        · by_cases hbx : b ∈ xs
          · exact cut_in hbx
          · rw [cut_out hbx]
            exact un.free b o e (hw1 b n hbx) hx
        · have nb := tno b _ q
          rw [cut_out nb]
          exact un.tups b ys (by rw [wout nb]; exact q)
        · have nb := tno b _ q
          rw [cut_out nb]
          exact un.frzs b o v (by rw [wout nb]; exact q)
        · have nb := tno b _ q
          rw [cut_out nb]
          exact un.tbls b ps (by rw [wout nb]; exact q)
      have fin := I1.after (Q := AfE X.K as1 G1 H1 Q) ⟨v, cut H' xs, os, bare, U, hok_cut hok' (fun c hc => ⟨_, (back c hc).1⟩), rv, d, μ1, as1, G', T, M, a'.free md, qq⟩
      obtain ⟨v', H2, I2, rv', q2⟩ := fin
      exact ⟨v', H2, I2, rv', q2.back t⟩
end

/-! ### the head of a law that makes lambdas -/
theorem run_lawT {P : Program} {w : World} {K : PySem.W.Frag} {mg mb : Str → Option Value} {k : Nat} {fa a c T : Addr} {fd : FuncData} {x q : Str} {R : Spc} {s₁ : Shared} {vs : List Value} {ns : List Int}
    (KX : K.In s₁.heap) (gl : s₁.heap.Ns mainGlobals mg) (bl : s₁.heap.Ns builtinsNs mb) (bb : ∀ x : Str, x ≠ "__name__" → mb x = bootBuiltins x) (lim : s₁.heap.NoLimit) (gens : s₁.gens = #[])
    (hT : s₁.heap.get? T = some { cls := .none, data := .fields #[] }) (nT : K.lookup T = none) (C : PySem.W.CodeHd s₁.heap c T)
    (hbm : ∃ (bm : Addr) (ob : Obj), mg "__builtins__" = some (.ref bm) ∧ bm ≠ builtinsNs ∧ s₁.heap.get? bm = some ob ∧ ob.cls = .type "module" ∧ ob.dict = some builtinsNs ∧ ob.data = .plain)
    (at_ : s₁.heap.get? a = some { cls := .type "list", data := .seq vs.toArray }) (isInts : IntsAre vs ns) (few : ns.length ≤ sizeLine) (room : Room k callerA)
    (F : ∀ base : Heap, K.In base → base.Ns mainGlobals mg → LamX.TabB base mg c T → FnG P w K mg base k fa fd [x] R) (bind : ∀ (s : Shared) (u : Value), BindsTo s fd ⟨[u], []⟩ [(x, u)])
    (hR : R [.lst (ns.map .int)] [.tab 0 T q] (fun d _ => d = .bl true) J0) :
    codeAny (model P w) callerA (.call (.ref fa) ⟨[.ref a], []⟩) (fun r s' => r = .ok (.ret (.bool true)) ∧ OldK s₁.heap s'.heap ∧ s'.os = s₁.os ∧ AllBare s'.gens) s₁ := by
  have rv := vals_ints isInts
  have aT : a ≠ T := fun z => by
    rw [z, hT] at at_
    cases at_
  have go : ∀ H : Hp, H T = some (.tbl #[]) → (∀ b u, H b = some u → b = T ∨ b = a ∧ K.lookup a = none ∧ ∃ o xs, u = .frz o (.lst xs)) → SqL K (fun b => if b = T then none else H b) a (ns.map V.int) → HOk P w H s₁.heap →
      codeAny (model P w) callerA (.call (.ref fa) ⟨[.ref a], []⟩) (fun r s' => r = .ok (.ret (.bool true)) ∧ OldK s₁.heap s'.heap ∧ s'.os = s₁.os ∧ AllBare s'.gens) s₁ := by
    intro H HT only sq hok
    have free : ∀ {b : Addr} {o : Obj}, s₁.heap.get? b = some o → (b ≠ a ∨ K.lookup a ≠ none) → o.data ≠ .fields #[] → H b = none := fun {b o} e h h2 => by
      cases q : H b with
      | none => rfl
      | some u =>
        rcases only b u q with z | ⟨e1, e2, _⟩
        · rw [z, hT] at e
          cases e
          exact absurd rfl h2
        · rcases h with h | h
          · exact absurd e1 h
          · exact absurd e2 h
    have noD : ∀ {b : Addr} {o : Obj}, s₁.heap.get? b = some o → (∀ vs n, o.data ≠ .seq vs n) → o.data ≠ .fields #[] → H b = none := fun {b o} e h1 h2 => free e (.inl fun z => by
      rw [z, at_] at e
      cases e
      exact h1 _ _ rfl) h2
    have ns_ : ∀ {b : Addr} {m : Str → Option Value}, s₁.heap.Ns b m → (hidT s₁.heap H).Ns b m := fun {b m} ⟨o, es, ep, e, d, r⟩ => ⟨o, es, ep, hidT_get e (noD e (fun vs n z => by rw [d] at z; cases z) fun z => by rw [d] at z; cases z), d, r⟩
    have kin : K.In (hidT s₁.heap H) := fun b o e => hidT_get (KX b o e) (by
      cases q : H b with
      | none => rfl
      | some u =>
        rcases only b u q with z | ⟨e1, e2, _⟩
        · rw [z, nT] at e; cases e
        · rw [e1, e2] at e; cases e)
    have md : Mod K mg (hidT s₁.heap H) := ⟨kin, ns_ gl, ⟨mb, ns_ bl, bb⟩, let ⟨mc, h1, h2⟩ := lim; ⟨mc, ns_ h1, h2⟩⟩
    have TB : LamX.TabB (hidT s₁.heap H) mg c T := by
      refine ⟨?_, ?_, fun z => ?_⟩
      · obtain ⟨o, us, file, tf, flags, tg, inF, text, tt, e1, r1, r2, r3, r4, r5, r6, r7, r8, hne⟩ := C
        refine ⟨o, us, file, tf, flags, tg, inF, text, tt, hidT_get e1 (noD e1 (fun vs n z => ?_) fun z => ?_), r1, r2, r3, r4, r5, r6, r7, r8, hne⟩
        · rw [r2] at z
          cases z
        · rw [r2] at z
          cases z
          simp at r3
      · obtain ⟨bm, ob, b1, b2, b3, b4, b5, b6⟩ := hbm
        have nG : bm ≠ mainGlobals := fun q => by
          obtain ⟨o, es, ep, e, hd, _⟩ := gl
          rw [q, e] at b3
          cases b3
          rw [hd] at b6
          cases b6
        have nP : bm ≠ T := fun q => by
          rw [q, hT] at b3
          cases b3
          cases b6
        refine ⟨bm, ob, b1, b2, nG, nP, hidT_get b3 (noD b3 (fun vs n z => ?_) fun z => ?_), b4, b5, b6⟩
        · rw [b6] at z
          cases z
        · rw [b6] at z
          cases z
      · obtain ⟨o, es, ep, e, hd, _⟩ := gl
        rw [z, hT] at e
        cases e
        cases hd
    have e0 : Env0 P w K mg (hidT s₁.heap H) callerA [] s₁ H := ⟨rfl, md, fun b o e => of_hidT e, Nat.le_of_eq (hidT_size _ _), trivial, fun b hb => absurd (show b ∈ ([] : List Addr) from hb) (by simp), hok, .of_eq gens⟩
    have sp : spD K R [.ref a] H (fun v _ => v = .bl true) (fun _ _ _ => False) := by
      refine ⟨[T], fun b => if b = T then none else H b, [.lst (ns.map .int)], [.tab 0 T q], _, _, ⟨fun b o e => ?_, rfl, fun k m h hg => ?_, by simp, fun a h => ?_⟩, .cons (.lst sq (ats_ints ns)) .nil, hR, ?_, ?_⟩
      · by_cases hb : b = T
        · rw [if_pos hb] at e; cases e
        · rw [if_neg hb] at e; exact e
      · have hk : k = 0 := by
          have := (List.getElem?_eq_some_iff.mp h).1
          simpa using this
        subst hk
        simp at h
        subst h
        exact ⟨T, _, rfl, HT, ⟨rfl, #[], rfl, True.intro, fun pos cv hc => by
          have z : codeAmong pos [] = some cv := hc
          simp [codeAmong] at z⟩, if_pos rfl⟩
      · have : a = T := by simpa using h
        subst this
        rw [HT]
        simp
      · rintro v H' ⟨d, μ', as', G', t, m', a', q⟩
        subst q
        cases a'
        rfl
      · rintro cls d H' ⟨_, _, _, _, _, _, _, _, _, j⟩
        exact j.elim
    refine codeAny_mono ((F _ kin (ns_ gl) TB).run callerA [] s₁ H ⟨[.ref a], []⟩ [.ref a] [.ref a] _ _ room rfl e0 (bind s₁ (.ref a)) (.cons rfl .nil) sp) fun r s' h => ?_
    cases r with
    | error e =>
      obtain ⟨_, _, _, _, _, _, _, _, _, _, _, _, z⟩ := h
      exact z.elim
    | ok fl =>
      cases fl with
      | next => exact False.elim h
      | brk => exact False.elim h
      | cont => exact False.elim h
      | ret u =>
        obtain ⟨v, H', os, bare, un, hok', r', q⟩ := h
        have q' : v = .bl true := q
        subst q'
        obtain rfl : u = Value.bool true := r'
        have key : ∀ b o, b ≠ T → s₁.heap.get? b = some o → s'.heap.get? b = some o := fun b o nb e => by
          cases z : H b with
          | none => exact un.keep b o e z (fun y => absurd (show b ∈ ([] : List Addr) from y) (by simp)) (by simp)
          | some u =>
            rcases only b u z with z' | ⟨_, _, ob, xs, rfl⟩
            · exact absurd z' nb
            · obtain ⟨e1, _⟩ := hok b _ z
              obtain ⟨e2, _⟩ := hok' b _ (un.frzs b ob _ z)
              rw [e] at e1
              cases e1
              exact e2
        obtain ⟨more, zm⟩ := un.tbls T #[] HT
        have hm : s'.heap.get? T = some { cls := .none, data := .fields (#[] ++ more) } := hok' T _ zm
        refine ⟨rfl, ⟨fun b o e => ?_, fun b o e => ?_⟩, os, bare⟩
        · by_cases hb : b = T
          · rw [hb] at e ⊢
            rw [hT] at e
            cases e
            exact .inr (.inl ⟨(C.tab hT).isCodeTable, rfl, #[], more, rfl, hm⟩)
          · exact .inl (key b o hb e)
        · by_cases hb : b = T
          · rw [hb]
            exact ⟨_, hm⟩
          · exact ⟨o, key b o hb e⟩
  cases hk : K.lookup a with
  | some o =>
    have e := KX a o hk
    rw [at_] at e
    cases e
    refine go (oneH T (.tbl #[])) (if_pos rfl) (fun b u z => ?_) (.inr ⟨_, vs.toArray, _, hk, rfl, rfl, rfl, by rw [List.size_toArray, isInts.length]; exact few, by simpa using rv⟩) (fun b u z => ?_)
    · unfold oneH at z
      split at z
      · rename_i hb
        exact .inl hb
      · cases z
    · unfold oneH at z
      split at z
      · rename_i hb
        cases z
        rw [hb]
        exact hT
      · cases z
  | none =>
    refine go (fun b => if b = T then some (.tbl #[]) else oneH a (.frz { cls := .type "list", data := .seq vs.toArray } (.lst (ns.map V.int))) b) (if_pos rfl) (fun b u z => ?_) (.inl (.inr ⟨{ cls := .type "list", data := .seq vs.toArray }, ?_⟩)) (fun b u z => ?_)
    · by_cases hb : b = T
      · exact .inl hb
      · have z := (if_neg hb).symm.trans z
        unfold oneH at z
        split at z
        · rename_i hb2
          cases z
          exact .inr ⟨hb2, hk, _, _, rfl⟩
        · cases z
    · exact (if_neg aT).trans ((if_neg aT).trans (if_pos rfl))
    · by_cases hb : b = T
      · have z := (if_pos hb).symm.trans z
        cases z
        rw [hb]
        exact hT
      · have z := (if_neg hb).symm.trans z
        unfold oneH at z
        split at z
        · rename_i hb2
          cases z
          subst hb2
          exact ⟨at_, by rw [List.length_map]; exact few, vs, _, rv, at_⟩
        · cases z
end DL

/-! D21: calls to which all mutable objects go along; what a fault is told as; laws that make lambdas: their head. -/
namespace DL
open PySem PySem.Spec PyProof.Rows L2

section
variable {X : Cx} {J : JX} {e : Expr} {es : List Expr} {ρ : Env'} {μ : Mu} {pos : Pos} {k : Nat} {ps : List Str} {R : Spc}
/-- a call: all our mutable objects go along -/
theorem dE_goA {x : Str} {p : Pos} {Q : Dt → Mu → Prop} (F : DefP X.prog X.w X.K X.mg X.base k x ps R) (hr : Room k X.A) (hgd : X.A.guards = some []) (h : dA X J (e :: es) ρ μ fun ds μ1 => R ds μ1 Q J)
    (hg : Gl X x := by rfl) (hdb : (x == ("__debug__" : Str)) = false := by decide) (he : starEach (e :: es) X.env = (false, eval e X.env) :: starEach es X.env := by rfl) (hpl : (backTo pos (starEach es X.env)).any (·.1) = false := by rfl) :
    dE X J (.Call (.Name x p) (e :: es) [] pos) ρ μ Q := .mk fun as G H σ S pins s I => by
  obtain ⟨f, fd, F, hm, hk, hb⟩ := F.ex
  refine wpAny_Call_Name_kw (ld_glob I hg hm ?_ hdb)
  refine PySem.W.callWith_K (h₀ := X.base) I.ok.mod.kin hk (thn (h as G H σ S pos pins s I) fun us s1 ⟨vs, H1, I1, r, ds, μ1, as1, G1, t, m, av, q⟩ => ⟨I1.kIn, ?_⟩) he hpl
  have z := run_fnG (Q := AfE X.K as1 G1 H1 Q) F hr hgd hb (S.tk.step t) I1 r ⟨as1, G1, ds, μ1, Q, J, m, av, q, fun _ _ z => z, fun _ _ _ z => z⟩
  exact thn z fun u s2 ⟨v, H2, I2, rv, q2⟩ => ⟨v, H2, I2, rv, q2.back t⟩
end

/-! ### lambdas that are handed on -/
/-- what a lambda without parameters does where its cells hold ds -/
structure LamD (P : Program) (w : World) (K : PySem.W.Frag) (mg : Str → Option Value) (base : Heap) (k : Nat) (L : LamI) (cs : List (Str × Addr)) (ds : List Dt) (Qd : Dt → Prop) (Jd : Addr → List (Str × Dt) → Prop) : Prop where
  ok : LamN L.scope (cs.map (·.1))
  nd : (cs.map (·.1)).Nodup
  inj : ∀ (x y : Str) (c : Addr), cs.lookup x = some c → cs.lookup y = some c → x = y
  mf : mfs ds = true
  bind : ∀ (pm cv ctv : Value), bindArgs (PySem.W.kla_fn "<lambda>" L.qual L.params L.body L.scope cs pm cv ctv) ⟨[], []⟩ = pure []
  body : ∀ (f c' : Addr) (A : Around) (outer : List Env) (s : Shared) (H : Hp) (E : XK), Room k (A.deeper (lamV L cs s.heap.objs.size f c')) → A.guards = some [] →
    dE (lamC P w K mg base (cs.map (·.1)) L cs f c' A outer s H E) (fun C fs _ => mff fs = true ∧ Jd C fs) L.body (ds.map some) [] fun d _ => d.mf = true ∧ Qd d
theorem dE_imp {X : Cx} {J J' : JX} {e : Expr} {ρ : Env'} {μ : Mu} {Q : Dt → Mu → Prop} (h : dE X J e ρ μ Q) (f : ∀ C fs μ', J C fs μ' → J' C fs μ') : dE X J' e ρ μ Q :=
  .mk fun as G H σ S => h as G H σ ⟨S.mem, S.sl, S.tk.imp f⟩
/-- the errors that a law tells apart, with the texts and the fields by which it tells them -/
def nm7 (i : Fin 7) : Str := (["BadLot", "BadNumber", "BadRow", "BadTable", "BadWeb", "TooMany", "Unlike"] : List Str).get i
def key7 (i : Fin 7) : Str := (["lot", "number", "row", "table", "web", "many", "unlike"] : List Str).get i
def fld7 (i : Fin 7) : List Str := ([["lot"], ["what", "number"], ["row"], ["table"], ["what", "value"], ["what", "many", "limit"], ["what"]] : List (List Str)).get i
structure Er7 (K : PySem.W.Frag) (mg : Str → Option Value) (E : Fin 7 → Addr) : Prop where
  g : ∀ i, mg (nm7 i) = some (.ref (E i))
  exm : ∀ i j, PySem.W.exmOne K (.ref (E i)) (.ref (E j)) = some (decide (i = j))
  xf : ∀ i, XfC K (E i)
  no : ∀ i, ∀ f ∈ fld7 i, PySem.W.findIn K (.ref (E i)) f = some none
def FltD (E : Fin 7 → Addr) (C : Addr) (gs : List (Str × Dt)) (d : Dt) : Prop := ∃ i, C = E i ∧ ∃ ys : List Dt, d = .tup (.str (key7 i) :: ys) ∧ Paired (fun f y => gs.lookup f = some y) (fld7 i) ys
def rFault (P : Program) (w : World) (K : PySem.W.Frag) (mg : Str → Option Value) (base : Heap) (k : Nat) (E : Fin 7 → Addr) : Spc := fun ds μ Q _ => ∃ L cs cds Qd Jd, ds = [.clo L cs] ∧ LamD P w K mg base k L cs cds Qd Jd ∧ CellsD μ cs cds ∧
  (∀ d, Qd d → Q .non μ) ∧ ∀ C gs, mff gs = true → Jd C gs → ∃ d, FltD E C gs d ∧ Q d μ
def RepOk (d : Dt) : Prop := ∃ p, toPy d = some p ∧ p.showable = true ∧ p.shown.length ≤ sizeLine ∧ p.depth + 1 ≤ 9
/-- a lambda with what is due -/
def DueD (P : Program) (w : World) (K : PySem.W.Frag) (mg : Str → Option Value) (base : Heap) (k : Nat) (E : Fin 7 → Addr) (μ : Mu) (t : Dt) : Prop := ∃ L cs cds Qd Jd due, t = .tup [.clo L cs, due] ∧ LamD P w K mg base k L cs cds Qd Jd ∧ CellsD μ cs cds ∧
  (∀ d, Qd d → due = .non) ∧ (∀ C gs, mff gs = true → Jd C gs → FltD E C gs due) ∧ RepOk due
def rDue (P : Program) (w : World) (K : PySem.W.Frag) (mg : Str → Option Value) (base : Heap) (k : Nat) (E : Fin 7 → Addr) : Spc := fun ds μ Q _ => ∃ tries, ds = [.lst tries] ∧ tries.length ≤ 1000 ∧ (∀ t ∈ tries, DueD P w K mg base k E μ t) ∧ Q (.bl true) μ

/-! ### the head -/
theorem walkT {l : PySem.W.OpenLaw} {n k : Nat} {q : Program} {loose : List Str} {XP : (Str → Option Value) → Heap → Prop} {YP : World → Heap → Prop} {d : DefRec} {K : Params → PySem.W.Frag} {R : World → Addr → Spc} {x qn : Str}
    (hn : l.most = some n) (hn2 : n ≤ sizeLine) (hdf : d.params.defaults = []) (hr : Room k callerA) (hrec : ((recsOf q).any fun e => e.name == d.name) = true)
    (hY : ∀ (w : World) (h : Heap), YP w h → (K w.params).In h)
    (F : ∀ (w : World) (mg : Str → Option Value) (fa : Addr) (h : Heap), (K w.params).In h → h.Ns mainGlobals mg → mg d.name = some (.ref fa) →
      ∃ (fd : FuncData) (c T : Addr) (o : Obj) (e : Value) (dd : Option Addr) (vs : Array Value) (sl : Array (Option Value)), (K w.params).lookup fa = some o ∧ o.data = .func fd ∧ fd.code = .ref c ∧ (K w.params).lookup c = some ⟨e, dd, .fields vs, sl⟩ ∧ vs[11]? = some (.ref T) ∧
        (K w.params).lookup T = none ∧ PySem.W.CodeHd h c T ∧ (∀ (s : Shared) (u : Value), BindsTo s fd ⟨[u], []⟩ [(x, u)]) ∧
        ∀ base : Heap, (K w.params).In base → base.Ns mainGlobals mg → LamX.TabB base mg c T → FnG l.prog w (K w.params) mg base k fa fd [x] (R w T))
    (hR : ∀ (w : World) (T : Addr) (ns : List Int), ns.length ≤ n → R w T [.lst (ns.map .int)] [.tab 0 T qn] (fun d _ => d = .bl true) J0) :
    PySem.W.WalkO q loose XP YP l.row.toRowW d [] (fun f vs => PySem.call f vs) := by
  refine Att.attach_call hn hdf fun w s₀ s₁ mg mb fa o pm cd doc a vs ns G Y ho hd hcd hmg hobj hints hlen hg => ?_
  have KX := hY w _ Y
  obtain ⟨fd, c, T, o1, e, dd, vs1, sl, k1, k2, k3, k4, k5, nT, C, hb, hF⟩ := F w mg fa _ KX G.T.g hmg
  have hT : s₁.heap.get? T = some { cls := .none, data := .fields #[] } := by
    obtain ⟨dL, hm, hn1⟩ := List.any_eq_true.mp hrec
    have hn2 : dL.name = d.name := beq_iff_eq.mp hn1
    obtain ⟨a', o', fd', c', P', h1, h2, h3, h4, h5, h6⟩ := G.T.tab dL hm
    rw [hn2, hmg] at h1
    cases h1
    have g1 := KX _ _ k1
    rw [g1] at h2
    cases h2
    rw [k2] at h3
    cases h3
    rw [k3] at h4
    cases h4
    obtain ⟨⟨oc, vc, e1, _, e3, e4⟩, hP⟩ := h6
    have g2 := KX _ _ k4
    rw [g2] at e1
    cases e1
    cases e3
    rw [k5] at e4
    cases e4
    exact hP
  exact run_lawT KX G.T.g G.T.b G.T.builtins G.T.nolimit hg hT nT C G.T.bmain hobj hints (Nat.le_trans hlen hn2) hr hF hb (hR w T ns hlen)
end DL

/-! D22: how long a text of data is. -/
namespace DL
open PySem PySem.Spec PyProof.Rows L2

mutual
/-- no more signs than these -/
def widP : PyData → Nat
  | .none => 4
  | .bool _ => 5
  | .int _ => 66
  | .str x => (reprText x).length
  | .list xs => widPs xs + 2
  | .tuple xs => widPs xs + 3
  | .dict kvs => widPk kvs + 2
def widPs : List PyData → Nat
  | [] => 0
  | x :: r => widP x + 2 + widPs r
def widPk : List (PyData × PyData) → Nat
  | [] => 0
  | (k, v) :: r => widP k + 2 + widP v + 2 + widPk r
end
mutual
/-- its numbers are small -/
def smP : PyData → Bool
  | .none | .bool _ | .str _ => true
  | .int i => decide (i.natAbs < 2 ^ 64)
  | .list xs | .tuple xs => smPs xs
  | .dict kvs => smPk kvs
def smPs : List PyData → Bool
  | [] => true
  | x :: r => smP x && smPs r
def smPk : List (PyData × PyData) → Bool
  | [] => true
  | (k, v) :: r => smP k && smP v && smPk r
end
theorem piled_cons (t : Str) (r : List Str) : piled (t :: r) = t.length + 2 + piled r := by simp [piled]
theorem textFrom_le : ∀ (ts : List Str) (k : Nat) (acc : Str), (textFrom k acc ts).length ≤ acc.length + piled ts
  | [], k, acc => by simp [textFrom, piled]
  | t :: r, k, acc => by
    have h := textFrom_le r (k + 1) (acc ++ (if k > 0 then ", " else "" : String) ++ t)
    have e : (acc ++ (if k > 0 then ", " else "" : String) ++ t).length ≤ acc.length + 2 + t.length := by
      rw [strLen_append, strLen_append]
      split
      · exact Nat.le_refl _
      · exact Nat.add_le_add_right (Nat.add_le_add_left (Nat.zero_le 2) _) _
    have p := piled_cons t r
    have q : textFrom k acc (t :: r) = textFrom (k + 1) (acc ++ (if k > 0 then ", " else "" : String) ++ t) r := rfl
    rw [p, q]
    omega
theorem listText_le (ts : List Str) : (listText ts).length ≤ piled ts + 2 := by
  unfold listText
  rw [strLen_append]
  have h := textFrom_le ts 0 "["
  have e1 : ("[" : Str).length = 1 := rfl
  have e2 : (("]" : String) : Str).length = 1 := rfl
  omega
theorem join_le (ts : List Str) : (Str.join ", " ts).length ≤ piled ts := by
  by_cases h : ts = []
  · subst h
    exact Nat.le_refl _
  · have := join_length_add ts h
    omega
theorem tupleText_le (ts : List Str) : (tupleText ts).length ≤ piled ts + 3 := by
  unfold tupleText
  rw [strLen_append, strLen_append]
  have h := join_le ts
  have e1 : ("(" : Str).length = 1 := rfl
  have e2 : (((if ts.length == 1 then ",)" else ")" : String)) : Str).length ≤ 2 := by
    split
    · exact Nat.le_refl _
    · exact Nat.le_succ 1
  omega
theorem dictText_le (ts : List Str) : (dictText ts).length ≤ piled ts + 2 := by
  unfold dictText
  rw [strLen_append, strLen_append]
  have h := join_le ts
  have e1 : ("{" : Str).length = 1 := rfl
  have e2 : (("}" : String) : Str).length = 1 := rfl
  omega
mutual
theorem wid_ok : ∀ {p : PyData}, smP p = true → p.showable = true ∧ p.shown.length ≤ widP p
  | .none, _ => ⟨rfl, Nat.le_refl _⟩
  | .bool b, _ => ⟨rfl, by cases b <;> decide⟩
  | .int i, h => by
    have h : i.natAbs < 2 ^ 64 := of_decide_eq_true h
    have l : i.natAbs.log2 < 64 := by
      by_cases h0 : i.natAbs = 0
      · rw [h0]; decide
      · exact (Nat.log2_lt h0).mpr h
    refine ⟨by simp only [PyData.showable, decide_eq_true_eq]; omega, ?_⟩
    have e := int_text_length_le (a := i) (k := 64) (by decide) l
    show (Str.ofString (toString i)).length ≤ 66
    rw [PySem.ofString_length]
    omega
  | .str x, _ => ⟨rfl, Nat.le_refl _⟩
  | .list xs, h => by
    obtain ⟨h1, h2⟩ := wids_ok (p := xs) h
    exact ⟨h1, Nat.le_trans (listText_le _) (Nat.add_le_add_right h2 2)⟩
  | .tuple xs, h => by
    obtain ⟨h1, h2⟩ := wids_ok (p := xs) h
    exact ⟨h1, Nat.le_trans (tupleText_le _) (Nat.add_le_add_right h2 3)⟩
  | .dict kvs, h => by
    obtain ⟨h1, h2⟩ := widk_ok (p := kvs) h
    exact ⟨h1, Nat.le_trans (dictText_le _) (Nat.add_le_add_right h2 2)⟩
theorem wids_ok : ∀ {p : List PyData}, smPs p = true → PyData.showableAll p = true ∧ piled (PyData.shownAll p) ≤ widPs p
  | [], _ => ⟨rfl, Nat.le_refl _⟩
  | x :: r, h => by
    simp only [smPs, Bool.and_eq_true] at h
    obtain ⟨h1, h2⟩ := wid_ok h.1
    obtain ⟨h3, h4⟩ := wids_ok h.2
    refine ⟨by simp [PyData.showableAll, h1, h3], ?_⟩
    simp only [PyData.shownAll, widPs, piled_cons]
    omega
theorem widk_ok : ∀ {p : List (PyData × PyData)}, smPk p = true → PyData.showableKv p = true ∧ piled (PyData.shownKv p) ≤ widPk p
  | [], _ => ⟨rfl, Nat.le_refl _⟩
  | (k, v) :: r, h => by
    simp only [smPk, Bool.and_eq_true] at h
    obtain ⟨h1, h2⟩ := wid_ok h.1.1
    obtain ⟨h3, h4⟩ := wid_ok h.1.2
    obtain ⟨h5, h6⟩ := widk_ok h.2
    refine ⟨by simp [PyData.showableKv, h1, h3, h5], ?_⟩
    have e : ((": " : String) : Str).length = 2 := rfl
    simp only [PyData.shownKv, widPk, piled_cons, strLen_append]
    omega
end
theorem repOk_of {d : Dt} {p : PyData} (h : toPy d = some p) (s : smP p = true) (w : Nat.ble (widP p) 100000 = true) (dp : Nat.ble (p.depth + 1) 9 = true) : RepOk d := by
  obtain ⟨h1, h2⟩ := wid_ok s
  refine ⟨p, h, h1, Nat.le_trans h2 (Nat.le_trans (Nat.le_of_ble_eq_true w) ?_), Nat.le_of_ble_eq_true dp⟩
  rw [sizeLine_eq]
  decide
end DL

/-! D23: from the written part: the seven errors; the law's code object. -/
namespace DL
open PySem PySem.Spec PyProof.Rows L2

section
variable {K : PySem.W.Frag} {mg : Str → Option Value} {P : Program} {w : World} {base : Heap}
theorem Xl.exD {C D CW : Addr} (x : Xl K C (.ref CW :: veL)) (y : Xl K D (.ref CW :: veL)) (n : CW ≠ D) : PySem.W.exmOne K (.ref C) (.ref D) = some (decide (C = D)) := by
  refine x.exm y (by simp [veL]) ?_
  have n' : (Value.ref D == Value.ref CW) = false := by simpa using fun z : D = CW => n z.symm
  by_cases h : C = D
  · subst h
    simp [List.contains_cons]
  · have h' : (Value.ref D == Value.ref C) = false := by simpa using fun z : D = C => h z.symm
    rw [decide_eq_false h]
    simp only [List.contains_cons, List.contains_nil, h', n']
    rfl
theorem er7_of {CW c0 c1 c2 c3 c4 c5 c6 : Addr} (nd : (CW :: [c0, c1, c2, c3, c4, c5, c6] : List Addr).Nodup)
    (x0 : Xl K c0 (.ref CW :: veL)) (x1 : Xl K c1 (.ref CW :: veL)) (x2 : Xl K c2 (.ref CW :: veL)) (x3 : Xl K c3 (.ref CW :: veL)) (x4 : Xl K c4 (.ref CW :: veL)) (x5 : Xl K c5 (.ref CW :: veL)) (x6 : Xl K c6 (.ref CW :: veL))
    (e0 : ErK P w K mg base c0 ["lot"]) (e1 : ErK P w K mg base c1 ["what", "number"]) (e2 : ErK P w K mg base c2 ["row"]) (e3 : ErK P w K mg base c3 ["table"]) (e4 : ErK P w K mg base c4 ["what", "value"]) (e5 : ErK P w K mg base c5 ["what", "many", "limit"]) (e6 : ErK P w K mg base c6 ["what"])
    (g0 : mg "BadLot" = some (.ref c0)) (g1 : mg "BadNumber" = some (.ref c1)) (g2 : mg "BadRow" = some (.ref c2)) (g3 : mg "BadTable" = some (.ref c3)) (g4 : mg "BadWeb" = some (.ref c4)) (g5 : mg "TooMany" = some (.ref c5)) (g6 : mg "Unlike" = some (.ref c6)) :
    Er7 K mg (fun i => ([c0, c1, c2, c3, c4, c5, c6] : List Addr).get i) := by
  have X : ∀ i : Fin 7, Xl K (([c0, c1, c2, c3, c4, c5, c6] : List Addr).get i) (.ref CW :: veL) := fun i => match i with
    | 0 => x0 | 1 => x1 | 2 => x2 | 3 => x3 | 4 => x4 | 5 => x5 | 6 => x6
  have nd2 : ([c0, c1, c2, c3, c4, c5, c6] : List Addr).Nodup := (List.nodup_cons.mp nd).2
  have nW : ∀ i : Fin 7, CW ≠ ([c0, c1, c2, c3, c4, c5, c6] : List Addr).get i := fun i z => by
    have m := List.get_mem ([c0, c1, c2, c3, c4, c5, c6] : List Addr) i
    rw [← z] at m
    exact (List.nodup_cons.mp nd).1 m
  refine ⟨fun i => ?_, fun i j => ?_, fun i => ?_, fun i => ?_⟩
  · match i with
    | 0 => exact g0
    | 1 => exact g1
    | 2 => exact g2
    | 3 => exact g3
    | 4 => exact g4
    | 5 => exact g5
    | 6 => exact g6
  · rw [(X i).exD (X j) (nW j)]
    congr 1
    by_cases h : i = j
    · subst h; simp
    · have h2 : ¬ ([c0, c1, c2, c3, c4, c5, c6] : List Addr).get i = ([c0, c1, c2, c3, c4, c5, c6] : List Addr).get j := fun z => h (Fin.ext ((List.getElem_inj nd2).mp z))
      rw [decide_eq_false h, decide_eq_false h2]
  · match i with
    | 0 => exact e0.xf
    | 1 => exact e1.xf
    | 2 => exact e2.xf
    | 3 => exact e3.xf
    | 4 => exact e4.xf
    | 5 => exact e5.xf
    | 6 => exact e6.xf
  · match i with
    | 0 => exact e0.free
    | 1 => exact e1.free
    | 2 => exact e2.free
    | 3 => exact e3.free
    | 4 => exact e4.free
    | 5 => exact e5.free
    | 6 => exact e6.free
/-- a code object's record, with its table -/
def codeHdB (vs : Array Value) (c T : Addr) : Bool := !(c == T) && (match vs.getD 18 .none with | .str _ _ => true | _ => false) && (match vs.getD 7 .none with | .int _ _ => true | _ => false) && (match vs.getD 9 .none with | .bool _ => true | _ => false) && (match vs.getD 10 .none with | .int _ _ => true | _ => false)
theorem codeHd_of {h : Heap} {c T : Addr} {dd : Option Addr} {vs : Array Value} {sl : Array (Option Value)} (X : K.In h) (l : K.lookup c = some ⟨.type "code", dd, .fields vs, sl⟩) (hT : vs[11]? = some (.ref T)) (hB : codeHdB vs c T = true) : PySem.W.CodeHd h c T := by
  unfold codeHdB at hB
  simp only [Bool.and_eq_true, Bool.not_eq_true', beq_eq_false_iff_ne, ne_eq] at hB
  obtain ⟨⟨⟨⟨h1, h2⟩, h3⟩, h4⟩, h5⟩ := hB
  have q2 : ∃ file tf, vs.getD 18 .none = .str file tf := by
    cases e : vs.getD 18 .none <;> rw [e] at h2 <;> first | exact ⟨_, _, rfl⟩ | cases h2
  have q3 : ∃ a b, vs.getD 7 .none = .int a b := by
    cases e : vs.getD 7 .none <;> rw [e] at h3 <;> first | exact ⟨_, _, rfl⟩ | cases h3
  have q4 : ∃ a, vs.getD 9 .none = .bool a := by
    cases e : vs.getD 9 .none <;> rw [e] at h4 <;> first | exact ⟨_, rfl⟩ | cases h4
  have q5 : ∃ a b, vs.getD 10 .none = .int a b := by
    cases e : vs.getD 10 .none <;> rw [e] at h5 <;> first | exact ⟨_, _, rfl⟩ | cases h5
  obtain ⟨file, tf, e2⟩ := q2
  obtain ⟨fl, tg, e3⟩ := q3
  obtain ⟨inF, e4⟩ := q4
  obtain ⟨tx, tt, e5⟩ := q5
  exact ⟨_, vs, file, tf, fl, tg, inF, tx, tt, X _ _ l, rfl, rfl, hT, by rw [Array.getD_eq_getD_getElem?, hT]; rfl, e2, e3, e4, e5, h1⟩
end
end DL

/-! D24: instances of plain classes as mutable objects: made by place and by name, fields read and written, == by identity; lists put together. -/
namespace DL
open PySem PySem.Spec PyProof.Rows L2

/-! ### fields -/
def putFD (f : Str) (v : Dt) : List (Str × Dt) → List (Str × Dt)
  | [] => [(f, v)]
  | (g, x) :: r => if g = f then (g, v) :: r else (g, x) :: putFD f v r
theorem Fts.put {K : PySem.W.Frag} {as : List Addr} {G : Hp} {f : Str} {v : V} {d : Dt} (hv : At K as G v d) : ∀ {fs : List (Str × V)} {gs : List (Str × Dt)}, Fts K as G fs gs → Fts K as G (putF f v fs) (putFD f d gs)
  | _, _, .nil => .cons hv .nil
  | _, _, .cons (f := g) h t => by
    unfold putF putFD
    by_cases e : g = f
    · rw [if_pos e, if_pos e]
      exact .cons hv t
    · rw [if_neg e, if_neg e]
      exact .cons h (Fts.put hv t)
theorem Fts.length {K : PySem.W.Frag} {as : List Addr} {G : Hp} : ∀ {fs : List (Str × V)} {gs : List (Str × Dt)}, Fts K as G fs gs → fs.length = gs.length
  | _, _, .nil => rfl
  | _, _, .cons _ t => by simp [Fts.length t]
theorem ins_at {K : PySem.W.Frag} {as : List Addr} {G H : Hp} {μ : Mu} {v : V} {k : Nat} {C : Addr} {gs : List (Str × Dt)} (m : Mem K as G H μ) (a : At K as G v (.mut k)) (h : μ[k]? = some (.ins C gs)) :
    ∃ p dx fs, v = .ref p ∧ as[k]? = some p ∧ H p = some (.ins C dx fs) ∧ Fts K as G fs gs ∧ G p = none := by
  cases a with
  | «mut» hj =>
    obtain ⟨p, o, e1, e2, ⟨dx, fs, e3, ht⟩, e4⟩ := m.cell k _ h (fun z => by cases z)
    rw [hj] at e1
    cases e1
    subst e3
    exact ⟨_, dx, fs, rfl, hj, e2, ht, e4⟩
section
variable {X : Cx} {J : JX} {e a b c o i value : Expr} {es : List Expr} {ρ : Env'} {μ : Mu} {σ : L2.St} {H : Hp} {pos : Pos} {D : DEnds} {k : Nat}
theorem dE_fldM {f : Str} {Q : Dt → Mu → Prop} (h : dE X J a ρ μ fun d μ1 => ∃ k C gs x, d = .mut k ∧ μ1[k]? = some (.ins C gs) ∧ Cls X.K C ∧ NoAttr X.K C f ∧ gs.lookup f = some x ∧ Q x μ1) (hb : attributeBase a f X.env (eval a X.env) = eval a X.env := by rfl) :
    dE X J (.Attribute a f pos) ρ μ Q := .mk fun as G H σ S => by
  refine (pe_fld peW hb).w ?_
  show wE X a σ H fun x H1 => _
  refine wE_mono (h as G H σ S) fun x H1 ⟨d, μ1, as1, G1, s1, m1, a1, k, C, gs, y, e, hk, cl, hn, hl, q⟩ => ?_
  subst e
  obtain ⟨p, dx, fs, rfl, _, e2, ht, _⟩ := ins_at m1 a1 hk
  obtain ⟨v, lv, av⟩ := ht.look hl
  exact ⟨p, C, dx, fs, v, rfl, e2, cl, hn, lv, y, μ1, as1, G1, s1, m1, av, q⟩
theorem dS_fldM {f : Str} {pos' : Pos} (h : dE X J value ρ μ fun d μ1 => dE X J o ρ μ1 fun e μ2 => ∃ k C gs, e = .mut k ∧ μ2[k]? = some (.ins C gs) ∧ Cls X.K C ∧ NoAttr X.K C f ∧ gs.length < 1000 ∧ D.nx ρ (μ2.set k (.ins C (putFD f d gs))))
    (hs : swapsWith value (some (.Attribute o f pos')) pos.line X.env = pure false := by rfl) : dS X J (.Assign [.Attribute o f pos'] value pos) ρ μ D := .mk fun as G H σ S => by
  refine (ps_fld peW peW hs).w ?_
  show wE X value σ H fun y H1 => wE X o σ H1 fun x H2 => _
  refine two S h fun y x d e μ2 as2 G2 H2 s2 m2 a1 a2 ⟨k, C, gs, e, hk, cl, hn, hl, q⟩ => ?_
  subst e
  obtain ⟨p, dx, fs, rfl, hp, e2, ht, gp⟩ := ins_at m2 a2 hk
  have m3 := m2.put (mo := .ins C (putFD f d gs)) (o := .ins C dx (putF f y fs)) hp hk (fun z => by cases z) ⟨dx, _, rfl, ht.put a1⟩
  exact ⟨p, C, dx, fs, rfl, e2, cl, hn, by rw [ht.length]; exact hl, ρ, _, as2, G2, s2.trans (.put m2 hp), m3, S.sl.mono (s2.trans (.put (o := .ins C dx (putF f y fs)) m2 hp)), q⟩

/-! ### instances made -/
theorem guards_make {A : Around} {C : Addr} {us : List Value} {kw : List (Str × Value)} (h : A.guards = some []) : (A.under (.builtin "type.__call__" ⟨.ref C :: us, kw⟩)).guards = some [] := by
  first | exact h | (simpa [Around.under, Code.isGuard, guardIds] using h)
/-- what is wanted of __init__ -/
def MakesI (R : Spc) (C : Addr) (ds : List Dt) (μ : Mu) (Q : Dt → Mu → Prop) : Prop :=
  mfs ds = true ∧ R (.mut 0 :: ds) [.ins C []] (fun d μ' => d = .non ∧ ∃ fs, μ'[0]? = some (.ins C fs) ∧ mff fs = true ∧ Q (.mut μ.length) (μ ++ [.ins C fs])) J0
theorem run_newI {pins : List (Addr × Obj)} {s : Shared} {as : List Addr} {G : Hp} {us zs : List Value} {kw : List (Str × Value)} {vs : List V} {ds : List Dt} {C f x : Addr} {fd : FuncData} {ps : List Str} {R : Spc} {Q : Dt → Mu → Prop}
    (M : Mk X.K C f) (F : FnG X.prog X.w X.K X.mg X.base k f fd ps R) (hr : Room (k + 1) X.A) (hgd : X.A.guards = some []) (I : Inv X pins σ H s) (m : Mem X.K as G H μ) (av : Ats X.K as G vs ds) (r : Vals vs (us ++ zs))
    (hb : ∀ (s : Shared) (self : Value), X.K.In s.heap → BindsTo s fd ⟨self :: us, kw⟩ (ps.zip (self :: (us ++ zs)))) (q : MakesI R C ds μ Q) :
    wpAny (model X.prog X.w) X.A (call (.ref C) us kw) (EP X pins σ (AfE X.K as G H Q)) X.xe s := by
  obtain ⟨mf, q⟩ := q
  have I2 := Inv.made (C := C) I
  have n0 : H s.heap.objs.size = none := I.hok.fresh (Nat.le_refl _)
  have n1 : upd H s.heap.objs.size (.own (s.heap.objs.size + 1)) (s.heap.objs.size + 1) = none := by
    rw [upd_ne (Nat.succ_ne_self _)]
    exact I.hok.fresh (Nat.le_succ _)
  have ma := m.aside (o := .own (s.heap.objs.size + 1)) n0
  have sa := Step.aside (o := .own (s.heap.objs.size + 1)) m n0
  have mb := ma.layM (o := .ins C s.heap.objs.size []) (mo := .ins C []) n1 ⟨_, [], rfl, .nil⟩
  have sb := sa.trans (Step.layM (o := .ins C s.heap.objs.size []) ma n1)
  have hk : (as ++ [s.heap.objs.size + 1])[μ.length]? = some (s.heap.objs.size + 1) := by rw [← m.len]; simp
  have h0 : (μ ++ [Mo.ins C []])[μ.length]? = some (.ins C []) := by simp
  have gx : G (s.heap.objs.size + 1) = none := ma.same.free n1
  have r2 : Vals (V.ref (s.heap.objs.size + 1) :: vs) (Value.ref (s.heap.objs.size + 1) :: (us ++ zs)) := .cons rfl r
  have sp : spD X.K R (V.ref (s.heap.objs.size + 1) :: vs) (upd (upd H s.heap.objs.size (.own (s.heap.objs.size + 1))) (s.heap.objs.size + 1) (.ins C s.heap.objs.size [])) (fun v H' => v = .non ∧ AfE X.K as G H Q (.ref (s.heap.objs.size + 1)) H') (fun _ _ _ => False) := by
    refine ⟨[s.heap.objs.size + 1], G, .mut 0 :: ds, [.ins C []], _, _, ⟨mb.same, rfl, fun j mo hj hg => ?_, by simp, fun a h => ?_⟩, .cons (.mut rfl) (av.free mf), q, ?_, fun cls d H' ⟨_, _, _, _, _, _, _, _, _, j⟩ => j⟩
    · have : j = 0 := by
        have := (List.getElem?_eq_some_iff.mp hj).1
        simpa using this
      subst this
      simp at hj
      subst hj
      exact ⟨_, _, rfl, upd_same, ⟨_, [], rfl, .nil⟩, gx⟩
    · have : a = s.heap.objs.size + 1 := by simpa using h
      subst this
      rw [upd_same]
      simp
    · rintro v H' ⟨d, μ', as', G', t, m', a', rfl, fs, h1, f1, q⟩
      cases a'
      refine ⟨rfl, ?_⟩
      obtain ⟨t2, m2⟩ := lift1 mb hk h0 (fun z => by cases z) t m' h1 (fun z => by cases z) f1
      have e : (μ ++ [Mo.ins C []]).set μ.length (.ins C fs) = μ ++ [.ins C fs] := by simp
      rw [e] at m2
      exact ⟨.mut μ.length, _, _, G', sb.trans t2, m2, .mut hk, q⟩
  have hl : (us ++ zs).length + 1 = ps.length := by
    have := F.len _ _ _ _ q
    rw [← this, List.length_cons, ← av.length, r.length]
  refine wpAny_call (make_map (f := f) I.kIn M.makes M.init (beq_iff_eq.mp M.fn) (codeAny_mono (F.run _ X.stack _ _ ⟨Value.ref (s.heap.objs.size + 1) :: us, kw⟩ (Value.ref (s.heap.objs.size + 1) :: (us ++ zs)) _ _ _ (hr.make C us kw) (guards_make hgd)
    (I2.env0.make C us kw) (hb _ _ I2.kIn) r2 sp) fun r s' hq' => ?_))
  cases r with
  | error e =>
    obtain ⟨_, _, _, _, _, _, _, _, _, _, _, _, z⟩ := hq'
    exact z.elim
  | ok fl =>
    cases fl with
    | ret u =>
      obtain ⟨v, H', I3, rv, ev, q3⟩ := I2.after hq'
      subst ev
      exact ⟨rv, ⟨V.ref (s.heap.objs.size + 1), H', I3, rfl, q3⟩⟩
    | next => exact False.elim hq'
    | brk => exact False.elim hq'
    | cont => exact False.elim hq'
/-- what is known of a plain class: its fields in order -/
structure ClsI (P : Program) (w : World) (K : PySem.W.Frag) (mg : Str → Option Value) (base : Heap) (C : Addr) (names : List Str) (R : Spc) : Prop where
  ex : ∃ f fd, Mk K C f ∧ FnG P w K mg base 2 f fd ("self" :: names) R ∧ Binds K fd ("self" :: names) [] ∧
    ∀ (s : Shared) (self : Value) (ws : List Value), ws.length = names.length → BindsTo s fd ⟨[self], names.reverse.zip ws⟩ ((("self" : Str) :: names).zip (self :: ws.reverse))
theorem dE_new {x : Str} {p : Pos} {C : Addr} {names : List Str} {R : Spc} {Q : Dt → Mu → Prop} (ci : ClsI X.prog X.w X.K X.mg X.base C names R) (hr : Room 3 X.A) (hgd : X.A.guards = some []) (hm : X.mg x = some (.ref C))
    (h : dA X J (e :: es) ρ μ fun ds μ1 => MakesI R C ds μ1 Q)
    (hg : Gl X x := by rfl) (hdb : (x == ("__debug__" : Str)) = false := by decide) (he : starEach (e :: es) X.env = (false, eval e X.env) :: starEach es X.env := by rfl) (hpl : (backTo pos (starEach es X.env)).any (·.1) = false := by rfl) :
    dE X J (.Call (.Name x p) (e :: es) [] pos) ρ μ Q := .mk fun as G H σ S pins s I => by
  obtain ⟨f, fd, M, F, b1, _⟩ := ci.ex
  refine wpAny_Call_Name_kw (ld_glob I hg hm ?_ hdb)
  refine PySem.W.callWith_K (h₀ := X.base) I.ok.mod.kin M.kp (thn (h as G H σ S pos pins s I) fun us s1 ⟨vs, H1, I1, r, ds, μ1, as1, G1, t, m, av, q⟩ => ⟨I1.kIn, ?_⟩) he hpl
  have hl : us.length + 1 = (("self" : Str) :: names).length := by
    have := F.len _ _ _ _ q.2
    rw [← this, List.length_cons, ← av.length, r.length]
  refine thn (run_newI (x := C) (us := us) (zs := []) (kw := []) M F hr hgd I1 m av (by rw [List.append_nil]; exact r) (fun s self ki => ?_) q) fun u s2 ⟨v, H2, I2, rv, q2⟩ => ⟨v, H2, I2, rv, q2.back t⟩
  have b := b1 s (self :: us) ki (by rw [List.append_nil]; simpa using hl)
  rw [List.append_nil] at b
  rw [List.append_nil]
  exact b
theorem dE_newK {x : Str} {p : Pos} {C : Addr} {names : List Str} {R : Spc} {kws : List Keyword} {Q : Dt → Mu → Prop} (ci : ClsI X.prog X.w X.K X.mg X.base C names R) (hr : Room 3 X.A) (hgd : X.A.guards = some []) (hm : X.mg x = some (.ref C))
    (h : dK X J kws ρ μ fun ds μ1 => ds.length = names.length ∧ MakesI R C ds.reverse μ1 Q)
    (hks : (backToKw pos (keywordEach kws X.env)).filterMap (·.1) = names.reverse := by rfl) (hall : (backToKw pos (keywordEach kws X.env)).all (·.1.isSome) = true := by rfl)
    (hg : Gl X x := by rfl) (hdb : (x == ("__debug__" : Str)) = false := by decide)
    (hpl : ((backTo pos (starEach [] X.env)).any (·.1) || (backToKw pos (keywordEach kws X.env)).any (·.1.isNone)) = false := by rfl) :
    dE X J (.Call (.Name x p) [] kws pos) ρ μ Q := .mk fun as G H σ S pins s I => by
  obtain ⟨f, fd, M, F, _, b2⟩ := ci.ex
  refine wpAny_Call_Name_kw (ld_glob I hg hm ?_ hdb)
  refine PySem.W.callWith_KW0 (h₀ := X.base) I.ok.mod.kin M.kp hall (thn (h as G H σ S pos pins s I) fun us s1 ⟨vs, H1, I1, r, ds, μ1, as1, G1, t, m, av, hl, q⟩ => ⟨I1.kIn, ?_⟩) hpl
  rw [hks]
  refine thn (run_newI (x := C) (us := []) (zs := us.reverse) (kw := names.reverse.zip us) M F hr hgd I1 m av.rev (by rw [List.nil_append]; exact vals_rev r) (fun s self ki => ?_) q) fun u s2 ⟨v, H2, I2, rv, q2⟩ => ⟨v, H2, I2, rv, q2.back t⟩
  rw [List.nil_append]
  exact b2 s self us (by rw [← r.length, av.length, hl])

/-! ### == of instances -/
structure CmpC (K : PySem.W.Frag) (C : Addr) : Prop where
  ex : ∃ nm q N bs hd sn sub ab col dd k0 k1 k2 k3 k5 nid, K.lookup C = some (excClassObj nm q C N bs [.type "object"] hd sn sub ab col dd k0 k1 k2 k3 k5 nid) ∧ PySem.W.nsOkIn K N = true ∧ PySem.W.nsIn K N "__eq__" = some none ∧ PySem.W.nsIn K N "__ne__" = some none
theorem CmpC.at_ {K : PySem.W.Frag} {C : Addr} (c : CmpC K C) {h : Heap} (X : K.In h) {x dx : Addr} (hx : h.get? x = some (PySem.W.instObj C dx)) : h.CmpInst x C [.type "object"] := by
  obtain ⟨nm, q, N, bs, hd, sn, sub, ab, col, dd, k0, k1, k2, k3, k5, nid, h1, h2, h3, h4⟩ := c.ex
  exact ⟨_, nm, q, N, bs, hd, sn, sub, ab, col, dd, k0, k1, k2, k3, k5, nid, h.nsMap N, hx, rfl, X _ _ h1, .of_isNs (PySem.W.isNs_of_in X h2), PySem.W.nsMap_none_of_in X h2 h3, PySem.W.nsMap_none_of_in X h2 h4⟩
def rdI2 (K : PySem.W.Frag) (g : Nat → Nat → Bool) : Dt → Dt → Mu → (Dt → Mu → Prop) → Prop := fun d e μ Q => ∃ i j C D fs gs, d = .mut i ∧ e = .mut j ∧ μ[i]? = some (.ins C fs) ∧ μ[j]? = some (.ins D gs) ∧ CmpC K C ∧ CmpC K D ∧ Q (.bl (g i j)) μ
def rI2 (K : PySem.W.Frag) (b : Bool) : R2 := fun x y H Q => ∃ p r C D dx dy fs gs, x = .ref p ∧ y = .ref r ∧ H p = some (.ins C dx fs) ∧ H r = some (.ins D dy gs) ∧ CmpC K C ∧ CmpC K D ∧ Q (.bl (xor b (decide (p = r)))) H
theorem op_eqI2 (hu : X.A.units + 1 < cLine) : OpR X (compareOp .Eq) (rI2 X.K false) := by
  intro pins s σ H x y v u Q I rx ry h
  obtain ⟨p, r, C, D, dx, dy, fs, gs, rfl, rfl, hp, hr, cp, cr, q⟩ := h
  obtain rfl : v = Value.ref p := rx
  obtain rfl : u = Value.ref r := ry
  obtain ⟨_, _, _, op, _⟩ := I.hok p _ hp
  obtain ⟨_, _, _, or, _⟩ := I.hok r _ hr
  obtain ⟨hh, g, d, t, os⟩ := s
  by_cases e : p = r
  · subst e
    refine compareOp_eq_same F.cmp_object (cp.at_ I.kIn op) (Nat.lt_of_succ_lt hu) ⟨.bl true, H, I, rfl, ?_⟩
    rw [decide_eq_true rfl] at q
    exact q
  · refine compareOp_eq_other F.cmp_object F.cmp_object (cp.at_ I.kIn op) (cr.at_ I.kIn or) e (Nat.lt_of_succ_lt hu) ⟨.bl false, H, I, rfl, ?_⟩
    rw [decide_eq_false e] at q
    exact q
theorem op_neI2 (hu : X.A.units + 1 < cLine) : OpR X (compareOp .NotEq) (rI2 X.K true) := by
  intro pins s σ H x y v u Q I rx ry h
  obtain ⟨p, r, C, D, dx, dy, fs, gs, rfl, rfl, hp, hr, cp, cr, q⟩ := h
  obtain rfl : v = Value.ref p := rx
  obtain rfl : u = Value.ref r := ry
  obtain ⟨_, _, _, op, _⟩ := I.hok p _ hp
  obtain ⟨_, _, _, or, _⟩ := I.hok r _ hr
  obtain ⟨hh, g, d, t, os⟩ := s
  by_cases e : p = r
  · subst e
    refine compareOp_ne_same F.cmp_object (cp.at_ I.kIn op) hu ⟨.bl false, H, I, rfl, ?_⟩
    rw [decide_eq_true rfl] at q
    exact q
  · refine compareOp_ne_other F.cmp_object F.cmp_object (cp.at_ I.kIn op) (cr.at_ I.kIn or) e hu ⟨.bl true, H, I, rfl, ?_⟩
    rw [decide_eq_false e] at q
    exact q
theorem rrI2 {K : PySem.W.Frag} {b : Bool} : RRel K (rI2 K b) (rdI2 K fun i j => xor b (decide (i = j))) := by
  intro as G H μ x y d e Q Q' m a1 a2 h f
  obtain ⟨i, j, C, D, fs, gs, rfl, rfl, hi, hj, c1, c2, q⟩ := h
  obtain ⟨p, dx, fs', rfl, ap, e2, _, _⟩ := ins_at m a1 hi
  obtain ⟨r, dy, gs', rfl, ar, e3, _, _⟩ := ins_at m a2 hj
  refine ⟨p, r, C, D, dx, dy, fs', gs', rfl, rfl, e2, e3, c1, c2, f _ _ ?_⟩
  have e : decide (p = r) = decide (i = j) := by
    by_cases h : i = j
    · subst h
      rw [ap] at ar
      cases ar
      rw [decide_eq_true rfl, decide_eq_true rfl]
    · rw [decide_eq_false h, decide_eq_false fun z => h (by
        subst z
        obtain ⟨l1, f1⟩ := List.getElem?_eq_some_iff.mp ap
        obtain ⟨l2, f2⟩ := List.getElem?_eq_some_iff.mp ar
        exact (List.getElem_inj m.nd).mp (f1.trans f2.symm))]
  rw [e]
  exact .now m (.bl _) q
theorem od_eqI2 (hu : X.A.units + 1 < cLine) : OpD X (compareOp .Eq) (rdI2 X.K fun i j => xor false (decide (i = j))) := ⟨_, op_eqI2 hu, rrI2⟩
theorem od_neI2 (hu : X.A.units + 1 < cLine) : OpD X (compareOp .NotEq) (rdI2 X.K fun i j => xor true (decide (i = j))) := ⟨_, op_neI2 hu, rrI2⟩
/-! ### lists put together -/
theorem od_catM : OpD X (binaryOp .Add) (fun d e μ Q => ∃ i j xs ys, d = .mut i ∧ e = .mut j ∧ μ[i]? = some (.lst xs) ∧ μ[j]? = some (.lst ys) ∧ xs.length + ys.length ≤ sizeLine ∧ Q (.mut μ.length) (μ ++ [.lst (xs ++ ys)])) := by
  refine ⟨_, op_cat, ?_⟩
  intro as G H μ x y d e Q Q' m a1 a2 h f
  obtain ⟨i, j, xs, ys, rfl, rfl, hi, hj, hl, q⟩ := h
  cases a1 with
  | «mut» h1 =>
    cases a2 with
    | «mut» h2 =>
      obtain ⟨p, o, e1, e2, ⟨vs, rfl, t1⟩, _⟩ := m.cell i _ hi (fun z => by cases z)
      obtain ⟨r, o2, e3, e4, ⟨ws, rfl, t2⟩, _⟩ := m.cell j _ hj (fun z => by cases z)
      rw [h1] at e1
      cases e1
      rw [h2] at e3
      cases e3
      exact ⟨_, _, vs, ws, rfl, rfl, e2, e4, by rw [t1.length, t2.length]; exact hl, fun p hp => f _ _ (AfE.layM (mo := .lst (xs ++ ys)) m hp ⟨_, rfl, t1.append t2⟩ q)⟩
end
end DL

/-! D25: instances without fields; calls and makings to which all mutable objects go along. -/
namespace DL
open PySem PySem.Spec PyProof.Rows L2
section
variable {X : Cx} {J : JX} {e a b c o i value : Expr} {es : List Expr} {ρ : Env'} {μ : Mu} {σ : L2.St} {H : Hp} {pos : Pos} {D : DEnds} {k : Nat} {ps : List Str} {R : Spc}
theorem dE_goA0 {x : Str} {p : Pos} {Q : Dt → Mu → Prop} (F : DefP X.prog X.w X.K X.mg X.base k x ps R) (hr : Room k X.A) (hgd : X.A.guards = some []) (h : R [] μ Q J)
    (hg : Gl X x := by rfl) (hdb : (x == ("__debug__" : Str)) = false := by decide) : dE X J (.Call (.Name x p) [] [] pos) ρ μ Q := .mk fun as G H σ S pins s I => by
  obtain ⟨f, fd, F, hm, hk, hb⟩ := F.ex
  refine wpAny_Call_Name_kw (ld_glob I hg hm ?_ hdb)
  exact PySem.W.callWith_K0 I.kIn hk <| run_fnG (us := []) (Q := AfE X.K as G H Q) F hr hgd hb S.tk I .nil ⟨as, G, [], μ, Q, J, S.mem, .nil, h, fun _ _ z => z, fun _ _ _ z => z⟩
/-- an instance of a class without fields -/
theorem dE_new0 {x : Str} {p : Pos} {C : Addr} {Q : Dt → Mu → Prop} (mk : PySem.W.makesIn X.K C = true) (hi : PySem.W.findIn X.K (.ref C) "__init__" = some (some (.builtin "object.__init__"))) (kp : PySem.W.keepIn X.K (.ref C) = true) (hm : X.mg x = some (.ref C))
    (q : Q (.mut μ.length) (μ ++ [.ins C []])) (hg : Gl X x := by rfl) (hdb : (x == ("__debug__" : Str)) = false := by decide) : dE X J (.Call (.Name x p) [] [] pos) ρ μ Q := .mk fun as G H σ S pins s I => by
  refine wpAny_Call_Name_kw (ld_glob I hg hm ?_ hdb)
  refine PySem.W.callWith_K0 I.kIn kp ?_
  have Y := PySem.W.makes_of (M := model X.prog X.w) I.kIn mk
  have I2 := Inv.made (C := C) I
  have n0 : H s.heap.objs.size = none := I.hok.fresh (Nat.le_refl _)
  have n1 : upd H s.heap.objs.size (.own (s.heap.objs.size + 1)) (s.heap.objs.size + 1) = none := by
    rw [upd_ne (Nat.succ_ne_self _)]
    exact I.hok.fresh (Nat.le_succ _)
  have ma := S.mem.aside (o := .own (s.heap.objs.size + 1)) n0
  have sa := Step.aside (o := .own (s.heap.objs.size + 1)) S.mem n0
  have mb := ma.layM (o := .ins C s.heap.objs.size []) (mo := .ins C []) n1 ⟨_, [], rfl, .nil⟩
  have sb := sa.trans (Step.layM (o := .ins C s.heap.objs.size []) ma n1)
  have hk : (as ++ [s.heap.objs.size + 1])[μ.length]? = some (s.heap.objs.size + 1) := by rw [← S.mem.len]; simp
  refine wpAny_call (make_map0 I.kIn mk hi (fun self => PySem.W.Looks.of_pure (PySem.W.oi_bind self)) ?_)
  obtain ⟨_, _, _, ho, _⟩ := I2.hok _ _ upd_same
  have t1 : PySem.W.Looks (model X.prog X.w) ((s.heap.push PySem.W.emptyDict).push (PySem.W.instObj C s.heap.objs.size)) (typeOf (.ref (s.heap.objs.size + 1))) (.ref C) := (PySem.W.Looks.ld ho).andThen .now
  have t2 : PySem.W.Looks (model X.prog X.w) ((s.heap.push PySem.W.emptyDict).push (PySem.W.instObj C s.heap.objs.size)) (isInstance (.ref (s.heap.objs.size + 1)) (.type "object")) true := t1.andThen (Y.top.keeps fun b o e => Heap.get?_push_of_some _ (Heap.get?_push_of_some _ e))
  refine codeAny_call_builtin PySem.W.oi_plain PySem.W.entry_oi (@PySem.W.check_slot (model X.prog X.w) _ _ _ "object.__init__" "object" "__init__" (.ref (s.heap.objs.size + 1)) [] [] _ PySem.W.oi_kind PySem.W.oi_split t2 (PySem.W.oi_args (.ref (s.heap.objs.size + 1))) ?_)
  rw [PySem.W.oi_run]
  exact wpAny_pure (And.intro rfl ⟨V.ref (s.heap.objs.size + 1), _, I2, rfl, .mut μ.length, _, _, G, sb, mb, .mut hk, q⟩)
/-- C(..), all mutable objects go along to __init__ -/
theorem dE_newA {x : Str} {p : Pos} {C f : Addr} {fd : FuncData} {names : List Str} {Q : Dt → Mu → Prop} (M : Mk X.K C f) (F : FnG X.prog X.w X.K X.mg X.base k f fd ("self" :: names) R) (b1 : Binds X.K fd ("self" :: names) []) (hr : Room (k + 1) X.A) (hgd : X.A.guards = some []) (hm : X.mg x = some (.ref C))
    (h : dA X J (e :: es) ρ μ fun ds μ1 => R (.mut μ1.length :: ds) (μ1 ++ [.ins C []]) (fun d μ' => d = .non ∧ Q (.mut μ1.length) μ') J0)
    (hg : Gl X x := by rfl) (hdb : (x == ("__debug__" : Str)) = false := by decide) (he : starEach (e :: es) X.env = (false, eval e X.env) :: starEach es X.env := by rfl) (hpl : (backTo pos (starEach es X.env)).any (·.1) = false := by rfl) :
    dE X J (.Call (.Name x p) (e :: es) [] pos) ρ μ Q := .mk fun as G H σ S pins s I => by
  refine wpAny_Call_Name_kw (ld_glob I hg hm ?_ hdb)
  refine PySem.W.callWith_K (h₀ := X.base) I.ok.mod.kin M.kp (thn (h as G H σ S pos pins s I) fun us s1 ⟨vs, H1, I1, r, ds, μ1, as1, G1, t, m, av, q⟩ => ⟨I1.kIn, ?_⟩) he hpl
  have I2 := Inv.made (C := C) I1
  have n0 : H1 s1.heap.objs.size = none := I1.hok.fresh (Nat.le_refl _)
  have n1 : upd H1 s1.heap.objs.size (.own (s1.heap.objs.size + 1)) (s1.heap.objs.size + 1) = none := by
    rw [upd_ne (Nat.succ_ne_self _)]
    exact I1.hok.fresh (Nat.le_succ _)
  have ma := m.aside (o := .own (s1.heap.objs.size + 1)) n0
  have sa := Step.aside (o := .own (s1.heap.objs.size + 1)) m n0
  have mb := ma.layM (o := .ins C s1.heap.objs.size []) (mo := .ins C []) n1 ⟨_, [], rfl, .nil⟩
  have sb := sa.trans (Step.layM (o := .ins C s1.heap.objs.size []) ma n1)
  have hk : (as1 ++ [s1.heap.objs.size + 1])[μ1.length]? = some (s1.heap.objs.size + 1) := by rw [← m.len]; simp
  have sp : spD X.K R (V.ref (s1.heap.objs.size + 1) :: vs) (upd (upd H1 s1.heap.objs.size (.own (s1.heap.objs.size + 1))) (s1.heap.objs.size + 1) (.ins C s1.heap.objs.size [])) (fun v H' => v = .non ∧ AfE X.K as1 G1 H1 Q (.ref (s1.heap.objs.size + 1)) H') (fun _ _ _ => False) := by
    refine ⟨_, G1, .mut μ1.length :: ds, _, _, _, mb, .cons (.mut hk) (av.mono sb.gg sb.ix), q, ?_, fun cls d H' ⟨_, _, _, _, _, _, _, _, _, j⟩ => j⟩
    rintro v H' ⟨d, μ', as', G', t2, m', a', rfl, q⟩
    cases a'
    exact ⟨rfl, .mut μ1.length, μ', as', G', sb.trans t2, m', .mut (t2.ix _ _ hk), q⟩
  have hl : us.length + 1 = (("self" : Str) :: names).length := by
    have := F.len _ _ _ _ q
    rw [← this, List.length_cons, ← av.length, r.length]
  have b := b1 s1 (Value.ref (s1.heap.objs.size + 1) :: us) I1.kIn (by rw [List.append_nil]; simpa using hl)
  rw [List.append_nil] at b
  have z : wpAny (model X.prog X.w) X.A (call (.ref C) us []) (EP X pins σ (AfE X.K as1 G1 H1 Q)) X.xe s1 := by
    have b2 := b1 { s1 with heap := (s1.heap.push PySem.W.emptyDict).push (PySem.W.instObj C s1.heap.objs.size) } (Value.ref (s1.heap.objs.size + 1) :: us) I2.kIn (by rw [List.append_nil]; simpa using hl)
    rw [List.append_nil] at b2
    refine wpAny_call (make_map (f := f) I1.kIn M.makes M.init (beq_iff_eq.mp M.fn) (codeAny_mono (F.run _ X.stack _ _ ⟨Value.ref (s1.heap.objs.size + 1) :: us, []⟩ (Value.ref (s1.heap.objs.size + 1) :: us) _ _ _ (hr.make C us []) (guards_make hgd)
      (I2.env0.make C us []) b2 (show Vals (V.ref (s1.heap.objs.size + 1) :: vs) (Value.ref (s1.heap.objs.size + 1) :: us) from .cons rfl r) sp) fun r s' hq' => ?_))
    cases r with
    | error e =>
      obtain ⟨_, _, _, _, _, _, _, _, _, _, _, _, z⟩ := hq'
      exact z.elim
    | ok fl =>
      cases fl with
      | ret u =>
        obtain ⟨v, H', I3, rv, ev, q3⟩ := I2.after hq'
        subst ev
        exact ⟨rv, ⟨V.ref (s1.heap.objs.size + 1), H', I3, rfl, q3⟩⟩
      | next => exact False.elim hq'
      | brk => exact False.elim hq'
      | cont => exact False.elim hq'
  exact thn z fun u s2 ⟨v, H2, I2, rv, q2⟩ => ⟨v, H2, I2, rv, q2.back t⟩
end
end DL

/-! D26: ints in lists and tuples; tuples and lists put together and repeated; sorted ints and pairs. -/
namespace DL
open PySem PySem.Spec PyProof.Rows L2

theorem ats_int {K : PySem.W.Frag} {as : List Addr} {G : Hp} : ∀ {is : List Int} {vs : List V}, Ats K as G vs (is.map Dt.int) → vs = is.map V.int
  | [], _, .nil => rfl
  | _ :: _, _, .cons h t => by
    cases h
    rw [ats_int t]
    rfl
theorem inV_ints {i : Int} : ∀ {is : List Int}, inV (.int i) (is.map V.int) = is.contains i
  | [] => rfl
  | j :: r => by
    have e := inV_ints (i := i) (is := r)
    unfold inV at e ⊢
    rw [List.map_cons, List.any_cons, e, List.contains_cons]
    show ((j == i) || _) = _
    rw [show (j == i) = (i == j) from by rw [Bool.eq_iff_iff, beq_iff_eq, beq_iff_eq]; exact eq_comm]
theorem flat_ints : ∀ {is : List Int}, (is.map V.int).all flatV = true
  | [] => rfl
  | _ :: r => by rw [List.map_cons, List.all_cons, flat_ints (is := r)]; rfl
section
variable {X : Cx} {J : JX} {e a b c o i : Expr} {es : List Expr} {ρ : Env'} {μ : Mu} {σ : L2.St} {H : Hp} {pos : Pos}
theorem rrIn {K : PySem.W.Frag} {neg : Bool} : RRel K (rIn K neg) (fun d e μ Q => ∃ (i : Int) (is : List Int), d = .int i ∧ seqM μ e = some (is.map .int) ∧ Q (.bl (if neg then !is.contains i else is.contains i)) μ) := by
  intro as G H μ x y d e Q Q' m a1 a2 h f
  obtain ⟨i, is, rfl, hs, q⟩ := h
  cases a1
  obtain ⟨p, zs, rfl, hx, hq⟩ := seq_at m a2 hs
  have e := ats_int hx
  subst e
  refine ⟨p, _, rfl, hq.imp (·.1) (·.1), rfl, flat_ints, f _ _ ?_⟩
  rw [inV_ints]
  exact .now m (.bl _) q
theorem od_inI : OpD X (compareOp .In) (fun d e μ Q => ∃ (i : Int) (is : List Int), d = .int i ∧ seqM μ e = some (is.map .int) ∧ Q (.bl (is.contains i)) μ) := ⟨_, op_in_seq, rrIn⟩
/-- tuples put together -/
theorem od_catT : OpD X (binaryOp .Add) (fun d e μ Q => ∃ xs ys, d = .tup xs ∧ e = .tup ys ∧ xs.length + ys.length ≤ sizeLine ∧ Q (.tup (xs ++ ys)) μ) := by
  refine ⟨_, op_catA, ?_⟩
  intro as G H μ x y d e Q Q' m a1 a2 h f
  obtain ⟨xs, ys, rfl, rfl, hl, q⟩ := h
  cases a1 with
  | tup h1 t1 =>
    cases a2 with
    | tup h2 t2 =>
      rename_i p vs r ws
      refine ⟨p, r, vs, ws, rfl, rfl, Same.tup m.same h1, Same.tup m.same h2, by rw [t1.length, t2.length]; exact hl, fun e => f _ _ ?_, fun e1 e2 => f _ _ ?_, fun _ _ u hu => f _ _ ?_⟩
      · subst e
        cases t1
        exact .now m (.tup h2 t2) q
      · subst e2
        cases t2
        rw [List.append_nil] at q
        exact .now m (.tup h1 t1) q
      · exact .lay m hu (.tup (.of upd_same) ((t1.append t2).mono (same_upd_none (m.same.free hu)) fun _ _ h => h)) q
theorem Ats.rep {K : PySem.W.Frag} {as : List Addr} {G : Hp} {vs : List V} {ds : List Dt} (h : Ats K as G vs ds) : ∀ n : Nat, Ats K as G (List.replicate n vs).flatten (List.replicate n ds).flatten
  | 0 => .nil
  | n + 1 => by
    rw [List.replicate_succ, List.replicate_succ, List.flatten_cons, List.flatten_cons]
    exact h.append (Ats.rep h n)
/-- a list that may change, so many times: a new one -/
theorem od_repM : OpD X (binaryOp .Mult) (fun d e μ Q => ∃ k n xs, d = .mut k ∧ e = .int n ∧ μ[k]? = some (.lst xs) ∧ -(2 ^ 63) ≤ n ∧ n < 2 ^ 63 ∧ xs.length * n.toNat ≤ sizeLine ∧ Q (.mut μ.length) (μ ++ [.lst (List.replicate n.toNat xs).flatten])) := by
  refine ⟨_, op_rep, ?_⟩
  intro as G H μ x y d e Q Q' m a1 a2 h f
  obtain ⟨k, n, xs, rfl, rfl, hk, h1, h2, hl, q⟩ := h
  cases a2
  cases a1 with
  | «mut» g1 =>
    obtain ⟨p, o, e1, e2, ⟨vs, rfl, t1⟩, _⟩ := m.cell k _ hk (fun z => by cases z)
    rw [g1] at e1
    cases e1
    exact ⟨_, n, vs, rfl, rfl, e2, h1, h2, by rw [t1.length]; exact hl, fun u hu => f _ _ (AfE.layM (mo := .lst (List.replicate n.toNat xs).flatten) m hu ⟨_, rfl, t1.rep _⟩ q)⟩
/-- a tuple, so many times -/
theorem od_repT : OpD X (binaryOp .Mult) (fun d e μ Q => ∃ n xs, d = .tup xs ∧ e = .int n ∧ xs ≠ [] ∧ 2 ≤ n ∧ n ≤ 1000 ∧ xs.length ≤ 1000 ∧ Q (.tup (List.replicate n.toNat xs).flatten) μ) := by
  refine ⟨_, op_repT, ?_⟩
  intro as G H μ x y d e Q Q' m a1 a2 h f
  obtain ⟨n, xs, rfl, rfl, hx, h1, h2, hl, q⟩ := h
  cases a2
  cases a1 with
  | tup g1 t1 =>
    rename_i p vs
    refine ⟨p, n, vs, rfl, rfl, Same.tup m.same g1, fun z => hx ?_, h1, h2, by rw [t1.length]; exact hl, fun u hu => f _ _ (.lay m hu (.tup (.of upd_same) ((t1.rep _).mono (same_upd_none (m.same.free hu)) fun _ _ h => h)) q)⟩
    subst z
    cases t1
    rfl

/-! ### sorted -/
/-- ints in order -/
def insI (x : Int) : List Int → List Int
  | [] => [x]
  | y :: r => if x ≤ y then x :: y :: r else y :: insI x r
def srtI : List Int → List Int
  | [] => []
  | x :: r => insI x (srtI r)
theorem insI_perm (x : Int) : ∀ l : List Int, (insI x l).Perm (x :: l)
  | [] => .refl _
  | y :: r => by
    unfold insI
    split
    · exact .refl _
    · exact ((insI_perm x r).cons y).trans (.swap x y r)
theorem srtI_perm : ∀ l : List Int, (srtI l).Perm l
  | [] => .refl _
  | x :: r => (insI_perm x _).trans ((srtI_perm r).cons x)
theorem insI_le {x : Int} : ∀ {l : List Int}, l.Pairwise (· ≤ ·) → (insI x l).Pairwise (· ≤ ·)
  | [], _ => by simp [insI]
  | y :: r, h => by
    unfold insI
    obtain ⟨h1, h2⟩ := List.pairwise_cons.mp h
    split
    · rename_i hx
      refine List.pairwise_cons.mpr ⟨fun z hz => ?_, h⟩
      rcases List.mem_cons.mp hz with e | e
      · rw [e]; exact hx
      · exact Int.le_trans hx (h1 z e)
    · rename_i hx
      refine List.pairwise_cons.mpr ⟨fun z hz => ?_, insI_le h2⟩
      rcases List.mem_cons.mp ((insI_perm x r).mem_iff.mp hz) with e | e
      · rw [e]; omega
      · exact h1 z e
theorem srtI_le : ∀ l : List Int, (srtI l).Pairwise (· ≤ ·)
  | [] => .nil
  | x :: r => insI_le (srtI_le r)
theorem srt_uniq : ∀ {l m : List Int}, l.Perm m → l.Pairwise (· ≤ ·) → m.Pairwise (· ≤ ·) → l = m
  | [], m, p, _, _ => (List.Perm.eq_nil p.symm).symm
  | x :: l, [], p, _, _ => absurd p.length_eq (by simp)
  | x :: l, y :: m, p, hl, hm => by
    obtain ⟨l1, l2⟩ := List.pairwise_cons.mp hl
    obtain ⟨m1, m2⟩ := List.pairwise_cons.mp hm
    have e : x = y := by
      have a : x ≤ y := by
        rcases List.mem_cons.mp (p.mem_iff.mpr List.mem_cons_self) with e | e
        · rw [e]; exact Int.le_refl _
        · exact l1 y e
      have b : y ≤ x := by
        rcases List.mem_cons.mp (p.mem_iff.mp List.mem_cons_self) with e | e
        · rw [e]; exact Int.le_refl _
        · exact m1 x e
      omega
    subst e
    rw [srt_uniq p.cons_inv l2 m2]
theorem cd_sortedI : CallD X (.builtin "sorted") (fun ds μ Q => ∃ (d : Dt) (is : List Int), ds = [d] ∧ seqM μ d = some (is.map .int) ∧ (∀ zs, d ≠ .tup zs) ∧ Q (.lst ((srtI is).map .int)) μ) := by
  refine ⟨_, cr_sortedI, ?_⟩
  intro as G H μ xs ds Q Q' m a1 h f
  obtain ⟨d, is, rfl, hs, nt, q⟩ := h
  obtain ⟨x, rfl, a2⟩ := a1.one
  obtain ⟨p, zs, rfl, hx, hq⟩ := seq_at m a2 hs
  have e := ats_int hx
  subst e
  rcases hq with ⟨hq, _⟩ | ⟨_, zs, e⟩
  · refine ⟨p, is, rfl, hq, fun ns' u hp hw hu => f _ _ ?_⟩
    have e := srt_uniq (hp.trans (srtI_perm is).symm) hw (srtI_le is)
    subst e
    exact .lay m hu (.lst (.of upd_same) (ats_ints _)) q
  · exact absurd e (nt zs)
end
end DL

/-! D27: sorted of pairs of ints. -/
namespace DL
open PySem PySem.Spec PyProof.Rows L2

/-- a pair of ints as data -/
def prDt (p : Int × Int) : Dt := .tup [.int p.1, .int p.2]
def leP (p q : Int × Int) : Bool := !SrtO.lexB q p
def insP (x : Int × Int) : List (Int × Int) → List (Int × Int)
  | [] => [x]
  | y :: r => if leP x y then x :: y :: r else y :: insP x r
def srtP : List (Int × Int) → List (Int × Int)
  | [] => []
  | x :: r => insP x (srtP r)
theorem leP_iff {p q : Int × Int} : leP p q = true ↔ ¬ (q.1 < p.1 ∨ (q.1 = p.1 ∧ q.2 < p.2)) := by
  unfold leP
  rw [Bool.not_eq_true', SrtO.lexB_no]
theorem leP_no {p q : Int × Int} (h : ¬ leP p q = true) : leP q p = true := by
  rw [leP_iff] at h ⊢
  omega
theorem leP_trans {p q r : Int × Int} (h : leP p q = true) (g : leP q r = true) : leP p r = true := by
  rw [leP_iff] at h g ⊢
  omega
theorem leP_anti {p q : Int × Int} (h : leP p q = true) (g : leP q p = true) : p = q := by
  rw [leP_iff] at h g
  exact Prod.ext (by omega) (by omega)
theorem leP_refl (p : Int × Int) : leP p p = true := by
  rw [leP_iff]
  omega
theorem insP_perm (x : Int × Int) : ∀ l : List (Int × Int), (insP x l).Perm (x :: l)
  | [] => .refl _
  | y :: r => by
    unfold insP
    split
    · exact .refl _
    · exact ((insP_perm x r).cons y).trans (.swap x y r)
theorem srtP_perm : ∀ l : List (Int × Int), (srtP l).Perm l
  | [] => .refl _
  | x :: r => (insP_perm x _).trans ((srtP_perm r).cons x)
theorem insP_le {x : Int × Int} : ∀ {l : List (Int × Int)}, l.Pairwise (leP · · = true) → (insP x l).Pairwise (leP · · = true)
  | [], _ => by simp [insP]
  | y :: r, h => by
    unfold insP
    obtain ⟨h1, h2⟩ := List.pairwise_cons.mp h
    by_cases hx : leP x y = true
    · rw [if_pos hx]
      refine List.pairwise_cons.mpr ⟨fun z hz => ?_, h⟩
      rcases List.mem_cons.mp hz with e | e
      · rw [e]; exact hx
      · exact leP_trans hx (h1 z e)
    · rw [if_neg hx]
      refine List.pairwise_cons.mpr ⟨fun z hz => ?_, insP_le h2⟩
      rcases List.mem_cons.mp ((insP_perm x r).mem_iff.mp hz) with e | e
      · rw [e]; exact leP_no hx
      · exact h1 z e
theorem srtP_le : ∀ l : List (Int × Int), (srtP l).Pairwise (leP · · = true)
  | [] => .nil
  | x :: r => insP_le (srtP_le r)
theorem srtP_uniq : ∀ {l m : List (Int × Int)}, l.Perm m → l.Pairwise (leP · · = true) → m.Pairwise (leP · · = true) → l = m
  | [], m, p, _, _ => (List.Perm.eq_nil p.symm).symm
  | x :: l, [], p, _, _ => absurd p.length_eq (by simp)
  | x :: l, y :: m, p, hl, hm => by
    obtain ⟨l1, l2⟩ := List.pairwise_cons.mp hl
    obtain ⟨m1, m2⟩ := List.pairwise_cons.mp hm
    have e : x = y := by
      refine leP_anti ?_ ?_
      · rcases List.mem_cons.mp (p.mem_iff.mpr List.mem_cons_self) with e | e
        · rw [e]; exact leP_refl _
        · exact l1 y e
      · rcases List.mem_cons.mp (p.mem_iff.mp List.mem_cons_self) with e | e
        · rw [e]; exact leP_refl _
        · exact m1 x e
    subst e
    rw [srtP_uniq p.cons_inv l2 m2]
section
variable {X : Cx}
/-- values with their pairs, put in order -/
def rSrtP (K : PySem.W.Frag) : List V → Hp → VK → Prop := fun vs H Q => ∃ (a : Addr) (xs : List V) (ps : List (Int × Int)), vs = [V.ref a] ∧ SqL K H a xs ∧ xs.length = ps.length ∧ (∀ z ∈ xs.zip ps, ∃ t, z.1 = V.ref t ∧ SqT K H t [.int z.2.1, .int z.2.2]) ∧
  ∀ (zs : List (V × (Int × Int))) (u : Addr), zs.Perm (xs.zip ps) → zs.map (·.2) = srtP ps → H u = none → Q (.ref u) (upd H u (.lst (zs.map (·.1))))
theorem pair_at {pins : List (Addr × Obj)} {σ : L2.St} {H : Hp} {s : Shared} (I : Inv X pins σ H s) {t : Addr} {i j : Int} (h : SqT X.K H t [.int i, .int j]) : Srt.IsPair s.heap (.ref t) i j := by
  obtain ⟨its, rel, place, _⟩ := I.tuple h
  obtain ⟨ob, here, isTuple, cnt, holds⟩ := place
  obtain ⟨x, y, rfl, ⟨tx, rfl⟩, ⟨ty, rfl⟩⟩ := vals2 rel
  exact ⟨t, ob, tx, ty, cnt, rfl, here, isTuple, holds⟩
theorem pair_one {h : Heap} {v : Value} {i j k l : Int} (a : Srt.IsPair h v i j) (b : Srt.IsPair h v k l) : i = k ∧ j = l := by
  obtain ⟨p, o, t, u, n, rfl, e1, _, e2⟩ := a
  obtain ⟨q, o', t', u', n', e, e3, _, e4⟩ := b
  cases e
  rw [e1] at e3
  cases e3
  rw [e2] at e4
  cases e4
  exact ⟨rfl, rfl⟩
open Classical in
noncomputable def keyAt (h : Heap) (v : Value) : Int × Int := if e : ∃ p : Int × Int, Srt.IsPair h v p.1 p.2 then e.choose else (0, 0)
theorem keyAt_eq {h : Heap} {v : Value} {p : Int × Int} (a : Srt.IsPair h v p.1 p.2) : keyAt h v = p := by
  have e : ∃ p : Int × Int, Srt.IsPair h v p.1 p.2 := ⟨p, a⟩
  unfold keyAt
  rw [dif_pos e]
  obtain ⟨h1, h2⟩ := pair_one e.choose_spec a
  exact Prod.ext h1 h2
theorem cr_srtP : CallR X (.builtin "sorted") (rSrtP X.K) := by
  intro pins s σ H vs us Q I rv h
  obtain ⟨a, xs, ps, rfl, hs, hl, hp, q⟩ := h
  obtain ⟨its, rx, place, hz⟩ := I.list hs
  obtain ⟨u, rfl, ru⟩ := vals1 rv
  obtain rfl : u = Value.ref a := ru
  have one : ∀ z ∈ xs.zip ps, ∃ t, z.1 = V.ref t ∧ Srt.IsPair s.heap (.ref t) z.2.1 z.2.2 := fun z m => by
    obtain ⟨t, e, g⟩ := hp z m
    exact ⟨t, e, pair_at I g⟩
  have back : ∀ (xs : List V) (ps : List (Int × Int)) (its : List Value), Vals xs its → xs.length = ps.length → (∀ z ∈ xs.zip ps, ∃ t, z.1 = V.ref t ∧ Srt.IsPair s.heap (.ref t) z.2.1 z.2.2) →
      its.map (fun v => (backV v, keyAt s.heap v)) = xs.zip ps ∧ (∀ v ∈ its, ∃ t, v = Value.ref t ∧ Srt.IsPair s.heap v (keyAt s.heap v).1 (keyAt s.heap v).2) := by
    intro xs
    induction xs with
    | nil =>
      intro ps its r hl hp
      cases r
      exact ⟨by simp, fun v hv => by simp at hv⟩
    | cons x xr ih =>
      intro ps its r hl hp
      cases r with
      | cons r1 r2 =>
        cases ps with
        | nil => simp at hl
        | cons p pr =>
          rename_i y yr
          obtain ⟨t, e, g⟩ := hp (x, p) (by simp)
          obtain rfl : x = V.ref t := e
          obtain rfl : y = Value.ref t := r1
          obtain ⟨h1, h2⟩ := ih pr yr r2 (by simpa using hl) fun z hz => hp z (by simp [hz])
          have k := keyAt_eq (p := p) g
          refine ⟨by rw [List.map_cons, h1, k]; rfl, fun v hv => ?_⟩
          rcases List.mem_cons.mp hv with e | e
          · rw [e, k]
            exact ⟨t, rfl, g⟩
          · exact h2 v e
  obtain ⟨b1, b2⟩ := back xs ps its rx hl one
  refine SrtO.sorted_pairsO (k := keyAt s.heap) place.isList (by rw [← rx.length]; exact hz) (fun v hv => (b2 v hv).choose_spec.2) fun h2 d out srt stb keep fresh there => ?_
  have refs : ∀ v ∈ out, ∃ t, v = Value.ref t := fun v hv => by
    obtain ⟨t, e, _⟩ := b2 v (stb.perm.mem_iff.mp hv)
    exact ⟨t, e⟩
  obtain ⟨cnt, there⟩ := there
  have pz : (out.map fun v => (backV v, keyAt s.heap v)).Perm (xs.zip ps) := by
    rw [← b1]
    exact stb.perm.map _
  have e1 : (out.map fun v => (backV v, keyAt s.heap v)).map (·.1) = out.map backV := by rw [List.map_map]; rfl
  have e2 : (out.map fun v => (backV v, keyAt s.heap v)).map (·.2) = srtP ps := by
    have pp : ((out.map fun v => (backV v, keyAt s.heap v)).map (·.2)).Perm ps := by
      have := pz.map (·.2)
      rwa [List.map_snd_zip (by omega)] at this
    refine srtP_uniq (pp.trans (srtP_perm ps).symm) ?_ (srtP_le ps)
    rw [List.map_map, List.pairwise_map]
    refine List.Pairwise.imp (fun {x y} hxy => ?_) srt
    show (!SrtO.lexB (keyAt s.heap y) (keyAt s.heap x)) = true
    have g : SrtO.lexB (keyAt s.heap y) (keyAt s.heap x) = false := hxy
    rw [g]
    rfl
  have lo : out.length ≤ sizeLine := by rw [stb.perm.length_eq, ← rx.length]; exact hz
  have fin := q _ d pz e2 (I.hok.fresh fresh)
  rw [e1] at fin
  exact ⟨.ref d, upd H d (.lst (out.map backV)), I.laid (t' := s.toks) keep fresh ⟨by simpa using lo, out, cnt, vals_back refs, there⟩, rfl, fin⟩
theorem ats_pr {K : PySem.W.Frag} {as : List Addr} {G : Hp} : ∀ {xs : List V} {ps : List (Int × Int)}, Ats K as G xs (ps.map prDt) → xs.length = ps.length ∧ ∀ z ∈ xs.zip ps, At K as G z.1 (prDt z.2)
  | _, [], .nil => ⟨rfl, fun z hz => by simp at hz⟩
  | _, p :: r, .cons h t => by
    obtain ⟨h1, h2⟩ := ats_pr t
    refine ⟨by simp [h1], fun z hz => ?_⟩
    rw [List.zip_cons_cons] at hz
    rcases List.mem_cons.mp hz with e | e
    · rw [e]; exact h
    · exact h2 z e
theorem at_pr {K : PySem.W.Frag} {as : List Addr} {G : Hp} {x : V} {p : Int × Int} (h : At K as G x (prDt p)) : ∃ t, x = .ref t ∧ SqT K G t [.int p.1, .int p.2] := by
  cases h with
  | tup h1 h2 =>
    obtain ⟨u, v, rfl, a1, a2⟩ := h2.two
    cases a1
    cases a2
    exact ⟨_, rfl, h1⟩
theorem ats_of {K : PySem.W.Frag} {as : List Addr} {G : Hp} : ∀ {zs : List (V × (Int × Int))}, (∀ z ∈ zs, At K as G z.1 (prDt z.2)) → Ats K as G (zs.map (·.1)) ((zs.map (·.2)).map prDt)
  | [], _ => .nil
  | z :: r, h => .cons (h z List.mem_cons_self) (ats_of fun y hy => h y (List.mem_cons_of_mem _ hy))
theorem cd_sortedP : CallD X (.builtin "sorted") (fun ds μ Q => ∃ (d : Dt) (ps : List (Int × Int)), ds = [d] ∧ seqM μ d = some (ps.map prDt) ∧ (∀ zs, d ≠ .tup zs) ∧ Q (.lst ((srtP ps).map prDt)) μ) := by
  refine ⟨_, cr_srtP, ?_⟩
  intro as G H μ xs ds Q Q' m a1 h f
  obtain ⟨d, ps, rfl, hs, nt, q⟩ := h
  obtain ⟨x, rfl, a2⟩ := a1.one
  obtain ⟨p, zs, rfl, hx, hq⟩ := seq_at m a2 hs
  obtain ⟨l1, l2⟩ := ats_pr hx
  rcases hq with ⟨hq, _⟩ | ⟨_, zs, e⟩
  · refine ⟨p, zs, ps, rfl, hq, l1, fun z hz => ?_, fun ys u hp he hu => f _ _ ?_⟩
    · obtain ⟨t, e, g⟩ := at_pr (l2 z hz)
      exact ⟨t, e, Same.tup m.same g⟩
    · have t := ats_of fun z hz => l2 z (hp.mem_iff.mp hz)
      rw [he] at t
      exact .lay m hu (.lst (.of upd_same) (t.mono (same_upd_none (m.same.free hu)) fun _ _ h => h)) q
  · exact absurd e (nt zs)
end
end DL

/-! D28: an instance, a list is frozen; comprehensions that keep the mutable objects; defs that are functions of their arguments. -/
namespace DL
open PySem PySem.Spec PyProof.Rows L2
section
variable {X : Cx} {J : JX} {e a b c o i tg st : Expr} {es : List Expr} {ρ : Env'} {μ : Mu} {pos : Pos} {D : DEnds}
/-- an instance that no one changes from here on -/
theorem dE_frzI {Q : Dt → Mu → Prop} (h : dE X J e ρ μ fun d μ1 => ∃ k C gs, d = .mut k ∧ μ1[k]? = some (.ins C gs) ∧ Q (.obj C gs) (μ1.set k .gone)) : dE X J e ρ μ Q := .mk fun as G H σ S =>
  wE_mono (h as G H σ S) fun v H1 ⟨d, μ1, as1, G1, t1, m1, a1, k, C, gs, e1, hk, q⟩ => by
    subst e1
    cases a1 with
    | «mut» ha =>
      obtain ⟨p, ob, h1, h2, h3, h4⟩ := m1.cell k _ hk (by simp)
      rw [ha] at h1
      cases h1
      obtain ⟨dx, vs, rfl, hf⟩ := h3
      exact ⟨_, _, as1, _, t1.trans (.freeze m1 ha h4), m1.freeze ha h2 h4, .obj upd_same (hf.mono (same_upd_none h4) fun _ _ z => z), q⟩
/-- a list -/
theorem dE_frzL {Q : Dt → Mu → Prop} (h : dE X J e ρ μ fun d μ1 => ∃ k xs, d = .mut k ∧ μ1[k]? = some (.lst xs) ∧ Q (.lst xs) (μ1.set k .gone)) : dE X J e ρ μ Q := .mk fun as G H σ S =>
  wE_mono (h as G H σ S) fun v H1 ⟨d, μ1, as1, G1, t1, m1, a1, k, xs, e1, hk, q⟩ => by
    subst e1
    cases a1 with
    | «mut» ha =>
      obtain ⟨p, ob, h1, h2, h3, h4⟩ := m1.cell k _ hk (by simp)
      rw [ha] at h1
      cases h1
      obtain ⟨vs, rfl, hf⟩ := h3
      exact ⟨_, _, as1, _, t1.trans (.freeze m1 ha h4), m1.freeze ha h2 h4, .lst (.of upd_same) (hf.mono (same_upd_none h4) fun _ _ z => z), q⟩

/-! ### comprehensions that keep the mutable objects -/
/-- one turn: x is kept where c says so, as y -/
def LcF (X : Cx) (scope : Scope) (vs : List Nat) (tg elt : Expr) (ifs : List Expr) (ρ : Env') (μ : Mu) (x : Dt) (c : Bool) (y : Dt) : Prop :=
  BE X scope fun X1 => dGv X1 J0 vs tg x (wipeD ρ vs) μ fun ρ2 μ2 => μ2 = μ ∧ BE X scope fun X2 => dTs X2 J0 ifs ρ2 μ fun b μ3 => b = c ∧ μ3 = μ ∧ (c = true → BE X scope fun X3 => dE X3 J0 elt ρ2 μ fun y' μ4 => y' = y ∧ μ4 = μ)
theorem dGv.imp {vs : List Nat} {d : Dt} {Q Q' : Env' → Mu → Prop} (h : dGv X J vs tg d ρ μ Q) (f : ∀ ρ μ, Q ρ μ → Q' ρ μ) : dGv X J vs tg d ρ μ Q' := .mk fun as G H σ v S a => wG_mono (h as G H σ v S a) fun _ _ ⟨z, w⟩ => ⟨z.imp f, w⟩
theorem dTs.imp {ifs : List Expr} {Q Q' : Bool → Mu → Prop} (h : dTs X J ifs ρ μ Q) (f : ∀ b μ, Q b μ → Q' b μ) : dTs X J ifs ρ μ Q' := .mk fun as G H σ S pins s I => by
  refine thn (h as G H σ S pins s I) fun b _ ⟨H', I', μ', as', G', t, m, q⟩ => ⟨H', I', μ', as', G', t, m, f _ _ q⟩
theorem lcT_of {α : Type} {scope : Scope} {vs : List Nat} {elt : Expr} {ifs : List Expr} {f : α → Dt} {c : α → Bool} {g : α → Dt} {zs : List α} (hl : zs.length ≤ sizeLine) (h : ∀ z ∈ zs, LcF X scope vs tg elt ifs ρ μ (f z) (c z) (g z)) :
    LcT X scope vs tg elt ifs ρ (zs.map f) fun i acc μ' => μ' = μ ∧ i ≤ zs.length ∧ acc = ((zs.take i).filter c).map g := by
  rintro i x acc μ' hx ⟨e1, hi, e2⟩
  subst e1 e2
  rw [List.getElem?_map] at hx
  obtain ⟨z, hz, rfl⟩ := Option.map_eq_some_iff.mp hx
  have hlt := (List.getElem?_eq_some_iff.mp hz).1
  have tk : zs.take (i + 1) = zs.take i ++ [z] := by
    rw [List.take_succ, hz]
    rfl
  intro s1 H1 C1 cl1 fp1
  refine (h z (List.mem_of_getElem? hz) s1 H1 C1 cl1 fp1).imp fun ρ2 μ2 ⟨e, k⟩ => ?_
  subst e
  intro s2 H2 C2 cl2 fp2
  refine (k s2 H2 C2 cl2 fp2).imp fun b μ3 ⟨e1, e2, k⟩ => ?_
  subst e1 e2
  refine iteB (fun hc => ?_) fun hc => ⟨rfl, hlt, ?_⟩
  · intro s3 H3 C3 cl3 fp3
    refine (k hc s3 H3 C3 cl3 fp3).imp fun y μ4 ⟨e1, e2⟩ => ⟨?_, e2, hlt, ?_⟩
    · rw [List.length_map]
      refine Nat.lt_of_le_of_lt (List.length_filter_le _ _) ?_
      rw [List.length_take]
      omega
    · subst e1
      rw [tk, List.filter_append, List.map_append]
      simp [hc]
  · rw [tk, List.filter_append, List.map_append]
    simp [hc]
theorem dE_lcF {α : Type} {iter elt : Expr} {ifs : List Expr} {scope : Scope} (own : List (Str × Nat)) {Q : Dt → Mu → Prop} (f : α → Dt) (c : α → Bool) (g : α → Dt) (hc : X.calm = true) (hN : X.N.Nodup) (ok : BlkOk X.N X.env.scope scope own)
    (h : dI X J tg iter ρ μ fun xs ok μ1 => ok μ1 ∧ ∃ zs : List α, xs = zs.map f ∧ zs.length ≤ sizeLine ∧ (∀ z ∈ zs, LcF X scope (own.map (·.2)) tg elt ifs ρ μ1 (f z) (c z) (g z)) ∧ Q (.lst ((zs.filter c).map g)) μ1)
    (hs : ∀ x, foldedSetIterable iter X.env x = pure x := by intro _; rfl) : dE X J (.ListComp elt [⟨tg, iter, ifs, 0⟩] scope pos) ρ μ Q := by
  refine dE_lc own hc hN ok (.mk fun as G H σ S => ?_) hs
  refine dS_for.wI_mono (h as G H σ S) fun It H1 ⟨xs, ok, μ1, as1, G1, t1, m1, src, o1, zs, e, hl, turn, q⟩ => ?_
  subst e
  refine ⟨zs.map f, ok, μ1, as1, G1, t1, m1, src, fun i acc μ' => μ' = μ1 ∧ i ≤ zs.length ∧ acc = ((zs.take i).filter c).map g, ⟨rfl, Nat.zero_le _, rfl⟩, fun i acc μ' z => by rw [z.1]; exact o1, lcT_of hl turn, fun acc μ' z => ?_⟩
  obtain ⟨e1, _, e2⟩ := z
  rw [e1, e2, List.length_map, List.take_length]
  exact q
/-- without a test -/
theorem dE_lcG {α : Type} {iter elt : Expr} {scope : Scope} (own : List (Str × Nat)) {Q : Dt → Mu → Prop} (f g : α → Dt) (hc : X.calm = true) (hN : X.N.Nodup) (ok : BlkOk X.N X.env.scope scope own)
    (h : dI X J tg iter ρ μ fun xs ok μ1 => ok μ1 ∧ ∃ zs : List α, xs = zs.map f ∧ zs.length ≤ sizeLine ∧ (∀ z ∈ zs, BE X scope fun X1 => dGv X1 J0 (own.map (·.2)) tg (f z) (wipeD ρ (own.map (·.2))) μ1 fun ρ2 μ2 => μ2 = μ1 ∧ BE X scope fun X3 => dE X3 J0 elt ρ2 μ1 fun y' μ4 => y' = g z ∧ μ4 = μ1) ∧ Q (.lst (zs.map g)) μ1)
    (hs : ∀ x, foldedSetIterable iter X.env x = pure x := by intro _; rfl) : dE X J (.ListComp elt [⟨tg, iter, [], 0⟩] scope pos) ρ μ Q := by
  refine dE_lcF own f (fun _ => true) g hc hN ok (.mk fun as G H σ S => ?_) hs
  refine dS_for.wI_mono (h as G H σ S) fun It H1 ⟨xs, ok, μ1, as1, G1, t1, m1, src, o1, zs, e, hl, turn, q⟩ => ⟨xs, ok, μ1, as1, G1, t1, m1, src, o1, zs, e, hl, fun z hz => ?_, by rw [List.filter_eq_self.mpr fun _ _ => rfl]; exact q⟩
  intro s1 H1 C1 cl1 fp1
  refine (turn z hz s1 H1 C1 cl1 fp1).imp fun ρ2 μ2 ⟨e, k⟩ => ⟨e, ?_⟩
  intro s2 H2 C2 cl2 fp2
  exact dTs_nil ⟨rfl, rfl, fun _ => k⟩
/-- name = [..], frozen -/
theorem dS_setLcF {α : Type} (i : Nat) {y : Str} {py : Pos} {iter elt : Expr} {ifs : List Expr} {scope : Scope} {lpos : Pos} (own : List (Str × Nat)) (f : α → Dt) (c : α → Bool) (g : α → Dt) (hc : X.calm = true) (hN : X.N.Nodup) (hy : X.N[i]? = some y) (hyl : X.env.scope.names.lookup y = some .local) (ok : BlkOk X.N X.env.scope scope own)
    (hsw : swapsWith (.ListComp elt [⟨tg, iter, ifs, 0⟩] scope lpos) (some (.Name y py)) pos.line X.env = pure true)
    (h : dI X J tg iter ρ μ fun xs ok μ1 => ok μ1 ∧ ∃ zs : List α, xs = zs.map f ∧ zs.length ≤ sizeLine ∧ (∀ z ∈ zs, LcF X scope (own.map (·.2)) tg elt ifs ρ μ1 (f z) (c z) (g z)) ∧ D.nx (ρ.set i (some (.lst ((zs.filter c).map g)))) μ1)
    (hs : ∀ x, foldedSetIterable iter X.env x = pure x := by intro _; rfl) : dS X J (.Assign [.Name y py] (.ListComp elt [⟨tg, iter, ifs, 0⟩] scope lpos) pos) ρ μ D := by
  refine dS_setLc i own hc hN hy hyl ok hsw (.mk fun as G H σ S => ?_) hs
  refine dS_for.wI_mono (h as G H σ S) fun It H1 ⟨xs, ok, μ1, as1, G1, t1, m1, src, o1, zs, e, hl, turn, q⟩ => ?_
  subst e
  refine ⟨zs.map f, ok, μ1, as1, G1, t1, m1, src, fun i acc μ' => μ' = μ1 ∧ i ≤ zs.length ∧ acc = ((zs.take i).filter c).map g, ⟨rfl, Nat.zero_le _, rfl⟩, fun i acc μ' z => by rw [z.1]; exact o1, lcT_of hl turn, fun acc μ' z => ?_⟩
  obtain ⟨e1, _, e2⟩ := z
  rw [e1, e2, List.length_map, List.take_length]
  exact q
end

/-! ### defs that are functions of their arguments -/
/-- from ds to d, whatever the mutable objects are -/
def rP (V : List Dt → Dt → Prop) : Spc := fun ds μ Q _ => ∃ d, V ds d ∧ μ = [] ∧ ∀ μ', Q d μ'
theorem mk_fn {V : List Dt → Dt → Prop} {J : JX} {ds : List Dt} {d : Dt} {μ : Mu} {Q : Dt → Mu → Prop} (m1 : mfs ds = true) (m2 : d.mf = true) (v : V ds d) (q : Q d μ) : CallsD (rP V) J ds μ Q :=
  mk_call0 m1 ⟨d, v, rfl, fun _ => ⟨m2, q⟩⟩
theorem rP_len {V : List Dt → Dt → Prop} {n : Nat} (h : ∀ ds d, V ds d → ds.length = n) : ∀ ds μ Q J, rP V ds μ Q J → ds.length = n := fun ds _ _ _ ⟨d, v, _⟩ => h ds d v
theorem mfs_app : ∀ {xs ys : List Dt}, mfs (xs ++ ys) = (mfs xs && mfs ys)
  | [], _ => by simp [mfs]
  | x :: r, ys => by simp [mfs, mfs_app (xs := r), Bool.and_assoc]
theorem mfs_all : ∀ {xs : List Dt}, mfs xs = xs.all Dt.mf
  | [] => rfl
  | x :: r => by simp [mfs, mfs_all (xs := r)]
theorem mfs_map {α : Type} {f : α → Dt} (h : ∀ x, (f x).mf = true) : ∀ xs : List α, mfs (xs.map f) = true
  | [] => rfl
  | x :: r => by simp [mfs, h x, mfs_map h r]
theorem mf_tup {α : Type} {f : α → Dt} (h : ∀ x, (f x).mf = true) (xs : List α) : (Dt.tup (xs.map f)).mf = true := by simp [Dt.mf, mfs_map h xs]
theorem mf_lst {α : Type} {f : α → Dt} (h : ∀ x, (f x).mf = true) (xs : List α) : (Dt.lst (xs.map f)).mf = true := by simp [Dt.mf, mfs_map h xs]
end DL

/-! D29: comparisons of three links; sorted of a tuple of pairs. -/
namespace DL
open PySem PySem.Spec PyProof.Rows L2
section
variable {X : Cx} {J : JX} {e a b c g : Expr} {ρ : Env'} {μ : Mu} {pos : Pos}
/-- a op1 b op2 c op3 g -/
def tChain3 (r r' r2 : R2) (ta tb tc tg : TE) : TE := fun σ H Q => ta σ H fun x H1 => tb σ H1 fun y H2 => r x y H2 fun z H3 => ∃ k, z = .bl k ∧
  (if k = true then tc σ H3 fun v H4 => r' y v H4 fun z' H5 => ∃ k', z' = .bl k' ∧ (if k' = true then tg σ H5 fun u H6 => r2 v u H6 Q else Q (.bl false) H5) else Q (.bl false) H3)
theorem pe_chain3 {op op' op2 : CmpOp} {r r' r2 : R2} {ta tb tc tg : TE} (ho : OpR X (compareOp op) r) (ho' : OpR X (compareOp op') r') (ho2 : OpR X (compareOp op2) r2) (ha : PE X a ta) (hb : PE X b tb) (hc : PE X c tc) (hg : PE X g tg)
    (hm : lastMarks [op, op', op2] [b, c, g] = false := by with_unfolding_all rfl) : PE X (.Compare a [op, op', op2] [b, c, g] pos) (tChain3 r r' r2 ta tb tc tg) := by
  refine ⟨fun pins s σ H Q I h => ?_⟩
  refine Compare_chain (thn (ha.run pins s σ H _ I h) fun v s1 ⟨x, H1, I1, q1, h1⟩ => chain_link (thn (hb.run pins s1 σ H1 _ I1 h1) fun u s2 ⟨y, H2, I2, q2, h2⟩ =>
    thn (ho pins s2 σ H2 x y v u _ I2 q1 q2 h2) fun d s3 ⟨z, H3, I3, q3, k, e, h3⟩ => ?_)) hm
  subst e
  cases q3
  refine wpAny_truthy_bool ?_
  cases k with
  | false => exact ite_ff ⟨.bl false, H3, I3, rfl, h3⟩
  | true =>
    refine ite_tt (chain_link (thn (hc.run pins s3 σ H3 _ I3 h3) fun w' s4 ⟨z', H4, I4, q4, h4⟩ => thn (ho' pins s4 σ H4 y z' u w' _ I4 q2 q4 h4) fun d' s5 ⟨z2, H5, I5, q5, k', e', h5⟩ => ?_))
    subst e'
    cases q5
    refine wpAny_truthy_bool ?_
    cases k' with
    | false => exact ite_ff ⟨.bl false, H5, I5, rfl, h5⟩
    | true => exact ite_tt (chain_last (thn (hg.run pins s5 σ H5 _ I5 h5) fun u' s6 ⟨z3, H6, I6, q6, h6⟩ => ho2 pins s6 σ H6 z' z3 w' u' Q I6 q4 q6 h6))
theorem dE_chain3 {op op' op2 : CmpOp} {RD RD' RD2 : Dt → Dt → Mu → (Dt → Mu → Prop) → Prop} {Q : Dt → Mu → Prop} (ho : OpD X (compareOp op) RD) (ho' : OpD X (compareOp op') RD') (ho2 : OpD X (compareOp op2) RD2)
    (h : dE X J a ρ μ fun d μ1 => dE X J b ρ μ1 fun e μ2 => RD d e μ2 (QB fun k μ3 => if k = true then dE X J c ρ μ3 fun f μ4 => RD' e f μ4 (QB fun k' μ5 => if k' = true then dE X J g ρ μ5 fun f2 μ6 => RD2 f f2 μ6 Q else Q (.bl false) μ5) else Q (.bl false) μ3)) (hm : lastMarks [op, op', op2] [b, c, g] = false := by with_unfolding_all rfl) :
    dE X J (.Compare a [op, op', op2] [b, c, g] pos) ρ μ Q := .mk fun as G H σ S => by
  obtain ⟨r, h1, h2⟩ := ho.ex
  obtain ⟨r', h1', h2'⟩ := ho'.ex
  obtain ⟨r2, k1, k2⟩ := ho2.ex
  refine (pe_chain3 h1 h1' k1 peW peW peW peW hm).w ?_
  show wE X a σ H fun x H1 => wE X b σ H1 fun y H2 => r x y H2 fun z H3 => ∃ k, z = .bl k ∧ (if k = true then wE X c σ H3 fun w' H4 => r' y w' H4 fun z' H5 => ∃ k', z' = .bl k' ∧ (if k' = true then wE X g σ H5 fun u H6 => r2 w' u H6 _ else _) else _)
  refine two S h fun x y d e μ2 as2 G2 H2 s m a1 a2 q => h2 as2 G2 H2 μ2 x y d e _ _ m a1 a2 q fun v H' z => ?_
  obtain ⟨k, e1, μ3, as3, G3, s3, m3, q3⟩ := z.bool
  refine ⟨k, e1, ?_⟩
  cases k with
  | false =>
    rw [if_neg Bool.false_ne_true] at q3 ⊢
    exact ⟨.bl false, μ3, as3, G3, s.trans s3, m3, .bl false, q3⟩
  | true =>
    rw [if_pos rfl] at q3 ⊢
    refine wE_mono (q3 as3 G3 H' σ (S.step (s.trans s3) m3)) fun w H4 ⟨f, μ4, as4, G4, s4, m4, a4, q4⟩ => h2' as4 G4 H4 μ4 y w e f _ _ m4 ((a2.mono s3.gg s3.ix).mono s4.gg s4.ix) a4 q4 fun v H5 z5 => ?_
    obtain ⟨k', e', μ5, as5, G5, s5, m5, q5⟩ := z5.bool
    have T5 := ((s.trans s3).trans s4).trans s5
    refine ⟨k', e', ?_⟩
    cases k' with
    | false =>
      rw [if_neg Bool.false_ne_true] at q5 ⊢
      exact ⟨.bl false, μ5, as5, G5, T5, m5, .bl false, q5⟩
    | true =>
      rw [if_pos rfl] at q5 ⊢
      refine wE_mono (q5 as5 G5 H5 σ (S.step T5 m5)) fun u H6 ⟨f2, μ6, as6, G6, s6, m6, a6, q6⟩ => k2 as6 G6 H6 μ6 w u f f2 _ _ m6 ((a4.mono s5.gg s5.ix).mono s6.gg s6.ix) a6 q6 fun v H7 z7 => z7.back (T5.trans s6)

/-! ### sorted(t) of a tuple of pairs of ints -/
section
variable {prog : Program} {w : World} {A : Around} {E : Value → Shared → Prop} {z : Shared}
/-- what collect makes of a list, a tuple: the heap told -/
theorem collect2 {it : Addr} {T : String} {ob : Obj} {xs : List Value} {ep : Nat} {Q : List Value → Shared → Prop} (hT : T = "list" ∨ T = "tuple") (ho : z.heap.get? it = some ob) (hc : ob.cls = .type T) (hd : ob.data = .seq xs.toArray ep) (hz : xs.length ≤ sizeLine)
    (q : Q xs { z with heap := (z.heap.push (seqObj "list" #[] 0)).update z.heap.objs.size (Obj.mapSeq (· ++ xs.toArray)) }) : wpAny (model prog w) A (collect (.ref it)) Q E z := by
  unfold collect
  refine wpAny_bind (wpAny_runValue (codeAny_builtin entry_proto_collect' ?_))
  show wpAny _ _ (newList [] >>= fun l => again (.builtin "list.__iadd__" ⟨[l, .ref it], []⟩)) _ _ z
  refine wpAny_bind (wpAny_newList (wpAny_pure ⟨Code.quiet_builtin _ (by decide +kernel), codeAny_builtin entry_list_iadd' ?_⟩))
  have h1 : (z.heap.push (seqObj "list" #[] 0)).get? z.heap.objs.size = some (seqObj "list" #[] 0) := Heap.get?_push_size _ rfl
  have h2 := Heap.get?_update_self (Obj.mapSeq (· ++ xs.toArray)) h1 rfl
  have last : wpAny (model prog w) A (match Value.ref z.heap.objs.size with
      | .ref p => do
        match (← load p).data with
          | .seq ys _ => pure ys.toList
          | _ => unsupported "internal:collect"
      | _ => unsupported "internal:collect") Q E { z with heap := (z.heap.push (seqObj "list" #[] 0)).update z.heap.objs.size (Obj.mapSeq (· ++ xs.toArray)) } := by
    show wpAny _ A (load z.heap.objs.size >>= _) _ _ _
    refine wpAny_bind (wpAny_load h2 (wpAny_pure ?_))
    have e : ((#[] : Array Value) ++ xs.toArray).toList = xs := by simp
    show Q ((#[] : Array Value) ++ xs.toArray).toList _
    rw [e]
    exact q
  refine wpAny_mono (wpAny_extend_seq (hsz := by rw [List.size_toArray]; exact hz) (A := A) (R := fun r y => r = .ok (.ret (.ref z.heap.objs.size)) ∧ y = { z with heap := (z.heap.push (seqObj "list" #[] 0)).update z.heap.objs.size (Obj.mapSeq (· ++ xs.toArray)) })
    (s := { z with heap := z.heap.push (seqObj "list" #[] 0) }) _ it _ 0 hT h1 (Heap.get?_push_of_some _ ho) hc hd ⟨rfl, rfl⟩) (fun fin y k => ?_) (fun e y k => ?_)
  · cases fin with
    | done f =>
      obtain ⟨e, rfl⟩ := k
      cases e
      exact last
    | again c => exact ⟨k.1, codeAny_mono k.2 fun r y hr => by obtain ⟨rfl, rfl⟩ := hr; exact last⟩
  · exact absurd k.1 (by simp)
/-- sorted of a list or a tuple, by any order: the new list stands last -/
theorem sorted_any2 {it : Addr} {T : String} {ob : Obj} {xs : List Value} {ep : Nat} {lt : Value → Value → Bool} {Q : Value → Shared → Prop} (O : SrtO.Swo lt) (hT : T = "list" ∨ T = "tuple") (ho : z.heap.get? it = some ob) (hc : ob.cls = .type T) (hd : ob.data = .seq xs.toArray ep) (hz : xs.length ≤ sizeLine)
    (hS : 2 ≤ xs.length → ∀ (h₁ : Heap) (p : Addr), h₁.get? p = some (seqObj "list" xs.toArray 0) → (∀ b o, z.heap.get? b = some o → b ≠ p ∧ h₁.get? b = some o) → SrtO.SortableO prog w A.in1.in1 { z with heap := h₁ } p xs lt)
    (h : ∀ (h' : Heap) (p : Addr) (ys : List Value), SrtO.Srtd lt ys → SrtO.Stb lt ys xs → (∀ b o, z.heap.get? b = some o → h'.get? b = some o) → z.heap.objs.size ≤ p → (∃ n, h'.get? p = some (seqObj "list" ys.toArray n)) → Q (.ref p) { z with heap := h' }) :
    wpAny (model prog w) A (call (.builtin "sorted") [.ref it]) Q E z := by
  refine Calls.call_function_entry kind_sorted plain_sorted entry_sorted (args_sorted1 _) ?_
  unfold Builtin.«sorted»
  refine wpAny_bind (m := checkCount "sorted" 1 1 _) (wpAny_pure ?_)
  refine wpAny_bind (collect2 hT ho hc hd hz ?_)
  refine wpAny_bind (wpAny_newList ?_ hz)
  generalize hg : (z.heap.push (seqObj "list" #[] 0)).update z.heap.objs.size (Obj.mapSeq (· ++ xs.toArray)) = g
  have sz : g.objs.size = z.heap.objs.size + 1 := by rw [← hg, Heap.size_update, size_push']
  have kp : ∀ b o, z.heap.get? b = some o → g.get? b = some o := fun b o q => by
    rw [← hg, Heap.get?_update_ne _ _ _ _ (Nat.ne_of_lt (Heap.lt_size q))]
    exact Heap.get?_push_of_some _ q
  have hoL : (g.push (seqObj "list" xs.toArray 0)).get? g.objs.size = some (seqObj "list" xs.toArray 0) := Heap.get?_push_size _ rfl
  have keep : ∀ b o, z.heap.get? b = some o → b ≠ g.objs.size ∧ (g.push (seqObj "list" xs.toArray 0)).get? b = some o := fun b o q =>
    ⟨Nat.ne_of_lt (Heap.lt_size (kp b o q)), Heap.get?_push_of_some _ (kp b o q)⟩
  refine wpAny_bind (wpAny_holding (wpAny_call_entry slot_list_sort ⟨_, hoL, rfl⟩ entry_list_sort (SrtO.list_sort_ord O hoL hz (fun h2 => hS h2 _ _ hoL keep) fun ys hs hb => ⟨_, rfl, ?_⟩) (args_list_sort _)))
  refine wpAny_pure ⟨_, rfl, h _ _ ys hs hb (fun b o q => ?_) (by rw [sz]; exact Nat.le_succ _) (sortedHeap_at hoL)⟩
  rw [sortedHeap_old (keep b o q).1 (Heap.lt_size (keep b o q).2)]
  exact (keep b o q).2
end
theorem pairs_back {h : Heap} : ∀ (xs : List V) (ps : List (Int × Int)) (its : List Value), Vals xs its → xs.length = ps.length → (∀ z ∈ xs.zip ps, ∃ t, z.1 = V.ref t ∧ Srt.IsPair h (.ref t) z.2.1 z.2.2) →
    its.map (fun v => (backV v, keyAt h v)) = xs.zip ps ∧ (∀ v ∈ its, ∃ t, v = Value.ref t ∧ Srt.IsPair h v (keyAt h v).1 (keyAt h v).2) := by
  intro xs
  induction xs with
  | nil =>
    intro ps its r hl hp
    cases r
    exact ⟨by simp, fun v hv => by simp at hv⟩
  | cons x xr ih =>
    intro ps its r hl hp
    cases r with
    | cons r1 r2 =>
      cases ps with
      | nil => simp at hl
      | cons p pr =>
        rename_i y yr
        obtain ⟨t, e, g⟩ := hp (x, p) (by simp)
        obtain rfl : x = V.ref t := e
        obtain rfl : y = Value.ref t := r1
        obtain ⟨h1, h2⟩ := ih pr yr r2 (by simpa using hl) fun z hz => hp z (by simp [hz])
        have k := keyAt_eq (p := p) g
        refine ⟨by rw [List.map_cons, h1, k]; rfl, fun v hv => ?_⟩
        rcases List.mem_cons.mp hv with e | e
        · rw [e, k]
          exact ⟨t, rfl, g⟩
        · exact h2 v e
/-- values with their pairs, in a tuple, put in order -/
def rSrtPT (K : PySem.W.Frag) : List V → Hp → VK → Prop := fun vs H Q => ∃ (a : Addr) (xs : List V) (ps : List (Int × Int)), vs = [V.ref a] ∧ SqT K H a xs ∧ xs.length ≤ sizeLine ∧ xs.length = ps.length ∧ (∀ z ∈ xs.zip ps, ∃ t, z.1 = V.ref t ∧ SqT K H t [.int z.2.1, .int z.2.2]) ∧
  ∀ (zs : List (V × (Int × Int))) (u : Addr), zs.Perm (xs.zip ps) → zs.map (·.2) = srtP ps → H u = none → Q (.ref u) (upd H u (.lst (zs.map (·.1))))
theorem cr_srtPT : CallR X (.builtin "sorted") (rSrtPT X.K) := by
  intro pins s σ H vs us Q I rv h
  obtain ⟨a, xs, ps, rfl, hs, hzz, hl, hp, q⟩ := h
  obtain ⟨its, rx, place, hz⟩ := I.tuple hs
  obtain ⟨u, rfl, ru⟩ := vals1 rv
  obtain rfl : u = Value.ref a := ru
  have one : ∀ z ∈ xs.zip ps, ∃ t, z.1 = V.ref t ∧ Srt.IsPair s.heap (.ref t) z.2.1 z.2.2 := fun z m => by
    obtain ⟨t, e, g⟩ := hp z m
    exact ⟨t, e, pair_at I g⟩
  obtain ⟨b1, b2⟩ := pairs_back (h := s.heap) xs ps its rx hl one
  obtain ⟨ob, here, isT, cnt, holds⟩ := place
  refine sorted_any2 (SrtO.swo_lex (keyAt s.heap)) (.inr rfl) here isT holds (by rw [← rx.length]; exact hzz) (fun h2 h₁ p hp kk => ?_) fun h2 d out srt stb keep fresh there => ?_
  · refine SrtO.pairs_sortableO (s := { s with heap := h₁ }) (by omega) (fun v hm => ?_) fun o e => ?_
    · exact (b2 v hm).choose_spec.2.keeps fun b o e _ => (kk b o e).2
    · have e' : some o = some (seqObj "list" its.toArray 0) := e.symm.trans hp
      cases e'
      intro c
      exact absurd (Value.type.inj c) (by decide)
  have refs : ∀ v ∈ out, ∃ t, v = Value.ref t := fun v hv => by
    obtain ⟨t, e, _⟩ := b2 v (stb.perm.mem_iff.mp hv)
    exact ⟨t, e⟩
  obtain ⟨cnt, there⟩ := there
  have pz : (out.map fun v => (backV v, keyAt s.heap v)).Perm (xs.zip ps) := by
    rw [← b1]
    exact stb.perm.map _
  have e1 : (out.map fun v => (backV v, keyAt s.heap v)).map (·.1) = out.map backV := by rw [List.map_map]; rfl
  have e2 : (out.map fun v => (backV v, keyAt s.heap v)).map (·.2) = srtP ps := by
    have pp : ((out.map fun v => (backV v, keyAt s.heap v)).map (·.2)).Perm ps := by
      have := pz.map (·.2)
      rwa [List.map_snd_zip (by omega)] at this
    refine srtP_uniq (pp.trans (srtP_perm ps).symm) ?_ (srtP_le ps)
    rw [List.map_map, List.pairwise_map]
    refine List.Pairwise.imp (fun {x y} hxy => ?_) srt
    show (!SrtO.lexB (keyAt s.heap y) (keyAt s.heap x)) = true
    have g : SrtO.lexB (keyAt s.heap y) (keyAt s.heap x) = false := hxy
    rw [g]
    rfl
  have lo : out.length ≤ sizeLine := by rw [stb.perm.length_eq, ← rx.length]; exact hzz
  have fin := q _ d pz e2 (I.hok.fresh fresh)
  rw [e1] at fin
  exact ⟨.ref d, upd H d (.lst (out.map backV)), I.laid (t' := s.toks) keep fresh ⟨by simpa using lo, out, cnt, vals_back refs, there⟩, rfl, fin⟩
theorem cd_sortedPT : CallD X (.builtin "sorted") (fun ds μ Q => ∃ (ps : List (Int × Int)), ds = [.tup (ps.map prDt)] ∧ ps.length ≤ sizeLine ∧ Q (.lst ((srtP ps).map prDt)) μ) := by
  refine ⟨_, cr_srtPT, ?_⟩
  intro as G H μ xs ds Q Q' m a1 h f
  obtain ⟨ps, rfl, hlen, q⟩ := h
  obtain ⟨x, rfl, a2⟩ := a1.one
  cases a2 with
  | tup hq hx =>
    rename_i p zs
    obtain ⟨l1, l2⟩ := ats_pr hx
    refine ⟨p, zs, ps, rfl, Same.tup m.same hq, by omega, l1, fun z hz => ?_, fun ys u hp he hu => f _ _ ?_⟩
    · obtain ⟨t, e, g⟩ := at_pr (l2 z hz)
      exact ⟨t, e, Same.tup m.same g⟩
    · have t := ats_of fun z hz => l2 z (hp.mem_iff.mp hz)
      rw [he] at t
      exact .lay m hu (.lst (.of upd_same) (t.mono (same_upd_none (m.same.free hu)) fun _ _ h => h)) q
end
end DL

/-! D30: new instances frozen at once: the mutable objects stay as they are. -/
namespace DL
open PySem PySem.Spec PyProof.Rows L2
/-! ### data that name mutable objects below n only -/
mutual
def Dt.mb (n : Nat) : Dt → Bool
  | .mut k => decide (k < n)
  | .lst xs | .tup xs => mbs n xs
  | .obj _ fs | .exc _ fs | .cau _ _ fs => mbf n fs
  | .dic es => mbk n es
  | _ => true
def mbs (n : Nat) : List Dt → Bool
  | [] => true
  | d :: r => d.mb n && mbs n r
def mbf (n : Nat) : List (Str × Dt) → Bool
  | [] => true
  | (_, d) :: r => d.mb n && mbf n r
def mbk (n : Nat) : List (Key × Dt) → Bool
  | [] => true
  | (_, d) :: r => d.mb n && mbk n r
end
variable {K : PySem.W.Frag} {as r : List Addr} {G : Hp}
theorem ix_lt {α : Type} {as : List α} {k : Nat} {a : α} (h : as[k]? = some a) : k < as.length := (List.getElem?_eq_some_iff.mp h).1
mutual
theorem At.mb : ∀ {v : V} {d : Dt}, At K as G v d → d.mb as.length = true
  | _, _, .non | _, _, .bl _ | _, _, .int _ | _, _, .str _ | _, _, .val _ | _, _, .clo _ _ => by simp [Dt.mb]
  | _, _, .lst _ t | _, _, .tup _ t => by simp only [Dt.mb]; exact Ats.mb t
  | _, _, .obj _ t => by simp only [Dt.mb]; exact Fts.mb t
  | _, _, .exc _ _ t => by simp only [Dt.mb]; exact Fts.mb t
  | _, _, .exc0 _ => by simp [Dt.mb, mbf]
  | _, _, .cau _ t => by simp only [Dt.mb]; exact Fts.mb t
  | _, _, .dic _ t => by simp only [Dt.mb]; exact Kts.mb t
  | _, _, .mut h => by simp only [Dt.mb]; exact decide_eq_true (ix_lt h)
theorem Ats.mb : ∀ {v : List V} {d : List Dt}, Ats K as G v d → mbs as.length d = true
  | _, _, .nil => by simp [mbs]
  | _, _, .cons h t => by simp only [mbs, At.mb h, Ats.mb t, Bool.and_self]
theorem Fts.mb : ∀ {v : List (Str × V)} {d : List (Str × Dt)}, Fts K as G v d → mbf as.length d = true
  | _, _, .nil => by simp [mbf]
  | _, _, .cons h t => by simp only [mbf, At.mb h, Fts.mb t, Bool.and_self]
theorem Kts.mb : ∀ {v : List (Key × V)} {d : List (Key × Dt)}, Kts K as G v d → mbk as.length d = true
  | _, _, .nil => by simp [mbk]
  | _, _, .cons h t => by simp only [mbk, At.mb h, Kts.mb t, Bool.and_self]
end
mutual
theorem At.cut : ∀ {v : V} {d : Dt}, d.mb as.length = true → At K (as ++ r) G v d → At K as G v d
  | _, _, _, .non => .non
  | _, _, _, .bl b => .bl b
  | _, _, _, .int i => .int i
  | _, _, _, .str x => .str x
  | _, _, m, .lst h t => .lst h (Ats.cut (by simpa [Dt.mb] using m) t)
  | _, _, m, .tup h t => .tup h (Ats.cut (by simpa [Dt.mb] using m) t)
  | _, _, m, .obj h t => .obj h (Fts.cut (by simpa [Dt.mb] using m) t)
  | _, _, m, .exc h h2 t => .exc h h2 (Fts.cut (by simpa [Dt.mb] using m) t)
  | _, _, _, .exc0 h => .exc0 h
  | _, _, m, .dic h t => .dic h (Kts.cut (by simpa [Dt.mb] using m) t)
  | _, _, _, .val v => .val v
  | _, _, m, .mut h => .mut (by
      rwa [List.getElem?_append_left (by simpa [Dt.mb] using m)] at h)
  | _, _, m, .cau h t => .cau h (Fts.cut (by simpa [Dt.mb] using m) t)
  | _, _, _, .clo h t => .clo h t
theorem Ats.cut : ∀ {v : List V} {d : List Dt}, mbs as.length d = true → Ats K (as ++ r) G v d → Ats K as G v d
  | _, _, _, .nil => .nil
  | _, _, m, .cons h t => by
    simp only [mbs, Bool.and_eq_true] at m
    exact .cons (At.cut m.1 h) (Ats.cut m.2 t)
theorem Fts.cut : ∀ {v : List (Str × V)} {d : List (Str × Dt)}, mbf as.length d = true → Fts K (as ++ r) G v d → Fts K as G v d
  | _, _, _, .nil => .nil
  | _, _, m, .cons h t => by
    simp only [mbf, Bool.and_eq_true] at m
    exact .cons (At.cut m.1 h) (Fts.cut m.2 t)
theorem Kts.cut : ∀ {v : List (Key × V)} {d : List (Key × Dt)}, mbk as.length d = true → Kts K (as ++ r) G v d → Kts K as G v d
  | _, _, _, .nil => .nil
  | _, _, m, .cons h t => by
    simp only [mbk, Bool.and_eq_true] at m
    exact .cons (At.cut m.1 h) (Kts.cut m.2 t)
end
def Mo.mb (n : Nat) : Mo → Bool
  | .lst ds => mbs n ds
  | .dic es => mbk n es
  | .ins _ fs => mbf n fs
  | .gone => true
  | .cell k _ _ d => decide (k < n) && d.mb n
  | .tab k _ _ => decide (k < n)
theorem MoAt.mb {o : HO} {m : Mo} (h : MoAt K as G o m) : m.mb as.length = true := by
  cases m with
  | lst ds => obtain ⟨xs, e, h⟩ := h; exact h.mb
  | dic es => obtain ⟨xs, e, h⟩ := h; exact h.mb
  | ins C fs => obtain ⟨dx, vs, e, h⟩ := h; exact h.mb
  | gone => rfl
  | cell n c oc d => obtain ⟨i, v, u, e, e2, r, h⟩ := h; simp only [Mo.mb, h.mb, Bool.and_true]; exact decide_eq_true (ix_lt i)
  | tab n P q => obtain ⟨i, _⟩ := h; exact decide_eq_true (ix_lt i)
theorem MoAt.cut {o : HO} {m : Mo} (b : m.mb as.length = true) (h : MoAt K (as ++ r) G o m) : MoAt K as G o m := by
  cases m with
  | lst ds => obtain ⟨xs, e, h⟩ := h; exact ⟨xs, e, h.cut b⟩
  | dic es => obtain ⟨xs, e, h⟩ := h; exact ⟨xs, e, h.cut b⟩
  | ins C fs => obtain ⟨dx, vs, e, h⟩ := h; exact ⟨dx, vs, e, h.cut b⟩
  | gone => trivial
  | cell n c oc d =>
    obtain ⟨i, v, u, e, e2, r, h⟩ := h
    simp only [Mo.mb, Bool.and_eq_true, decide_eq_true_eq] at b
    rw [List.getElem?_append_left b.1] at i
    exact ⟨i, v, u, e, e2, r, h.cut b.2⟩
  | tab n P q =>
    obtain ⟨i, z⟩ := h
    have b : n < as.length := of_decide_eq_true b
    rw [List.getElem?_append_left b] at i
    exact ⟨i, z⟩
/-- the last mutable object, frozen or done with, is let go -/
theorem mem_trim {G0 H0 H : Hp} {μ : Mu} {p : Addr} {m : Mo} (h0 : Mem K as G0 H0 μ) (h : Mem K (as ++ [p]) G H (μ ++ [m])) : Mem K as G H μ := by
  have hl := h0.len
  refine ⟨h.same, hl, fun k mo hk hg => ?_, (List.nodup_append.mp h.nd).1, fun a ha => h.ne a (List.mem_append_left _ ha)⟩
  have hlt : k < μ.length := ix_lt hk
  obtain ⟨a, o, h1, h2, h3, h4⟩ := h.cell k mo (by rw [List.getElem?_append_left hlt]; exact hk) hg
  obtain ⟨_, _, _, _, z3, _⟩ := h0.cell k mo hk hg
  rw [List.getElem?_append_left (by omega)] at h1
  exact ⟨a, o, h1, h2, h3.cut z3.mb, h4⟩
theorem step_trim {G0 H0 G' H' : Hp} {p : Addr} (s : Step as G0 H0 (as ++ [p]) G' H') : Step as G0 H0 as G' H' :=
  ⟨⟨[], by simp⟩, s.gg, s.hh, s.ho, s.fr, fun a h => .inl h⟩
theorem afe_imp {G0 H0 H' : Hp} {v : V} {Q Q' : Dt → Mu → Prop} (h : AfE K as G0 H0 Q v H') (f : ∀ d μ, Q d μ → Q' d μ) : AfE K as G0 H0 Q' v H' := by
  obtain ⟨d, μ, as', G', t, m, a, q⟩ := h
  exact ⟨d, μ, as', G', t, m, a, f _ _ q⟩
/-- a new instance handed on as frozen data -/
theorem afe_frz {G0 H0 H' : Hp} {μ : Mu} {v : V} {C : Addr} {Q : Dt → Mu → Prop} (m : Mem K as G0 H0 μ)
    (h : AfE K as G0 H0 (fun d μ' => ∃ fs, d = .mut μ.length ∧ μ' = μ ++ [.ins C fs] ∧ Q (.obj C fs) μ) v H') (hm : ∀ fs, Q (.obj C fs) μ → mff fs = true) : AfE K as G0 H0 Q v H' := by
  obtain ⟨d, μ', as', G', t, m', a, fs, rfl, rfl, q⟩ := h
  obtain ⟨r, rfl⟩ := t.pre
  have hl := m.len
  have hl' := m'.len
  simp only [List.length_append, List.length_cons, List.length_nil] at hl'
  obtain ⟨p, rfl⟩ : ∃ p, r = [p] := by
    match r, hl' with
    | [p], _ => exact ⟨p, rfl⟩
    | [], h => simp at h; omega
    | _ :: _ :: _, h => simp at h; omega
  cases a with
  | «mut» ha =>
    have hk : (μ ++ [Mo.ins C fs])[μ.length]? = some (Mo.ins C fs) := by simp
    obtain ⟨p', ob, h1, h2, h3, h4⟩ := m'.cell μ.length _ hk (by simp)
    rw [ha] at h1
    cases h1
    obtain ⟨dx, vs, rfl, hf⟩ := h3
    have mf := m'.freeze ha h2 h4
    have tf := t.trans (.freeze (o := .ins C dx vs) m' ha h4)
    have e : (μ ++ [Mo.ins C fs]).set μ.length .gone = μ ++ [.gone] := by simp
    rw [e] at mf
    refine ⟨_, μ, as, _, step_trim tf, mem_trim m mf, .obj upd_same ((hf.free (hm _ q)).mono (same_upd_none h4) fun _ _ z => z), q⟩
section
variable {X : Cx} {J : JX} {e : Expr} {es : List Expr} {ρ : Env'} {μ : Mu} {pos : Pos} {k : Nat}
/-- what is known of a class whose instances are frozen at once -/
structure ClsZ (P : Program) (w : World) (K : PySem.W.Frag) (mg : Str → Option Value) (base : Heap) (k : Nat) (C : Addr) (names : List Str) (R : Spc) : Prop where
  ex : ∃ f fd, Mk K C f ∧ FnG P w K mg base k f fd ("self" :: names) R ∧ Binds K fd ("self" :: names) []
theorem dE_newZ {x : Str} {p : Pos} {C : Addr} {names : List Str} {R : Spc} {Q : Dt → Mu → Prop} (ci : ClsZ X.prog X.w X.K X.mg X.base k C names R) (hr : Room (k + 1) X.A) (hgd : X.A.guards = some []) (hm : X.mg x = some (.ref C))
    (h : dA X J (e :: es) ρ μ fun ds μ1 => MakesI R C ds μ1 fun d μ' => ∃ fs, d = .mut μ1.length ∧ μ' = μ1 ++ [.ins C fs] ∧ mff fs = true ∧ Q (.obj C fs) μ1)
    (hg : Gl X x := by rfl) (hdb : (x == ("__debug__" : Str)) = false := by decide) (he : starEach (e :: es) X.env = (false, eval e X.env) :: starEach es X.env := by rfl) (hpl : (backTo pos (starEach es X.env)).any (·.1) = false := by rfl) :
    dE X J (.Call (.Name x p) (e :: es) [] pos) ρ μ Q := .mk fun as G H σ S pins s I => by
  obtain ⟨f, fd, M, F, b1⟩ := ci.ex
  refine wpAny_Call_Name_kw (ld_glob I hg hm ?_ hdb)
  refine PySem.W.callWith_K (h₀ := X.base) I.ok.mod.kin M.kp (thn (h as G H σ S pos pins s I) fun us s1 ⟨vs, H1, I1, r, ds, μ1, as1, G1, t, m, av, q⟩ => ⟨I1.kIn, ?_⟩) he hpl
  have hl : us.length + 1 = (("self" : Str) :: names).length := by
    have := F.len _ _ _ _ q.2
    rw [← this, List.length_cons, ← av.length, r.length]
  refine thn (run_newI (x := C) (us := us) (zs := []) (kw := []) (Q := fun d μ' => ∃ fs, d = .mut μ1.length ∧ μ' = μ1 ++ [.ins C fs] ∧ mff fs = true ∧ Q (.obj C fs) μ1) M F hr hgd I1 m av (by rw [List.append_nil]; exact r) (fun s self ki => ?_) q) fun u s2 ⟨v, H2, I2, rv, q2⟩ => ⟨v, H2, I2, rv, ?_⟩
  · have b := b1 s (self :: us) ki (by rw [List.append_nil]; simpa using hl)
    rw [List.append_nil] at b
    rw [List.append_nil]
    exact b
  · have := afe_frz (Q := fun d μ' => ∃ fs, d = .obj C fs ∧ μ' = μ1 ∧ mff fs = true ∧ Q d μ1) m (afe_imp q2 fun d μ' ⟨fs, e1, e2, e3, e4⟩ => ⟨fs, e1, e2, fs, rfl, rfl, e3, e4⟩) (fun fs ⟨gs, e, _, e3, _⟩ => by cases e; exact e3)
    exact (afe_imp this fun d μ' ⟨fs, e1, e2, _, e4⟩ => by rw [e2]; exact e4).back t
end
end DL

/-! D31: lists put together, list(range(..)), parts of lists, tuples turned round. -/
namespace DL
open PySem PySem.Spec PyProof.Rows L2
section
variable {X : Cx} {J : JX} {e a b c o i : Expr} {es : List Expr} {ρ : Env'} {μ : Mu} {σ : L2.St} {H : Hp} {pos p2 : Pos}
/-! ### frozen lists put together -/
def rCatL (K : PySem.W.Frag) : R2 := fun x y H Q => ∃ l b xs zs, x = .ref l ∧ y = .ref b ∧ SqL K H l xs ∧ SqL K H b zs ∧ xs.length + zs.length ≤ sizeLine ∧ ∀ p, H p = none → Q (.ref p) (upd H p (.lst (xs ++ zs)))
theorem op_catL : OpR X (binaryOp .Add) (rCatL X.K) := by
  intro pins s σ H x y v u Q I rx ry h
  obtain ⟨l, b, xs, zs, rfl, rfl, hH, hB, hz, q⟩ := h
  cases rx
  cases ry
  obtain ⟨its, r, e, _⟩ := I.list hH
  obtain ⟨its2, r2, e2, _⟩ := I.list hB
  have hl := r.length
  have hl2 := r2.length
  obtain ⟨⟨cls, dd, data, sl⟩, n, g1, g2, g3, g4⟩ := e
  obtain ⟨⟨cls2, dd2, data2, sl2⟩, n2, k1, k2, k3, k4⟩ := e2
  simp only at g2 g3 g4 k2 k3 k4
  subst g2 g3 g4 k2 k3 k4
  have ea : its.toArray ++ its2.toArray = (its ++ its2).toArray := by simp
  refine concat_meets ⟨_, g1, rfl⟩ ⟨_, k1, rfl⟩ noFill_list_add seq_list_add PySem.F.slot_list_add PySem.F.entry_list_add (PySem.F.args_list_add_2 _ _) (list_addW l b its.toArray its2.toArray n n2 none none sl sl2 (by rw [List.size_toArray, List.size_toArray]; omega)) ⟨g1, k1, ?_⟩
  rw [ea]
  exact ⟨.ref _, _, I.lnew (t' := s.toks) (r.append r2) (by rw [List.length_append]; omega), rfl, q _ I.fresh⟩
theorem od_catL : OpD X (binaryOp .Add) (fun d e μ Q => ∃ xs ys, d = .lst xs ∧ e = .lst ys ∧ xs.length + ys.length ≤ sizeLine ∧ Q (.lst (xs ++ ys)) μ) := by
  refine ⟨_, op_catL, ?_⟩
  intro as G H μ x y d e Q Q' m a1 a2 h f
  obtain ⟨xs, ys, rfl, rfl, hl, q⟩ := h
  cases a1 with
  | lst h1 t1 =>
    cases a2 with
    | lst h2 t2 =>
      refine ⟨_, _, _, _, rfl, rfl, m.same.seq h1, m.same.seq h2, by rw [t1.length, t2.length]; exact hl, fun u hu => f _ _ ?_⟩
      exact .lay m hu (.lst (.of upd_same) ((t1.append t2).mono (same_upd_none (m.same.free hu)) fun _ _ h => h)) q
/-! ### list(range(..)) -/
theorem ats_rg {K : PySem.W.Frag} {as : List Addr} {G : Hp} (lo hi : Int) : Ats K as G (rgV lo hi) (rng lo (hi - lo).toNat) := by
  unfold rgV rng
  generalize (hi - lo).toNat = n
  induction List.range n with
  | nil => exact .nil
  | cons x r ih => exact .cons (.int _) ih
theorem dE_listRg1 {p q : Pos} {pr : Pos} {Q : Dt → Mu → Prop} (hc : X.calm = true) (hm1 : X.mg "list" = none) (hm : X.mg "range" = none) (h : dE X J a ρ μ fun d μ1 => ∃ n : Int, d = .int n ∧ 0 ≤ n ∧ n ≤ 16777216 ∧ Q (.lst (rng 0 n.toNat)) μ1)
    (hg1 : Gl X "list" := by rfl) (hg : Gl X "range" := by rfl) (na : starEach [a] X.env = (false, eval a X.env) :: starEach [] X.env := by rfl) (nb : starEach [(.Call (.Name "range" p) [a] [] pr : Expr)] X.env = (false, eval (.Call (.Name "range" p) [a] [] pr) X.env) :: starEach [] X.env := by rfl) :
    dE X J (.Call (.Name "list" q) [.Call (.Name "range" p) [a] [] pr] [] pos) ρ μ Q := .mk fun as G H σ S => by
  refine (pe_listRg hc hg1 hm1 (prg_1 hg hm peW na) nb).w ?_
  refine wE_mono (h as G H σ S) fun v H1 ⟨d, μ1, as1, G1, t1, m1, a1, n, e1, h0, h1, q⟩ => ?_
  subst e1
  cases a1
  refine ⟨n, rfl, RgOk.of_le (Int.le_refl _) h1 (by omega) h0, fun p hp => ?_⟩
  have ar := ats_rg (K := X.K) (as := as1) (G := G1) 0 n
  rw [Int.sub_zero] at ar
  exact (AfE.lay m1 hp (.lst (.of upd_same) (ar.mono (same_upd_none (m1.same.free hp)) fun _ _ h => h)) q).back t1
theorem dE_tupRg1 {p q : Pos} {pr : Pos} {Q : Dt → Mu → Prop} (hc : X.calm = true) (hm1 : X.mg "tuple" = none) (hm : X.mg "range" = none) (h : dE X J a ρ μ fun d μ1 => ∃ n : Int, d = .int n ∧ 0 ≤ n ∧ n ≤ 16777216 ∧ Q (.tup (rng 0 n.toNat)) μ1)
    (hg1 : Gl X "tuple" := by rfl) (hg : Gl X "range" := by rfl) (na : starEach [a] X.env = (false, eval a X.env) :: starEach [] X.env := by rfl) (nb : starEach [(.Call (.Name "range" p) [a] [] pr : Expr)] X.env = (false, eval (.Call (.Name "range" p) [a] [] pr) X.env) :: starEach [] X.env := by rfl) :
    dE X J (.Call (.Name "tuple" q) [.Call (.Name "range" p) [a] [] pr] [] pos) ρ μ Q := .mk fun as G H σ S => by
  refine (pe_tupRg hc hg1 hm1 (prg_1 hg hm peW na) nb).w ?_
  refine wE_mono (h as G H σ S) fun v H1 ⟨d, μ1, as1, G1, t1, m1, a1, n, e1, h0, h1, q⟩ => ?_
  subst e1
  cases a1
  refine ⟨n, rfl, RgOk.of_le (Int.le_refl _) h1 (by omega) h0, fun p hp => ?_⟩
  have ar := ats_rg (K := X.K) (as := as1) (G := G1) 0 n
  rw [Int.sub_zero] at ar
  exact (AfE.lay m1 hp (.tup (.of upd_same) (ar.mono (same_upd_none (m1.same.free hp)) fun _ _ h => h)) q).back t1
/-! ### parts of lists -/
def cutD (xs : List Dt) (lo hi : Option Int) : List Dt := (xs.drop (HT.sIx xs.length 0 lo)).take (HT.sIx xs.length xs.length hi - HT.sIx xs.length 0 lo)
theorem Ats.cutV {K : PySem.W.Frag} {as : List Addr} {G : Hp} {vs : List V} {ds : List Dt} (h : Ats K as G vs ds) (lo hi : Option Int) : Ats K as G (L2.cutV vs lo hi) (cutD ds lo hi) := by
  unfold L2.cutV cutD
  rw [h.length]
  exact (h.drop _).take _
/-- xs[:hi] -/
theorem dE_upto {Q : Dt → Mu → Prop} (h : dE X J a ρ μ fun d μ1 => dE X J b ρ μ1 fun e μ2 => ∃ xs i, d = .lst xs ∧ e = .int i ∧ Q (.lst (cutD xs none (some i))) μ2) : dE X J (.Subscript a (.Slice none (some b) none p2) pos) ρ μ Q := .mk fun as G H σ S => by
  refine (pe_slice sl_list peW po_none (po_some peW)).w ?_
  refine wE_mono (h as G H σ S) fun x H1 ⟨d, μ1, as1, G1, t1, m1, a1, q⟩ => ?_
  refine wE_mono (q as1 G1 H1 σ (S.step t1 m1)) fun y H2 ⟨e, μ2, as2, G2, t2, m2, a2, xs, i, e1, e2, q2⟩ => ?_
  subst e1 e2
  cases a1 with
  | lst h1 l1 =>
    cases a2
    refine ⟨i, rfl, _, _, rfl, m2.same.seq (t2.gg.seq h1), fun p hp => ?_⟩
    exact (AfE.lay m2 hp (.lst (.of upd_same) (((l1.mono t2.gg t2.ix).cutV none (some i)).mono (same_upd_none (m2.same.free hp)) fun _ _ h => h)) q2).back (t1.trans t2)
/-- xs[lo:] -/
theorem dE_from {Q : Dt → Mu → Prop} (h : dE X J a ρ μ fun d μ1 => dE X J b ρ μ1 fun e μ2 => ∃ xs i, d = .lst xs ∧ e = .int i ∧ Q (.lst (cutD xs (some i) none)) μ2) : dE X J (.Subscript a (.Slice (some b) none none p2) pos) ρ μ Q := .mk fun as G H σ S => by
  refine (pe_slice sl_list peW (po_some peW) po_none).w ?_
  refine wE_mono (h as G H σ S) fun x H1 ⟨d, μ1, as1, G1, t1, m1, a1, q⟩ => ?_
  refine wE_mono (q as1 G1 H1 σ (S.step t1 m1)) fun y H2 ⟨e, μ2, as2, G2, t2, m2, a2, xs, i, e1, e2, q2⟩ => ?_
  subst e1 e2
  cases a1 with
  | lst h1 l1 =>
    cases a2
    refine ⟨i, rfl, _, _, rfl, m2.same.seq (t2.gg.seq h1), fun p hp => ?_⟩
    exact (AfE.lay m2 hp (.lst (.of upd_same) (((l1.mono t2.gg t2.ix).cutV (some i) none).mono (same_upd_none (m2.same.free hp)) fun _ _ h => h)) q2).back (t1.trans t2)
end
end DL

/-! D32: tuples turned round. -/
namespace DL
open PySem PySem.Spec PyProof.Rows L2
section
variable {prog : Program} {w : World} {A : Around} {s : Shared} {E : Value → Shared → Prop}
theorem pick_rev (xs : Array Value) : ((List.range xs.size).filterMap fun (m : Nat) => xs[((xs.size : Int) - 1 + (m : Int) * -1).toNat]?).toArray = xs.toList.reverse.toArray := by
  congr 1
  have e : ∀ m ∈ List.range xs.size, xs[((xs.size : Int) - 1 + (m : Int) * -1).toNat]? = some (xs.toList.reverse.getD m .none) := fun m hm => by
    have hm := List.mem_range.mp hm
    have h1 : ((xs.size : Int) - 1 + (m : Int) * -1).toNat = xs.size - 1 - m := by omega
    rw [h1, List.getD_eq_getElem?_getD, List.getElem?_reverse (by simpa using hm)]
    have h2 : xs.size - 1 - m < xs.size := by omega
    simp [h2]
  have go : ∀ l : List Nat, (∀ m ∈ l, xs[((xs.size : Int) - 1 + (m : Int) * -1).toNat]? = some (xs.toList.reverse.getD m .none)) → l.filterMap (fun (m : Nat) => xs[((xs.size : Int) - 1 + (m : Int) * -1).toNat]?) = l.map fun m => xs.toList.reverse.getD m .none := by
    intro l
    induction l with
    | nil => intro _; rfl
    | cons x r ih =>
      intro h
      rw [List.filterMap_cons, h x List.mem_cons_self, ih fun m hm => h m (List.mem_cons_of_mem _ hm)]
      rfl
  rw [go _ e]
  refine List.ext_getElem (by simp) fun k h1 h2 => ?_
  simp only [List.length_map, List.length_range] at h1
  simp [List.getD_eq_getElem?_getD, h1]
theorem sliceApplied_rev {sl : Addr} {n : Nat} {t : Tok} {Q : Int × Int × Nat → Shared → Prop} (hs : s.heap.IsSliceOf sl .none .none (.int (-1) t))
    (h : Q ((n : Int) - 1, -1, n) s) : wpAny (model prog w) A (Builtin.Slice.sliceApplied (.ref sl) (pure (n : Int))) Q E s := by
  obtain ⟨os, hos, hcs, hds⟩ := id hs
  unfold Builtin.Slice.sliceApplied Builtin.Slice.sliceFields
  refine wpAny_bind (wpAny_bind (wpAny_field hos hds (x := .none) rfl (wpAny_bind (wpAny_field hos hds (x := .none) rfl (wpAny_bind (wpAny_field hos hds (x := .int (-1) t) rfl (wpAny_pure ?_)))))))
  refine wpAny_bind (HT.slicePart_ (.int (-1) t) ?_)
  show wpAny _ _ (if ((-1 : Int) == 0) = true then _ else _) _ _ s
  rw [if_neg (by decide)]
  refine wpAny_bind (HT.slicePart_ .none (wpAny_bind (HT.slicePart_ .none (wpAny_bind (wpAny_pure ?_)))))
  have e : Builtin.Slice.sliceAdjust none none (-1) (n : Int) = ((n : Int) - 1, -1) := by simp [Builtin.Slice.sliceAdjust]
  show wpAny _ _ (match Builtin.Slice.sliceAdjust none none (-1) (n : Int) with | (lo, hi) => pure (lo, (-1 : Int), Builtin.Slice.slicePlaces lo hi (-1))) _ _ s
  rw [e]
  have e2 : Builtin.Slice.slicePlaces ((n : Int) - 1) (-1) (-1) = n := by
    unfold Builtin.Slice.slicePlaces
    simp
    omega
  show wpAny _ _ (pure ((n : Int) - 1, (-1 : Int), Builtin.Slice.slicePlaces ((n : Int) - 1) (-1) (-1))) _ _ s
  rw [e2]
  exact wpAny_pure h
theorem getItem_rev {t sl : Addr} {items : Array Value} {tk : Tok} {Q : Value → Shared → Prop} (ht : IsTup s.heap t items) (hs : s.heap.IsSliceOf sl .none .none (.int (-1) tk))
    (h : Q (.ref s.heap.objs.size) { s with heap := s.heap.push { cls := .type "tuple", data := .seq items.toList.reverse.toArray } })
    (hsz : items.size ≤ sizeLine) : wpAny (model prog w) A (getItem (.ref t) (.ref sl)) Q E s := by
  have htake : sizeOk (.seq items.toList.reverse.toArray) := by
    show items.toList.reverse.toArray.size ≤ sizeLine
    rw [List.size_toArray, List.length_reverse, Array.length_toList]
    exact hsz
  obtain ⟨os, hos, hcs, hds⟩ := id hs
  have hTs : s.TypeIs (.ref sl) "slice" := ⟨os, hos, hcs⟩
  unfold getItem
  try with_reducible refine wpAny_holding ?_
  first | refine wpAny_bind (wpAny_pure ?_) | skip
  refine wpAny_bind (wpAny_sequenceKey ht.typeIs (by decide) ?_)
  refine wpAny_bind (wpAny_callSpecial?_slot (name := Str.ofString "__getitem__") ht.typeIs PyProof.Rows.slot_tuple_getitem
    (wpAny_call_entry PyProof.Rows.slot_tuple_getitem ht.typeIs PyProof.Rows.entry_tuple_getitem ?_ (PyProof.Rows.args_tuple_getitem _ _)))
  show wpAny _ _ (Builtin.Tuple.tupleItemsOf (.ref t) >>= _) _ _ s
  refine wpAny_bind (PyProof.Rows.tupleItemsOf_ ht ?_)
  refine wpAny_bind (wpAny_typeOf hTs ?_)
  rw [if_pos (by decide)]
  refine wpAny_bind (sliceApplied_rev hs ?_)
  have hno : ¬ ((((items.size : Int) - 1) == 0 && (-1 : Int) == 1 && items.size == items.size) = true) := by
    intro q
    rw [Bool.and_eq_true, Bool.and_eq_true] at q
    exact absurd (eq_of_beq q.1.2) (by decide)
  show wpAny _ _ (if (((items.size : Int) - 1) == 0 && (-1 : Int) == 1 && items.size == items.size) = true then _ else _) _ _ s
  rw [if_neg hno, pick_rev]
  first
    | exact wpAny_bind (m := Builtin.Tuple.tupleExact _) (wpAny_newObj_type (wpAny_pure ⟨_, rfl, wpAny_pure h⟩) htake)
    | exact wpAny_bind (m := Builtin.Tuple.tupleExact _) (wpAny_newObj_type (wpAny_bind (wpAny_pure (wpAny_pure ⟨_, rfl, wpAny_pure h⟩))) htake)
    | exact wpAny_bind (wpAny_bind (m := Builtin.Tuple.tupleExact _) (wpAny_newObj_type (wpAny_pure (wpAny_pure ⟨_, rfl, wpAny_pure h⟩)) htake))
    | exact wpAny_bind (wpAny_bind (m := Builtin.Tuple.tupleExact _) (wpAny_newObj_type (wpAny_pure ⟨_, rfl, wpAny_pure h⟩) htake))
end
section
variable {X : Cx} {J : JX} {e a b c o i : Expr} {es : List Expr} {ρ : Env'} {μ : Mu} {σ : L2.St} {H : Hp} {pos p2 : Pos}
def tRev (K : PySem.W.Frag) (ta te : TE) : TE := fun σ H Q => ta σ H fun x H1 => te σ H1 fun y H2 => ∃ a xs, x = .ref a ∧ y = .int (-1) ∧ SqT K H2 a xs ∧ ∀ p, H2 p = none → Q (.ref p) (upd H2 p (.tup xs.reverse))
theorem pe_rev {ta te : TE} (ha : PE X a ta) (he : PE X e te) : PE X (.Subscript a (.Slice none none (some e) p2) pos) (tRev X.K ta te) := by
  refine ⟨fun pins s σ H Q I h => ?_⟩
  refine Subscript_ (thn (ha.run pins s σ H _ I h) fun v s1 ⟨x, H1, I1, r1, q1⟩ => ?_)
  refine wpAny_Slice ?_
  rw [evalPart_none]
  refine wpAny_pure ?_
  refine wpAny_pure ?_
  rw [evalPart_some]
  refine thn (he.run pins s1 σ H1 _ I1 q1) fun vs s3 ⟨y, H3, I3, r3, q3⟩ => ?_
  obtain ⟨a', xs, rfl, rfl, hx, q⟩ := q3
  obtain ⟨tk, rfl⟩ := r3
  cases r1
  have I4 : Inv X pins σ H3 { s3 with heap := s3.heap.push { cls := .type "slice", data := .fields #[.none, .none, .int (-1) tk] } } := I3.kept (t' := s3.toks) fun b ob q => Heap.get?_push_of_some _ q
  obtain ⟨its, r, ht, hz⟩ := I4.tuple hx
  have hl := r.length
  show wpAny (model X.prog X.w) X.A (subscriptTail a (.Slice none none (some e) p2) (.ref a') (.ref s3.heap.objs.size)) (EP X pins σ Q) X.xe { s3 with heap := s3.heap.push { cls := .type "slice", data := .fields #[.none, .none, .int (-1) tk] } }
  refine tail_any (ops := [.ref a', .ref s3.heap.objs.size]) ht.typeIs PyProof.Rows.slot_tuple_getitem.lookup ?_ (by with_unfolding_all rfl)
  refine getItem_rev ht (Heap.IsSliceOf.new ..) ?_ (by rw [List.size_toArray]; omega)
  refine ⟨.ref _, _, I4.laid (t' := s3.toks) (o := .tup xs.reverse) (fun b ob q => Heap.get?_push_of_some _ q) (Nat.le_refl _) ?_, rfl, q _ (I4.hok.fresh (Nat.le_refl _))⟩
  exact ⟨by rw [List.length_reverse]; exact hz, _, r.reverse, IsTup.new _ _⟩
theorem Ats.reverse {K : PySem.W.Frag} {as : List Addr} {G : Hp} : ∀ {vs : List V} {ds : List Dt}, Ats K as G vs ds → Ats K as G vs.reverse ds.reverse
  | _, _, .nil => .nil
  | _, _, .cons h t => by
    rw [List.reverse_cons, List.reverse_cons]
    exact (Ats.reverse t).append (.cons h .nil)
/-- t[::-1] -/
theorem dE_rev {Q : Dt → Mu → Prop} (h : dE X J a ρ μ fun d μ1 => dE X J e ρ μ1 fun y μ2 => ∃ xs, d = .tup xs ∧ y = .int (-1) ∧ Q (.tup xs.reverse) μ2) : dE X J (.Subscript a (.Slice none none (some e) p2) pos) ρ μ Q := .mk fun as G H σ S => by
  refine (pe_rev peW peW).w ?_
  refine wE_mono (h as G H σ S) fun x H1 ⟨d, μ1, as1, G1, t1, m1, a1, q⟩ => ?_
  refine wE_mono (q as1 G1 H1 σ (S.step t1 m1)) fun y H2 ⟨e, μ2, as2, G2, t2, m2, a2, xs, e1, e2, q2⟩ => ?_
  subst e1 e2
  cases a1 with
  | tup h1 l1 =>
    cases a2
    refine ⟨_, _, rfl, rfl, Same.tup m2.same (Same.tup t2.gg h1), fun p hp => ?_⟩
    exact (AfE.lay m2 hp (.tup (.of upd_same) ((l1.mono t2.gg t2.ix).reverse.mono (same_upd_none (m2.same.free hp)) fun _ _ h => h)) q2).back (t1.trans t2)
end
end DL

/-! D33: in, by deep equality. -/
namespace DL
open PySem PySem.Spec PyProof.Rows L2
variable {X : Cx}
theorem od_inD (hu : X.A.units + 65 < cLine) : OpD X (compareOp .In) (fun d e μ Q => ∃ p ds, toPy d = some p ∧ toPy e = some (.list ds) ∧ SeqAt.shaped p = true ∧ SeqAt.shaped (.list ds) = true ∧ Q (.bl (ds.any fun z => PyData.eqv z p)) μ) := by
  refine ⟨_, op_inD hu, ?_⟩
  intro as G H μ x y d e Q Q' m a1 a2 h f
  obtain ⟨p, ds, h1, h2, s1, s2, q⟩ := h
  exact ⟨p, ds, a1.dp m.same h1 (SeqAt.canLay_of_shaped s1), a2.dp m.same h2 (SeqAt.canLay_of_shaped s2), s1, s2, f _ _ (.now m (.bl _) q)⟩
end DL

/-! D34: calls of what a variable holds: a def, a lambda with parameters. -/
namespace DL
open PySem PySem.Spec PyProof.Rows L2
section
variable {X : Cx} {J : JX} {e : Expr} {es : List Expr} {ρ : Env'} {μ : Mu} {pos : Pos} {k : Nat} {ps : List Str} {R : Spc}
/-- as dE_lam, of a lambda that may have parameters -/
theorem dE_lamG {n : Nat} {c P : Addr} {params : Arguments} {body : Expr} {scope : Scope} {Q : Dt → Mu → Prop} (TB : LamX.TabB X.base X.mg c P) (hcode : X.env.code = .ref c) (hk : μ[n]? = some (.tab n P (X.env.qual ++ "<lambda>"))) (hfr : ∀ y ∈ scope.names, y.2 = .free → X.env.scope.names.lookup y.1 = some .cell ∨ X.env.scope.names.lookup y.1 = some .free)
    (q : Q (.clo ⟨X.env.qual ++ "<lambda>", params, body, scope⟩ (cloFrom X.env.cells scope.names [])) μ) (hdef : defaultsOf params X.env = ([], []) := by rfl) : dE X J (.Lambda params body scope pos) ρ μ Q := .mk fun as G H σ S pins s I => by
  have hfree : ∀ y ∈ scope.names, y.2 = .free → ∃ c, X.env.cells.lookup y.1 = some c := fun y hy e => by
    rcases hfr y hy e with k | k
    · exact I.ok.has _ (.inl k)
    · exact I.ok.has _ (.inr k)
  obtain ⟨P', o, e1, hP, ⟨e2, ps, rfl, ht, ha⟩, gP⟩ := S.mem.cell n _ hk (fun z => by cases z)
  rw [e1] at e2
  cases e2
  refine PySem.W.kla_eval hdef ?_
  have bP : s.heap.BuiltinsAt X.mg P := TB.bm.keeps I.bk
  have hPs : s.heap.get? P = some { cls := .none, data := .fields ps } := I.hok P _ hP
  -- the end: the function object is laid
  have fin : ∀ (H1 : Hp) (h' : Heap) (tk : Nat) (c' : Addr) (pm ctv : Value) (G1 : Hp), Inv X pins σ H1 { s with heap := h', toks := tk } → Step as G H as G1 H1 → Mem X.K as G1 H1 μ → G1 c' = some (LamX.CodeO c' (X.env.qual ++ "<lambda>")) →
      EP X pins σ (AfE X.K as G H Q) (.ref h'.objs.size) { s with heap := h'.push (PySem.W.kla_obj "<lambda>" (X.env.qual ++ "<lambda>") params body scope (cloFrom X.env.cells scope.names []) pm c' ctv), toks := tk } := by
    intro H1 h' tk c' pm ctv G1 I1 t1 m1 hc
    have hn : H1 h'.objs.size = none := I1.hok.fresh (Nat.le_refl _)
    have ob : ObjOk X.prog X.w (upd H1 h'.objs.size (xo h'.objs.size (PySem.W.kla_obj "<lambda>" (X.env.qual ++ "<lambda>") params body scope (cloFrom X.env.cells scope.names []) pm c' ctv)))
        (h'.push (PySem.W.kla_obj "<lambda>" (X.env.qual ++ "<lambda>") params body scope (cloFrom X.env.cells scope.names []) pm c' ctv)) h'.objs.size (xo h'.objs.size (PySem.W.kla_obj "<lambda>" (X.env.qual ++ "<lambda>") params body scope (cloFrom X.env.cells scope.names []) pm c' ctv)) :=
      ⟨Heap.get?_push_size _ rfl, ⟨_, Heap.get?_push_size _ rfl⟩, fun h1 h2 p st => st _ p⟩
    have I2 := I1.laid (t' := tk) (h' := h'.push (PySem.W.kla_obj "<lambda>" (X.env.qual ++ "<lambda>") params body scope (cloFrom X.env.cells scope.names []) pm c' ctv)) (fun b u z => Heap.get?_push_of_some _ z) (Nat.le_refl _) ob
    exact ⟨.ref h'.objs.size, _, I2, rfl, _, μ, as, _, t1.trans (.lay m1 hn), m1.lay hn, .clo (L := ⟨X.env.qual ++ "<lambda>", params, body, scope⟩) (pm := pm) (ctv := ctv) (c' := c') upd_same (same_upd_none (m1.same.free hn) _ _ hc), q⟩
  cases hc : codeAmong pos ps.toList with
  | none =>
    refine PySem.W.kla_makeFunction (mg := X.mg) (c := c) (P := P) (ps := ps) (closure_ok hfree) I.ok.glob (I.mod.glob.keeps I.bk) hcode (TB.code.keeps I.bk) hPs ht hc TB.gP bP fun c' ctv h' tk hx hge hlt hrec htb => ?_
    obtain ⟨c2, oc, vs, t, e2, hoc, hd, hv⟩ := hrec
    cases e2
    have nC : H c' = none := I.hok.fresh hge
    have nPc : P ≠ c' := ne_of_none hP nC
    have I1 := LamX.inv_table (t' := tk) (more := #[rawInt pos.line, rawInt pos.col, .ref c']) (h' := h') I hP (fun b o hb e => hx b o hb e) htb hge ⟨oc, vs, t, hoc, hd, hv⟩
    rw [upd_comm nPc] at I1
    have m1 := S.mem.lay (o := LamX.CodeO c' (X.env.qual ++ "<lambda>")) nC
    have eL : (ps ++ #[rawInt pos.line, rawInt pos.col, .ref c']).toList = ps.toList ++ [rawInt pos.line, rawInt pos.col, .ref c'] := by simp
    have m2 := m1.put (mo := .tab n P (X.env.qual ++ "<lambda>")) (o := .tbl (ps ++ #[rawInt pos.line, rawInt pos.col, .ref c'])) e1 hk (fun z => by cases z) ⟨e1, _, rfl, by rw [eL]; exact PySem.TriplesOk_snoc _ _ _ _ ht, fun p' cv hcv => by
      rw [eL] at hcv
      rcases LamX.among_app _ ht hcv with z | z
      · obtain ⟨c0, z1, z2⟩ := ha p' cv z
        exact ⟨c0, z1, same_upd_none (S.mem.same.free nC) _ _ z2⟩
      · exact ⟨c', z, upd_same⟩⟩
    have eμ : μ.set n (.tab n P (X.env.qual ++ "<lambda>")) = μ := by
      apply List.ext_getElem?
      intro j
      by_cases hj : n = j
      · subst hj
        rw [List.getElem?_set_self (List.getElem?_eq_some_iff.mp hk).1, hk]
      · rw [List.getElem?_set_ne hj]
    rw [eμ] at m2
    exact fin _ h' tk c' _ ctv _ I1 ((Step.lay S.mem nC).trans (.put m1 e1)) m2 upd_same
  | some cv =>
    obtain ⟨c', e3, hco⟩ := ha pos cv hc
    subst e3
    refine PySem.W.kla_makeFunctionHit (mg := X.mg) (c := c) (P := P) (ps := ps) (closure_ok hfree) I.ok.glob (I.mod.glob.keeps I.bk) hcode (TB.code.keeps I.bk) hPs ht hc bP fun ctv h' tk hx hsz => ?_
    have I1 : Inv X pins σ H { s with heap := h', toks := tk } := I.kept fun b o e => hx b o e
    exact fin H h' tk c' _ ctv G I1 (.refl _ _ _) S.mem hco

/-- a(..), the variable holds a def -/
theorem dE_callV {i : Nat} {a : Str} {p1 p2 : Pos} {f : Addr} {fd : FuncData} {Q : Dt → Mu → Prop} (F : FnG X.prog X.w X.K X.mg X.base k f fd ps R) (hk : PySem.W.keepIn X.K (.ref f) = true) (hb : Binds X.K fd ps []) (hr : Room k X.A) (hgd : X.A.guards = some [])
    (hN : X.N[i]? = some a) (hi : ρ[i]? = some (some (.val (.ref f)))) (h : dA X J (e :: es) ρ μ fun ds μ1 => R ds μ1 Q J)
    (hv : Vis X.env.scope a := by first | exact Or.inl rfl | exact Or.inr (Or.inl rfl) | exact Or.inr (Or.inr rfl)) (hd : (a == ("__debug__" : Str)) = false := by decide) (hcl : (a == ("__classdict__" : Str)) = false := by decide)
    (he : starEach (e :: es) X.env = (false, eval e X.env) :: starEach es X.env := by rfl) (hpl : (backTo p2 (starEach es X.env)).any (·.1) = false := by rfl) :
    dE X J (.Call (.Name a p1) (e :: es) [] p2) ρ μ Q := .mk fun as G H σ S pins s I => by
  obtain ⟨v0, e1, a1⟩ := S.sl.at_ i _ hi
  cases a1 with
  | val =>
    refine wpAny_Call_Name_kw (thn ((pe_var (pos := p1) (i := i) hN hv hd hcl).run pins s σ H (fun v H1 => v = .ref f ∧ H1 = H) I ⟨.ref f, e1, rfl, rfl⟩) fun u s1 ⟨v, H1, I1, r1, q1⟩ => ?_)
    obtain ⟨ev, eH⟩ := q1
    subst ev
    rw [eH] at I1
    obtain rfl : u = Value.ref f := r1
    refine PySem.W.callWith_K (h₀ := X.base) I1.ok.mod.kin hk (thn (h as G H σ S p2 pins s1 I1) fun us s2 ⟨vs, H2, I2, r, ds, μ1, as1, G1, t, m, av, q⟩ => ⟨I2.kIn, ?_⟩) he hpl
    have z := run_fnG (Q := AfE X.K as1 G1 H2 Q) F hr hgd hb (S.tk.step t) I2 r ⟨as1, G1, ds, μ1, Q, J, m, av, q, fun _ _ z => z, fun _ _ _ z => z⟩
    exact thn z fun u s3 ⟨v, H3, I3, rv, q2⟩ => ⟨v, H3, I3, rv, q2.back t⟩
/-- a(..), the variable holds a lambda with parameters and without cells -/
theorem dE_actP {L : LamI} {i : Nat} {a : Str} {p1 p2 : Pos} {N : List Str} {Q : Dt → Mu → Prop} (hN : X.N[i]? = some a) (hi : ρ[i]? = some (some (.clo L []))) (S' : FnScope N ps L.scope)
    (hbind : ∀ (pm cv ctv : Value) (us : List Value), us.length = ps.length → bindArgs (PySem.W.kla_fn "<lambda>" L.qual L.params L.body L.scope [] pm cv ctv) ⟨us, []⟩ = pure (ps.zip us))
    (hr : Room (k + 1) X.A) (hg : X.A.guards = some [])
    (h : dA X J (e :: es) ρ μ fun ds μ1 => ds.length = ps.length ∧ mfs ds = true ∧ ∀ (f : Addr) (c' : Addr) (A : Around) (outer : List Env) (s : Shared) (H : Hp) (E : XK), Room k (A.deeper (envOfC L.qual L.scope s.heap.objs.size f (.ref c'))) → A.guards = some [] →
      dE (cxOf (L2.CX X.prog X.w) X.prog X.w X.K X.mg X.base N L.qual L.scope f (.ref c') A outer s H E) (fun C fs _ => mff fs = true ∧ J C fs μ1) L.body (startD N ds) [] fun d _ => d.mf = true ∧ Q d μ1)
    (hv : Vis X.env.scope a := by first | exact Or.inl rfl | exact Or.inr (Or.inl rfl) | exact Or.inr (Or.inr rfl)) (hd : (a == ("__debug__" : Str)) = false := by decide) (hcl : (a == ("__classdict__" : Str)) = false := by decide)
    (he : starEach (e :: es) X.env = (false, eval e X.env) :: starEach es X.env := by rfl) (hpl : (backTo p2 (starEach es X.env)).any (·.1) = false := by rfl) :
    dE X J (.Call (.Name a p1) (e :: es) [] p2) ρ μ Q := .mk fun as G H σ S pins s I => by
  obtain ⟨v0, e1, a1⟩ := S.sl.at_ i _ hi
  cases a1 with
  | clo hf hc =>
    rename_i f c' pm ctv
    refine wpAny_Call_Name_kw (thn ((pe_var (pos := p1) (i := i) hN hv hd hcl).run pins s σ H (fun v H1 => v = .ref f ∧ H1 = H) I ⟨.ref f, e1, rfl, rfl⟩) fun u s1 ⟨v, H1, I1, r1, q1⟩ => ?_)
    obtain ⟨ev, eH⟩ := q1
    subst ev
    rw [eH] at I1
    obtain rfl : u = Value.ref f := r1
    have of1 := xo_ok I1.hok (S.mem.same _ _ hf)
    refine PySem.W.callWith_F ⟨_, _, _, _, of1⟩ (thn (h as G H σ S p2 pins s1 I1) fun us s2 ⟨vs, H2, I2, r, ds, μ1, as1, G1, t, m, av, hl, mf, hbody⟩ => ?_) he hpl
    have of2 := xo_ok I2.hok (m.same _ _ (t.gg _ _ hf))
    obtain ⟨⟨oc, vs', tt, hoc, hdc, hvc⟩, _, _⟩ := I2.hok c' _ (m.same _ _ (t.gg _ _ hc))
    refine ⟨⟨_, _, _, _, of2⟩, ?_⟩
    have e0 := I2.env0
    have hul : us.length = ps.length := by rw [← r.length, av.length, hl]
    have lim : s2.heap.NoLimit := e0.mod.nolimit.keeps fun b o e => (e0.bs b o e).1
    have hkind : ∀ y ∈ ps.zip us, L.scope.names.lookup y.1 = some .local ∨ (L.scope.names.lookup y.1 = some .cell ∧ ((cellsFrom (s2.heap.objs.size + 1) L.scope.names []).lookup y.1).isSome = true) := fun ⟨n, v⟩ hy => by
      rcases S'.par n (List.of_mem_zip hy).1 with q | q
      · exact .inl q
      · exact .inr ⟨q, PySem.W.cellsFrom_some _ _ _ (.inl q)⟩
    have rc : codeAny (model X.prog X.w) X.A (.call (.ref f) ⟨us, []⟩) (CR (L2.CX X.prog X.w) X.stack X.prog X.w H2 s2 (AfE X.K [] G1 H2 fun d _ => d.mf = true ∧ Q d μ1)
        (fun cls d H' => WJ X.K (fun C fs _ => mff fs = true ∧ J C fs μ1) [] G1 H2 cls d H')) s2 := by
      refine PySem.W.kla_callFunE hr.depth of2 rfl S'.co S'.gen rfl ⟨c', oc, vs', tt, rfl, hoc, hdc, hvc⟩ ?_
      rw [hbind _ _ _ _ hul]
      refine wpAny_pure (wpAny_newFunctionEnv_cells S'.kind hkind fun env he s3 x => ?_)
      subst he
      refine ⟨lim.keeps x.toInCall.keep, ?_⟩
      have I3 : Inv (cxOf (L2.CX X.prog X.w) X.prog X.w X.K X.mg X.base N L.qual L.scope f (.ref c') X.A X.stack s2 H2 (fun cls d H' => WJ X.K (fun C fs _ => mff fs = true ∧ J C fs μ1) [] G1 H2 cls d H')) [] (L2.start N vs) H2 s3 := inv_start S' hr.hd e0 (by rw [av.length, hl]) r x
      have tk : TakesD (cxOf (L2.CX X.prog X.w) X.prog X.w X.K X.mg X.base N L.qual L.scope f (.ref c') X.A X.stack s2 H2 (fun cls d H' => WJ X.K (fun C fs _ => mff fs = true ∧ J C fs μ1) [] G1 H2 cls d H')) (fun C fs _ => mff fs = true ∧ J C fs μ1) [] G1 H2 :=
        Takes.imp (takes_of rfl rfl rfl rfl) fun cls d σ H' z => z
      have mem0 : Mem X.K [] G1 H2 [] := ⟨m.same, rfl, fun k mo hk => by simp at hk, List.nodup_nil, fun a h => by simp at h⟩
      refine PySem.W.kla_codeExpr (wpAny_mono ((hbody f c' X.A X.stack s2 H2 _ (hr.deeper _) hg) [] G1 _ (L2.start N vs) ⟨mem0, .start (av.free mf), tk⟩ [] _ I3) (fun v s' hq => ?_) fun e s' hq => hq)
      obtain ⟨w', H', J', rv, q⟩ := hq
      exact ⟨w', H', J'.os, J'.bare, J'.base, J'.hok, rv, q⟩
    refine wpAny_call (codeAny_mono rc fun r s' hq => ?_)
    cases r with
    | error e =>
      refine passAt (S.tk.step t) σ pins H2 s2 e s' I2 ?_
      obtain ⟨a, B, H', cls, d, q1, q2, q3, q4, q5, q6, q7, w0⟩ := hq
      refine ⟨a, B, _, cls, d, q1, q2, q3, q4, q5, q6, q7, ?_⟩
      obtain ⟨C, as', G', μ', gs, z1, t', m', fz, mg, jj⟩ := w0
      obtain ⟨t2, m2⟩ := lift0 m t' m'.same
      refine ⟨C, as1, G', μ1, gs, z1, t2, m2, ?_, jj⟩
      rcases fz with z | ⟨dd, fs, e1, e2, e3⟩
      · exact .inl z
      · exact .inr ⟨dd, fs, e1, e2, e3.free mg⟩
    | ok fl =>
      cases fl with
      | ret u =>
        obtain ⟨v, H', q1, q2, q3, q4, q5, d, μ', as', G', t', m', a', md, q⟩ := hq
        obtain ⟨t2, m2⟩ := lift0 m t' m'.same
        exact I2.after ⟨v, _, q1, q2, q3, q4, q5, d, μ1, as1, G', t.trans t2, m2, a'.free md, q⟩
      | next => exact False.elim hq
      | brk => exact False.elim hq
      | cont => exact False.elim hq
end
end DL

/-! D35: the head of a law with several defs that make lambdas. -/
namespace DL
open PySem PySem.Spec PyProof.Rows L2
/-- a def that makes lambdas: its code object, the table of the code objects that it made, their name -/
structure TabI where
  code : Addr
  tab : Addr
  q : Str
def tabMu : Nat → List TabI → Mu
  | _, [] => []
  | n, t :: r => .tab n t.tab t.q :: tabMu (n + 1) r
theorem tabMu_get : ∀ {tabs : List TabI} {n k : Nat}, (tabMu n tabs)[k]? = (tabs[k]?).map fun t => Mo.tab (n + k) t.tab t.q
  | [], _, _ => by simp [tabMu]
  | t :: r, n, 0 => by simp [tabMu]
  | t :: r, n, k + 1 => by
    simp only [tabMu, List.getElem?_cons_succ]
    rw [tabMu_get]
    congr 1
    funext p
    rw [show n + 1 + k = n + (k + 1) from by omega]
theorem tabMu_length : ∀ {tabs : List TabI} {n : Nat}, (tabMu n tabs).length = tabs.length
  | [], _ => rfl
  | t :: r, n => by simp [tabMu, tabMu_length]
theorem run_lawTs {P : Program} {w : World} {K : PySem.W.Frag} {mg mb : Str → Option Value} {k : Nat} {fa a : Addr} {fd : FuncData} {x : Str} {tabs : List TabI} {R : Spc} {s₁ : Shared} {vs : List Value} {ns : List Int}
    (KX : K.In s₁.heap) (gl : s₁.heap.Ns mainGlobals mg) (bl : s₁.heap.Ns builtinsNs mb) (bb : ∀ x : Str, x ≠ "__name__" → mb x = bootBuiltins x) (lim : s₁.heap.NoLimit) (gens : s₁.gens = #[])
    (hT : ∀ T ∈ tabs.map (·.tab), s₁.heap.get? T = some { cls := .none, data := .fields #[] }) (nT : ∀ T ∈ tabs.map (·.tab), K.lookup T = none) (nd : (tabs.map (·.tab)).Nodup) (C : ∀ t ∈ tabs, PySem.W.CodeHd s₁.heap t.code t.tab)
    (hbm : ∃ (bm : Addr) (ob : Obj), mg "__builtins__" = some (.ref bm) ∧ bm ≠ builtinsNs ∧ s₁.heap.get? bm = some ob ∧ ob.cls = .type "module" ∧ ob.dict = some builtinsNs ∧ ob.data = .plain)
    (at_ : s₁.heap.get? a = some { cls := .type "list", data := .seq vs.toArray }) (isInts : IntsAre vs ns) (few : ns.length ≤ sizeLine) (room : Room k callerA)
    (F : ∀ base : Heap, K.In base → base.Ns mainGlobals mg → (∀ t ∈ tabs, LamX.TabB base mg t.code t.tab) → FnG P w K mg base k fa fd [x] R) (bind : ∀ (s : Shared) (u : Value), BindsTo s fd ⟨[u], []⟩ [(x, u)])
    (hR : R [.lst (ns.map .int)] (tabMu 0 tabs) (fun d _ => d = .bl true) J0) :
    codeAny (model P w) callerA (.call (.ref fa) ⟨[.ref a], []⟩) (fun r s' => r = .ok (.ret (.bool true)) ∧ OldK s₁.heap s'.heap ∧ s'.os = s₁.os ∧ AllBare s'.gens) s₁ := by
  have rv := vals_ints isInts
  have aT : a ∉ tabs.map (·.tab) := fun z => by
    rw [hT a z] at at_
    cases at_
  have go : ∀ H : Hp, (∀ T ∈ tabs.map (·.tab), H T = some (.tbl #[])) → (∀ b u, H b = some u → b ∈ tabs.map (·.tab) ∨ b = a ∧ K.lookup a = none ∧ ∃ o xs, u = .frz o (.lst xs)) → SqL K (fun b => if b ∈ tabs.map (·.tab) then none else H b) a (ns.map V.int) → HOk P w H s₁.heap →
      codeAny (model P w) callerA (.call (.ref fa) ⟨[.ref a], []⟩) (fun r s' => r = .ok (.ret (.bool true)) ∧ OldK s₁.heap s'.heap ∧ s'.os = s₁.os ∧ AllBare s'.gens) s₁ := by
    intro H HT only sq hok
    have free : ∀ {b : Addr} {o : Obj}, s₁.heap.get? b = some o → (b ≠ a ∨ K.lookup a ≠ none) → o.data ≠ .fields #[] → H b = none := fun {b o} e h h2 => by
      cases q : H b with
      | none => rfl
      | some u =>
        rcases only b u q with z | ⟨e1, e2, _⟩
        · rw [hT b z] at e
          cases e
          exact absurd rfl h2
        · rcases h with h | h
          · exact absurd e1 h
          · exact absurd e2 h
    have noD : ∀ {b : Addr} {o : Obj}, s₁.heap.get? b = some o → (∀ vs n, o.data ≠ .seq vs n) → o.data ≠ .fields #[] → H b = none := fun {b o} e h1 h2 => free e (.inl fun z => by
      rw [z, at_] at e
      cases e
      exact h1 _ _ rfl) h2
    have ns_ : ∀ {b : Addr} {m : Str → Option Value}, s₁.heap.Ns b m → (hidT s₁.heap H).Ns b m := fun {b m} ⟨o, es, ep, e, d, r⟩ => ⟨o, es, ep, hidT_get e (noD e (fun vs n z => by rw [d] at z; cases z) fun z => by rw [d] at z; cases z), d, r⟩
    have kin : K.In (hidT s₁.heap H) := fun b o e => hidT_get (KX b o e) (by
      cases q : H b with
      | none => rfl
      | some u =>
        rcases only b u q with z | ⟨e1, e2, _⟩
        · rw [nT b z] at e; cases e
        · rw [e1, e2] at e; cases e)
    have md : Mod K mg (hidT s₁.heap H) := ⟨kin, ns_ gl, ⟨mb, ns_ bl, bb⟩, let ⟨mc, h1, h2⟩ := lim; ⟨mc, ns_ h1, h2⟩⟩
    have TB : ∀ t ∈ tabs, LamX.TabB (hidT s₁.heap H) mg t.code t.tab := fun tt htt => by
      have hTT := hT tt.tab (List.mem_map_of_mem htt)
      refine ⟨?_, ?_, fun z => ?_⟩
      · obtain ⟨o, us, file, tf, flags, tg, inF, text, tt, e1, r1, r2, r3, r4, r5, r6, r7, r8, hne⟩ := C tt htt
        refine ⟨o, us, file, tf, flags, tg, inF, text, tt, hidT_get e1 (noD e1 (fun vs n z => ?_) fun z => ?_), r1, r2, r3, r4, r5, r6, r7, r8, hne⟩
        · rw [r2] at z
          cases z
        · rw [r2] at z
          cases z
          simp at r3
      · obtain ⟨bm, ob, b1, b2, b3, b4, b5, b6⟩ := hbm
        have nG : bm ≠ mainGlobals := fun q => by
          obtain ⟨o, es, ep, e, hd, _⟩ := gl
          rw [q, e] at b3
          cases b3
          rw [hd] at b6
          cases b6
        have nP : bm ≠ tt.tab := fun q => by
          rw [q, hTT] at b3
          cases b3
          cases b6
        refine ⟨bm, ob, b1, b2, nG, nP, hidT_get b3 (noD b3 (fun vs n z => ?_) fun z => ?_), b4, b5, b6⟩
        · rw [b6] at z
          cases z
        · rw [b6] at z
          cases z
      · obtain ⟨o, es, ep, e, hd, _⟩ := gl
        rw [z, hTT] at e
        cases e
        cases hd
    have e0 : Env0 P w K mg (hidT s₁.heap H) callerA [] s₁ H := ⟨rfl, md, fun b o e => of_hidT e, Nat.le_of_eq (hidT_size _ _), trivial, fun b hb => absurd (show b ∈ ([] : List Addr) from hb) (by simp), hok, .of_eq gens⟩
    have sp : spD K R [.ref a] H (fun v _ => v = .bl true) (fun _ _ _ => False) := by
      refine ⟨tabs.map (·.tab), fun b => if b ∈ tabs.map (·.tab) then none else H b, [.lst (ns.map .int)], tabMu 0 tabs, _, _, ⟨fun b o e => ?_, by rw [List.length_map, tabMu_length], fun k m h hg => ?_, nd, fun a h => ?_⟩, .cons (.lst sq (ats_ints ns)) .nil, hR, ?_, ?_⟩
      · by_cases hb : b ∈ tabs.map (·.tab)
        · rw [if_pos hb] at e; cases e
        · rw [if_neg hb] at e; exact e
      · rw [tabMu_get] at h
        cases ht : tabs[k]? with
        | none => rw [ht] at h; cases h
        | some tt =>
          rw [ht] at h
          cases h
          have hm : tt.tab ∈ tabs.map (·.tab) := List.mem_map_of_mem (List.mem_of_getElem? ht)
          have hk : (tabs.map (·.tab))[k]? = some tt.tab := by rw [List.getElem?_map, ht]; rfl
          refine ⟨tt.tab, _, hk, HT _ hm, ⟨by rw [Nat.zero_add]; exact hk, #[], rfl, True.intro, fun pos cv hc => by
            have z : codeAmong pos [] = some cv := hc
            simp [codeAmong] at z⟩, if_pos hm⟩
      · rw [HT a h]
        simp
      · rintro v H' ⟨d, μ', as', G', t, m', a', q⟩
        subst q
        cases a'
        rfl
      · rintro cls d H' ⟨_, _, _, _, _, _, _, _, _, j⟩
        exact j.elim
    refine codeAny_mono ((F _ kin (ns_ gl) TB).run callerA [] s₁ H ⟨[.ref a], []⟩ [.ref a] [.ref a] _ _ room rfl e0 (bind s₁ (.ref a)) (.cons rfl .nil) sp) fun r s' h => ?_
    cases r with
    | error e =>
      obtain ⟨_, _, _, _, _, _, _, _, _, _, _, _, z⟩ := h
      exact z.elim
    | ok fl =>
      cases fl with
      | next => exact False.elim h
      | brk => exact False.elim h
      | cont => exact False.elim h
      | ret u =>
        obtain ⟨v, H', os, bare, un, hok', r', q⟩ := h
        have q' : v = .bl true := q
        subst q'
        obtain rfl : u = Value.bool true := r'
        have key : ∀ b o, b ∉ tabs.map (·.tab) → s₁.heap.get? b = some o → s'.heap.get? b = some o := fun b o nb e => by
          cases z : H b with
          | none => exact un.keep b o e z (fun y => absurd (show b ∈ ([] : List Addr) from y) (by simp)) (by simp)
          | some u =>
            rcases only b u z with z' | ⟨_, _, ob, xs, rfl⟩
            · exact absurd z' nb
            · obtain ⟨e1, _⟩ := hok b _ z
              obtain ⟨e2, _⟩ := hok' b _ (un.frzs b ob _ z)
              rw [e] at e1
              cases e1
              exact e2
        refine ⟨rfl, ⟨fun b o e => ?_, fun b o e => ?_⟩, os, bare⟩
        · by_cases hb : b ∈ tabs.map (·.tab)
          · obtain ⟨more, zm⟩ := un.tbls b #[] (HT b hb)
            have hm : s'.heap.get? b = some { cls := .none, data := .fields (#[] ++ more) } := hok' b _ zm
            obtain ⟨tt, htt, rfl⟩ := List.mem_map.mp hb
            have hTT := hT tt.tab hb
            rw [hTT] at e
            cases e
            exact .inr (.inl ⟨((C tt htt).tab hTT).isCodeTable, rfl, #[], more, rfl, hm⟩)
          · exact .inl (key b o hb e)
        · by_cases hb : b ∈ tabs.map (·.tab)
          · obtain ⟨more, zm⟩ := un.tbls b #[] (HT b hb)
            exact ⟨_, hok' b _ zm⟩
          · exact ⟨o, key b o hb e⟩
  cases hk : K.lookup a with
  | some o =>
    have e := KX a o hk
    rw [at_] at e
    cases e
    refine go (fun b => if b ∈ tabs.map (·.tab) then some (.tbl #[]) else none) (fun T h => if_pos h) (fun b u z => ?_) (.inr ⟨_, vs.toArray, _, hk, rfl, rfl, rfl, by rw [List.size_toArray, isInts.length]; exact few, by simpa using rv⟩) (fun b u z => ?_)
    · by_cases hb : b ∈ tabs.map (·.tab)
      · exact .inl hb
      · have z := (if_neg hb).symm.trans z
        cases z
    · by_cases hb : b ∈ tabs.map (·.tab)
      · have z := (if_pos hb).symm.trans z
        cases z
        exact hT b hb
      · have z := (if_neg hb).symm.trans z
        cases z
  | none =>
    refine go (fun b => if b ∈ tabs.map (·.tab) then some (.tbl #[]) else oneH a (.frz { cls := .type "list", data := .seq vs.toArray } (.lst (ns.map V.int))) b) (fun T h => if_pos h) (fun b u z => ?_) (.inl (.inr ⟨{ cls := .type "list", data := .seq vs.toArray }, ?_⟩)) (fun b u z => ?_)
    · by_cases hb : b ∈ tabs.map (·.tab)
      · exact .inl hb
      · have z := (if_neg hb).symm.trans z
        unfold oneH at z
        split at z
        · rename_i hb2
          cases z
          exact .inr ⟨hb2, hk, _, _, rfl⟩
        · cases z
    · exact (if_neg aT).trans ((if_neg aT).trans (if_pos rfl))
    · by_cases hb : b ∈ tabs.map (·.tab)
      · have z := (if_pos hb).symm.trans z
        cases z
        exact hT b hb
      · have z := (if_neg hb).symm.trans z
        unfold oneH at z
        split at z
        · rename_i hb2
          cases z
          subst hb2
          exact ⟨at_, by rw [List.length_map]; exact few, vs, _, rv, at_⟩
        · cases z

theorem walkTs {l : PySem.W.OpenLaw} {n k : Nat} {q : Program} {loose : List Str} {XP : (Str → Option Value) → Heap → Prop} {YP : World → Heap → Prop} {d : DefRec} {K : Params → PySem.W.Frag} {R : World → Spc} {x : Str} {tabs : List TabI}
    (hn : l.most = some n) (hn2 : n ≤ sizeLine) (hdf : d.params.defaults = []) (hr : Room k callerA) (nd : (tabs.map (·.tab)).Nodup)
    (hY : ∀ (w : World) (h : Heap), YP w h → (K w.params).In h) (hT : ∀ (w : World) (h : Heap), YP w h → ∀ T ∈ tabs.map (·.tab), h.get? T = some { cls := .none, data := .fields #[] })
    (F : ∀ (w : World) (mg : Str → Option Value) (fa : Addr) (h : Heap), (K w.params).In h → h.Ns mainGlobals mg → mg d.name = some (.ref fa) →
      ∃ (fd : FuncData), (∀ T ∈ tabs.map (·.tab), (K w.params).lookup T = none) ∧ (∀ t ∈ tabs, PySem.W.CodeHd h t.code t.tab) ∧ (∀ (s : Shared) (u : Value), BindsTo s fd ⟨[u], []⟩ [(x, u)]) ∧
        ∀ base : Heap, (K w.params).In base → base.Ns mainGlobals mg → (∀ t ∈ tabs, LamX.TabB base mg t.code t.tab) → FnG l.prog w (K w.params) mg base k fa fd [x] (R w))
    (hR : ∀ (w : World) (ns : List Int), ns.length ≤ n → R w [.lst (ns.map .int)] (tabMu 0 tabs) (fun d _ => d = .bl true) J0) :
    PySem.W.WalkO q loose XP YP l.row.toRowW d [] (fun f vs => PySem.call f vs) := by
  refine Att.attach_call hn hdf fun w s₀ s₁ mg mb fa o pm cd doc a vs ns G Y ho hd hcd hmg hobj hints hlen hg => ?_
  have KX := hY w _ Y
  obtain ⟨fd, nT, C, hb, hF⟩ := F w mg fa _ KX G.T.g hmg
  exact run_lawTs KX G.T.g G.T.b G.T.builtins G.T.nolimit hg (hT w _ Y) nT nd C G.T.bmain hobj hints (Nat.le_trans hlen hn2) hr hF hb (hR w ns hlen)
end DL

/-! D36: sums, the greatest; parts of tuples; lists that may change put together; sorted of triples. -/
namespace DL
open PySem PySem.Spec PyProof.Rows L2
section
variable {X : Cx} {J : JX} {e a b c o i : Expr} {es : List Expr} {ρ : Env'} {μ : Mu} {σ : L2.St} {H : Hp} {pos p2 : Pos}
theorem ats_intV {K : PySem.W.Frag} {as : List Addr} {G : Hp} : ∀ {bs : List Int} {vs : List V}, Ats K as G vs (bs.map Dt.int) → vs = bs.map V.int
  | [], _, h => by cases h; rfl
  | b :: r, _, h => by
    cases h with
    | cons a t =>
      cases a
      rw [ats_intV t]
      rfl
theorem cd_sumI (hc : X.calm = true) : CallD X (.builtin "sum") (fun ds μ Q => ∃ ns : List Int, ds = [.lst (ns.map .int)] ∧ Q (.int ns.sum) μ) := by
  refine ⟨_, cr_sum hc, ?_⟩
  intro as G H μ xs ds Q Q' m a ⟨bs, e, q⟩ f
  subst e
  obtain ⟨x, rfl, a2⟩ := a.one
  cases a2 with
  | lst h t =>
    rw [ats_intV t] at h
    exact ⟨_, bs, rfl, m.same.seq h, f _ _ (.now m (.int _) q)⟩
theorem cd_maxL (hc : X.calm = true) : CallD X (.builtin "max") (fun ds μ Q => ∃ ns : List Int, ds = [.lst (ns.map .int)] ∧ 0 < ns.length ∧ ∀ m, m ∈ ns → (∀ y ∈ ns, y ≤ m) → Q (.int m) μ) := by
  refine ⟨_, cr_max hc, ?_⟩
  intro as G H μ xs ds Q Q' m a ⟨bs, e, l, q⟩ f
  subst e
  obtain ⟨x, rfl, a2⟩ := a.one
  cases a2 with
  | lst h t =>
    rw [ats_intV t] at h
    exact ⟨_, bs, rfl, m.same.seq h, l, fun k h1 h2 => f _ _ (.now m (.int _) (q k h1 h2))⟩
/-- t[lo:], a true part -/
theorem dE_fromT {Q : Dt → Mu → Prop} (h : dE X J a ρ μ fun d μ1 => dE X J b ρ μ1 fun e μ2 => ∃ xs i, d = .tup xs ∧ e = .int i ∧ ¬ (HT.sIx xs.length 0 (some i) = 0 ∧ HT.sIx xs.length xs.length none = xs.length) ∧ Q (.tup (cutD xs (some i) none)) μ2) : dE X J (.Subscript a (.Slice (some b) none none p2) pos) ρ μ Q := .mk fun as G H σ S => by
  refine (pe_slice sl_tup peW (po_some peW) po_none).w ?_
  refine wE_mono (h as G H σ S) fun x H1 ⟨d, μ1, as1, G1, t1, m1, a1, q⟩ => ?_
  refine wE_mono (q as1 G1 H1 σ (S.step t1 m1)) fun y H2 ⟨e, μ2, as2, G2, t2, m2, a2, xs, i, e1, e2, hw, q2⟩ => ?_
  subst e1 e2
  cases a1 with
  | tup h1 l1 =>
    cases a2
    refine ⟨i, rfl, _, _, rfl, Same.tup m2.same (Same.tup t2.gg h1), by rw [l1.length]; exact hw, fun p hp => ?_⟩
    exact (AfE.lay m2 hp (.tup (.of upd_same) (((l1.mono t2.gg t2.ix).cutV (some i) none).mono (same_upd_none (m2.same.free hp)) fun _ _ h => h)) q2).back (t1.trans t2)
end
/-! ### orders -/
section
variable {α β : Type}
def insBy (le : α → α → Bool) (x : α) : List α → List α
  | [] => [x]
  | y :: r => if le x y then x :: y :: r else y :: insBy le x r
def srtBy (le : α → α → Bool) : List α → List α
  | [] => []
  | x :: r => insBy le x (srtBy le r)
structure Ord' (le : α → α → Bool) : Prop where
  tot : ∀ x y, ¬ le x y = true → le y x = true
  tr : ∀ x y z, le x y = true → le y z = true → le x z = true
  anti : ∀ x y, le x y = true → le y x = true → x = y
theorem Ord'.refl {le : α → α → Bool} (o : Ord' le) (x : α) : le x x = true := by
  by_cases h : le x x = true
  · exact h
  · exact o.tot x x h
variable {le : α → α → Bool}
theorem insBy_perm (x : α) : ∀ l : List α, (insBy le x l).Perm (x :: l)
  | [] => .refl _
  | y :: r => by
    unfold insBy
    split
    · exact .refl _
    · exact ((insBy_perm x r).cons y).trans (.swap x y r)
theorem srtBy_perm : ∀ l : List α, (srtBy le l).Perm l
  | [] => .refl _
  | x :: r => (insBy_perm x _).trans ((srtBy_perm r).cons x)
theorem insBy_le (o : Ord' le) {x : α} : ∀ {l : List α}, l.Pairwise (le · · = true) → (insBy le x l).Pairwise (le · · = true)
  | [], _ => by simp [insBy]
  | y :: r, h => by
    unfold insBy
    obtain ⟨h1, h2⟩ := List.pairwise_cons.mp h
    by_cases hx : le x y = true
    · rw [if_pos hx]
      refine List.pairwise_cons.mpr ⟨fun z hz => ?_, h⟩
      rcases List.mem_cons.mp hz with e | e
      · rw [e]; exact hx
      · exact o.tr _ _ _ hx (h1 z e)
    · rw [if_neg hx]
      refine List.pairwise_cons.mpr ⟨fun z hz => ?_, insBy_le o h2⟩
      rcases List.mem_cons.mp ((insBy_perm x r).mem_iff.mp hz) with e | e
      · rw [e]; exact o.tot _ _ hx
      · exact h1 z e
theorem srtBy_le (o : Ord' le) : ∀ l : List α, (srtBy le l).Pairwise (le · · = true)
  | [] => .nil
  | x :: r => insBy_le o (srtBy_le o r)
theorem srtBy_uniq (o : Ord' le) : ∀ {l m : List α}, l.Perm m → l.Pairwise (le · · = true) → m.Pairwise (le · · = true) → l = m
  | [], m, p, _, _ => (List.Perm.eq_nil p.symm).symm
  | x :: l, [], p, _, _ => absurd p.length_eq (by simp)
  | x :: l, y :: m, p, hl, hm => by
    obtain ⟨l1, l2⟩ := List.pairwise_cons.mp hl
    obtain ⟨m1, m2⟩ := List.pairwise_cons.mp hm
    have e : x = y := by
      refine o.anti _ _ ?_ ?_
      · rcases List.mem_cons.mp (p.mem_iff.mpr List.mem_cons_self) with e | e
        · rw [e]; exact o.refl _
        · exact l1 y e
      · rcases List.mem_cons.mp (p.mem_iff.mp List.mem_cons_self) with e | e
        · rw [e]; exact o.refl _
        · exact m1 x e
    subst e
    rw [srtBy_uniq o p.cons_inv l2 m2]
theorem insBy_map {le' : β → β → Bool} {φ : α → β} {x : α} : ∀ {l : List α}, (∀ y ∈ l, le' (φ x) (φ y) = le x y) → insBy le' (φ x) (l.map φ) = (insBy le x l).map φ
  | [], _ => rfl
  | y :: r, h => by
    rw [List.map_cons, insBy, insBy, h y List.mem_cons_self]
    split
    · rfl
    · rw [List.map_cons, insBy_map fun z hz => h z (List.mem_cons_of_mem _ hz)]
theorem srtBy_map {le' : β → β → Bool} {φ : α → β} : ∀ {l : List α}, (∀ x ∈ l, ∀ y ∈ l, le' (φ x) (φ y) = le x y) → srtBy le' (l.map φ) = (srtBy le l).map φ
  | [], _ => rfl
  | x :: r, h => by
    rw [List.map_cons, srtBy, srtBy, srtBy_map fun a ha b hb => h a (List.mem_cons_of_mem _ ha) b (List.mem_cons_of_mem _ hb)]
    exact insBy_map fun y hy => h x List.mem_cons_self y (List.mem_cons_of_mem _ ((srtBy_perm r).mem_iff.mp hy))
end
/-! ### triples: a pair, a number, a pair -/
abbrev Tri := (Int × Int) × Int × (Int × Int)
def k5 (e : Tri) : List Int := [e.1.1, e.1.2, e.2.1, e.2.2.1, e.2.2.2]
def leT (p q : Tri) : Bool := !HT.lexLt (k5 q) (k5 p)
def srtT (l : List Tri) : List Tri := srtBy leT l
theorem k5_inj {p q : Tri} (h : k5 p = k5 q) : p = q := by
  obtain ⟨⟨a, b⟩, k, c, d⟩ := p
  obtain ⟨⟨a', b'⟩, k', c', d'⟩ := q
  simp only [k5, List.cons.injEq, and_true] at h
  obtain ⟨rfl, rfl, rfl, rfl, rfl⟩ := h
  rfl
theorem lex_anti : ∀ {xs ys : List Int}, xs.length = ys.length → HT.lexLt xs ys = false → HT.lexLt ys xs = false → xs = ys
  | [], [], _, _, _ => rfl
  | [], _ :: _, h, _, _ => by cases h
  | _ :: _, [], h, _, _ => by cases h
  | x :: xs, y :: ys, h, h1, h2 => by
    rw [HT.lexLt_cons] at h1 h2
    by_cases e : x = y
    · rw [if_pos e] at h1
      rw [if_pos e.symm] at h2
      rw [e, lex_anti (by simpa using h) h1 h2]
    · rw [if_neg e] at h1
      rw [if_neg (Ne.symm e)] at h2
      have := of_decide_eq_false h1
      have := of_decide_eq_false h2
      omega
theorem ordT : Ord' leT where
  tot x y h := by
    unfold leT at *
    cases e : HT.lexLt (k5 y) (k5 x) with
    | false => rw [e] at h; exact absurd rfl h
    | true => rw [NtL.lex_asym _ _ e]; rfl
  tr x y z h1 h2 := by
    unfold leT at *
    rw [Bool.not_eq_true'] at h1 h2 ⊢
    exact NtL.lex_tr _ _ _ h1 h2
  anti x y h1 h2 := by
    unfold leT at *
    rw [Bool.not_eq_true'] at h1 h2
    exact k5_inj (lex_anti rfl h2 h1)
def trD (e : Tri) : Dt := .tup [prDt e.1, .int e.2.1, prDt e.2.2]
theorem lex_ne : ∀ {xs ys r q : List Int}, xs.length = ys.length → xs ≠ ys → HT.lexLt (xs ++ r) (ys ++ q) = HT.lexLt xs ys
  | [], [], _, _, _, h => absurd rfl h
  | [], _ :: _, _, _, h, _ => by cases h
  | _ :: _, [], _, _, h, _ => by cases h
  | x :: xs, y :: ys, r, q, h, n => by
    rw [List.cons_append, List.cons_append, HT.lexLt_cons, HT.lexLt_cons]
    by_cases e : x = y
    · rw [if_pos e, if_pos e, lex_ne (by simpa using h) fun z => n (by rw [e, z])]
    · rw [if_neg e, if_neg e]
theorem lex_eq : ∀ {xs r q : List Int}, HT.lexLt (xs ++ r) (xs ++ q) = HT.lexLt r q
  | [], _, _ => rfl
  | x :: xs, r, q => by rw [List.cons_append, List.cons_append, HT.lexLt_cons, if_pos rfl, lex_eq]
section
variable {prog : Program} {w : World} {A : Around} {s : Shared} {E : Value → Shared → Prop}
theorem pair_reads {h : Heap} {v : Value} {x y : Int} (p : Srt.IsPair h v x y) : ∃ as, Reads h v (.tuple [.int x, .int y]) as := by
  obtain ⟨a, o, t, u, n, rfl, ho, hc, hd⟩ := p
  exact ⟨_, Reads.tuple ho hc hd (.cons (.int _ _) (.cons (.int _ _) .nil))⟩
theorem pair_eqAt {v u : Value} {x y x' y' : Int} (h1 : Srt.IsPair s.heap v x y) (h2 : Srt.IsPair s.heap u x' y') (hu : A.units + 8 < cLine) : SeqAt.EqAt A s v u (decide ([x, y] = [x', y'])) := by
  obtain ⟨as, r1⟩ := pair_reads h1
  obtain ⟨bs, r2⟩ := pair_reads h2
  have := SeqAt.eqAt_reads _ _ A s v u as bs r1 r2 (by simp [PyData.canLay0, PyData.canLayAll0]) (by simp [PyData.canLay0, PyData.canLayAll0]) (by simp only [PyData.depth, PyData.depthAll]; omega)
  have e : PyData.eqv (.tuple [.int x, .int y]) (.tuple [.int x', .int y']) = decide ([x, y] = [x', y']) := by
    simp only [PyData.eqv, PyData.eqvAll]
    by_cases h : x = x' <;> by_cases h' : y = y' <;> simp [h, h']
  rw [e] at this
  exact this
theorem pair_lt {v u : Value} {x y x' y' : Int} {Q : Value → Shared → Prop} (h1 : Srt.IsPair s.heap v x y) (h2 : Srt.IsPair s.heap u x' y') (hu : A.units + 8 < cLine) (h : Q (.bool (HT.lexLt [x, y] [x', y'])) s) : wpAny (model prog w) A (compareOp .Lt v u) Q E s := by
  obtain ⟨a, o, t, k, n, rfl, ho, hc, hd⟩ := h1
  obtain ⟨a', o', t', k', n', rfl, ho', hc', hd'⟩ := h2
  exact HT.lt_tupInts ⟨o, ho, hc, n, hd⟩ ⟨o', ho', hc', n', hd'⟩ (.cons _ _ (.cons _ _ .nil)) (.cons _ _ (.cons _ _ .nil)) (by omega) h
def IsTri (h : Heap) (v : Value) (e : Tri) : Prop := ∃ a o p t q n, v = .ref a ∧ h.get? a = some o ∧ o.cls = .type "tuple" ∧ o.data = .seq #[p, .int e.2.1 t, q] n ∧ Srt.IsPair h p e.1.1 e.1.2 ∧ Srt.IsPair h q e.2.2.1 e.2.2.2
theorem IsTri.keeps {h h' : Heap} {v : Value} {e : Tri} (p : IsTri h v e) (k : ∀ b o, h.get? b = some o → o.cls = .type "tuple" → h'.get? b = some o) : IsTri h' v e := by
  obtain ⟨a, o, p, t, q, n, e1, ho, hc, hd, h1, h2⟩ := p
  exact ⟨a, o, p, t, q, n, e1, k _ _ ho hc, hc, hd, h1.keeps k, h2.keeps k⟩
theorem tri_cmp {vs : List Value} {k : Value → Tri} (hu : A.units + 16 < cLine) (hp : ∀ v ∈ vs, IsTri s.heap v (k v)) : SrtO.Cmp prog w A s (tuples' false) (fun p => p.1 ∈ vs) (SrtO.lt2 fun v u => HT.lexLt (k5 (k v)) (k5 (k u))) := by
  intro p q hm hm'
  have h1 := hp _ hm
  have h2 := hp _ hm'
  show wpAny (model prog w) A (keyLt' (tuples' false) p.1 q.1) (fun r s' => s' = s ∧ r = HT.lexLt (k5 (k p.1)) (k5 (k q.1))) (fun _ _ => False) s
  generalize k p.1 = e at h1
  generalize k q.1 = e' at h2
  obtain ⟨⟨x, y⟩, i, z, d⟩ := e
  obtain ⟨⟨x', y'⟩, i', z', d'⟩ := e'
  obtain ⟨a, o, pa, t, pb, n, ea, ho, hc, hd, g1, g2⟩ := h1
  obtain ⟨a', o', pa', t', pb', n', ea', ho', hc', hd', g1', g2'⟩ := h2
  rw [ea, ea']
  refine PySem.W.kat_lt ho hd ho' hd' ?_
  show PySem.W.KatLex prog w A false (decide (3 < 3)) _ [(pa, pa'), (.int i t, .int i' t'), (pb, pb')] 0 s
  refine PySem.W.kat_cons (pair_eqAt g1 g1' (by omega) prog w _ _ ?_)
  refine PySem.W.kat_go (fun e1 => ?_) (fun e1 => ?_)
  · have ex : [x, y] = [x', y'] := of_decide_eq_true e1
    refine PySem.W.kat_yes (PySem.W.kat_cons (SeqAt.EqAt.int_int i t i' t' prog w _ _ ?_))
    refine PySem.W.kat_go (fun e2 => ?_) (fun e2 => ?_)
    · have ey : i = i' := by simpa using e2
      have ex2 : [x, y, i] = [x', y', i'] := by
        have := congrArg (· ++ [i]) ex
        rw [← ey]
        exact this
      refine PySem.W.kat_yes (PySem.W.kat_cons (pair_eqAt g2 g2' (by omega) prog w _ _ ?_))
      refine PySem.W.kat_go (fun e3 => ?_) (fun e3 => ?_)
      · have ez : [z, d] = [z', d'] := of_decide_eq_true e3
        refine PySem.W.kat_yes (PySem.W.kat_nil ⟨rfl, ?_⟩)
        have := lex_eq (xs := [x, y, i] ++ [z, d]) (r := []) (q := [])
        have e4 : k5 ((x', y'), i', z', d') = [x, y, i] ++ [z, d] ++ [] := by rw [ex2, ez]; rfl
        rw [e4]
        exact this.symm
      · have ez : [z, d] ≠ [z', d'] := of_decide_eq_false e3
        refine PySem.W.kat_no (PySem.W.kat_one _ _ (pair_lt g2 g2' (by omega) ?_))
        have := lex_eq (xs := [x, y, i]) (r := [z, d]) (q := [z', d'])
        have e4 : k5 ((x', y'), i', z', d') = [x, y, i] ++ [z', d'] := by rw [ex2]; rfl
        exact (show s = s ∧ HT.lexLt [z, d] [z', d'] = HT.lexLt (k5 ((x, y), i, z, d)) (k5 ((x', y'), i', z', d')) from ⟨rfl, by rw [e4]; exact this.symm⟩)
    · have ey : ¬ i = i' := by simpa using e2
      refine PySem.W.kat_no (PySem.W.kat_one _ _ (PyProof.Rows.lt_int ?_))
      have := lex_eq (xs := [x, y]) (r := [i, z, d]) (q := [i', z', d'])
      have e4 : k5 ((x', y'), i', z', d') = [x, y] ++ [i', z', d'] := by rw [ex]; rfl
      exact (show s = s ∧ decide (i < i') = HT.lexLt (k5 ((x, y), i, z, d)) (k5 ((x', y'), i', z', d')) from ⟨rfl, by rw [e4]; exact (if_neg ey).symm.trans this.symm⟩)
  · have ex : [x, y] ≠ [x', y'] := of_decide_eq_false e1
    refine PySem.W.kat_no (PySem.W.kat_one _ _ (pair_lt g1 g1' (by omega) ?_))
    exact (show s = s ∧ HT.lexLt [x, y] [x', y'] = HT.lexLt (k5 ((x, y), i, z, d)) (k5 ((x', y'), i', z', d')) from ⟨rfl, (lex_ne (xs := [x, y]) (ys := [x', y']) (r := [i, z, d]) (q := [i', z', d']) rfl ex).symm⟩)
theorem tri_firsts {h : Heap} : ∀ {vs : List Value}, (∀ v ∈ vs, ∃ e, IsTri h v e) → ∃ fs : List Value, PySem.W.KatTups h vs fs ∧ fs.length = vs.length ∧ ∀ f ∈ fs, ∃ x y, Srt.IsPair h f x y
  | [], _ => ⟨[], PySem.W.KatTups.nil, rfl, fun _ hm => by simp at hm⟩
  | v :: vs, hp => by
    obtain ⟨fs, h1, h2, h3⟩ := tri_firsts (vs := vs) fun v' hm => hp v' (List.mem_cons_of_mem _ hm)
    obtain ⟨e, a, o, p, t, q, n, rfl, ho, hc, hd, g1, g2⟩ := hp v (List.mem_cons_self ..)
    refine ⟨p :: fs, PySem.W.KatTups.cons ho hc hd rfl h1, by rw [List.length_cons, List.length_cons, h2], fun f hm => ?_⟩
    rcases List.mem_cons.mp hm with rfl | hm
    · exact ⟨_, _, g1⟩
    · exact h3 f hm
theorem tri_sortableO {a : Addr} {vs : List Value} {k : Value → Tri} (hu : A.units + 16 < cLine) (h0 : 0 < vs.length) (hp : ∀ v ∈ vs, IsTri s.heap v (k v)) (ha : ∀ o, s.heap.get? a = some o → o.cls ≠ .type "tuple") : SrtO.SortableO prog w A s a vs fun v u => HT.lexLt (k5 (k v)) (k5 (k u)) := by
  intro h' keep
  have hp' : ∀ v ∈ vs, IsTri h' v (k v) := fun v hm => (hp v hm).keeps fun b o e c => keep b o (fun z => by subst z; exact ha o e c) e
  obtain ⟨fs, h1, h2, h3⟩ := tri_firsts fun v hm => ⟨_, hp' v hm⟩
  refine ⟨tuples' false, fun Q E hq => ?_, tri_cmp (s := { s with heap := h' }) hu hp'⟩
  refine PySem.W.kat_kind (s := { s with heap := h' }) (T := .type "tuple") h1 (by omega) (fun f hm => ?_) (by rfl) ?_
  · obtain ⟨x, y, b, o, t, u, n, rfl, ho, hc, hd⟩ := h3 f hm
    have : PySem.W.Looks (model prog w) h' (typeOf (.ref b)) o.cls := (PySem.W.Looks.ld ho).andThen .now
    rw [hc] at this
    exact this
  · have e : (Value.type "tuple" != Value.type "tuple") = false := by first | decide +kernel | rfl | decide
    rw [e]
    exact hq
end
theorem tri_one {h : Heap} {v : Value} {e e' : Tri} (a : IsTri h v e) (b : IsTri h v e') : e = e' := by
  obtain ⟨⟨i, j⟩, k, c, d⟩ := e
  obtain ⟨⟨i', j'⟩, k', c', d'⟩ := e'
  obtain ⟨p, o, x, t, y, n, rfl, e1, _, e2, g1, g2⟩ := a
  obtain ⟨q, o', x', t', y', n', z, e3, _, e4, g3, g4⟩ := b
  cases z
  rw [e1] at e3
  cases e3
  simp only at e2 e4 g1 g2 g3 g4
  rw [e2] at e4
  cases e4
  obtain ⟨h1, h2⟩ := pair_one g1 g3
  obtain ⟨h3, h4⟩ := pair_one g2 g4
  subst h1 h2 h3 h4
  rfl
open Classical in
noncomputable def triAt (h : Heap) (v : Value) : Tri := if e : ∃ p : Tri, IsTri h v p then e.choose else ((0, 0), 0, 0, 0)
theorem triAt_eq {h : Heap} {v : Value} {p : Tri} (a : IsTri h v p) : triAt h v = p := by
  have e : ∃ p : Tri, IsTri h v p := ⟨p, a⟩
  unfold triAt
  rw [dif_pos e]
  exact tri_one e.choose_spec a
section
variable {X : Cx}
def TriAt (K : PySem.W.Frag) (H : Hp) (v : V) (e : Tri) : Prop := ∃ t p q, v = V.ref t ∧ SqT K H t [.ref p, .int e.2.1, .ref q] ∧ SqT K H p [.int e.1.1, .int e.1.2] ∧ SqT K H q [.int e.2.2.1, .int e.2.2.2]
theorem vals3 {x y z : V} {vs : List Value} (h : Vals [x, y, z] vs) : ∃ a b c, vs = [a, b, c] ∧ RelV x a ∧ RelV y b ∧ RelV z c := by
  cases h with
  | cons h1 r1 =>
    cases r1 with
    | cons h2 r2 =>
      cases r2 with
      | cons h3 r3 =>
        cases r3
        exact ⟨_, _, _, rfl, h1, h2, h3⟩
theorem tri_at {pins : List (Addr × Obj)} {σ : L2.St} {H : Hp} {s : Shared} (I : Inv X pins σ H s) {v : V} {e : Tri} (h : TriAt X.K H v e) : ∃ t, v = V.ref t ∧ IsTri s.heap (.ref t) e := by
  obtain ⟨t, p, q, rfl, h1, h2, h3⟩ := h
  obtain ⟨its, rel, place, _⟩ := I.tuple h1
  obtain ⟨ob, here, isTuple, cnt, holds⟩ := place
  obtain ⟨x, y, z, rfl, r1, ⟨ty, rfl⟩, r3⟩ := vals3 rel
  obtain rfl : x = Value.ref p := r1
  obtain rfl : z = Value.ref q := r3
  exact ⟨t, rfl, t, ob, _, ty, _, cnt, rfl, here, isTuple, holds, pair_at I h2, pair_at I h3⟩
theorem tris_back {h : Heap} : ∀ (xs : List V) (ps : List Tri) (its : List Value), Vals xs its → xs.length = ps.length → (∀ z ∈ xs.zip ps, ∃ t, z.1 = V.ref t ∧ IsTri h (.ref t) z.2) →
    its.map (fun v => (backV v, triAt h v)) = xs.zip ps ∧ (∀ v ∈ its, ∃ t, v = Value.ref t ∧ IsTri h v (triAt h v)) := by
  intro xs
  induction xs with
  | nil =>
    intro ps its r hl hp
    cases r
    exact ⟨by simp, fun v hv => by simp at hv⟩
  | cons x xr ih =>
    intro ps its r hl hp
    cases r with
    | cons r1 r2 =>
      cases ps with
      | nil => simp at hl
      | cons p pr =>
        rename_i y yr
        obtain ⟨t, e, g⟩ := hp (x, p) (by simp)
        obtain rfl : x = V.ref t := e
        obtain rfl : y = Value.ref t := r1
        obtain ⟨h1, h2⟩ := ih pr yr r2 (by simpa using hl) fun z hz => hp z (by simp [hz])
        have k := triAt_eq (p := p) g
        refine ⟨by rw [List.map_cons, h1, k]; rfl, fun v hv => ?_⟩
        rcases List.mem_cons.mp hv with e | e
        · rw [e, k]
          exact ⟨t, rfl, g⟩
        · exact h2 v e
def rSrtT (K : PySem.W.Frag) : List V → Hp → VK → Prop := fun vs H Q => ∃ (a : Addr) (xs : List V) (ps : List Tri), vs = [V.ref a] ∧ SqL K H a xs ∧ xs.length = ps.length ∧ (∀ z ∈ xs.zip ps, TriAt K H z.1 z.2) ∧
  ∀ (zs : List (V × Tri)) (u : Addr), zs.Perm (xs.zip ps) → zs.map (·.2) = srtT ps → H u = none → Q (.ref u) (upd H u (.lst (zs.map (·.1))))
theorem cr_srtT (hu : X.A.units + 64 < cLine) : CallR X (.builtin "sorted") (rSrtT X.K) := by
  intro pins s σ H vs us Q I rv h
  obtain ⟨a, xs, ps, rfl, hs, hl, hp, q⟩ := h
  obtain ⟨its, rx, place, hz⟩ := I.list hs
  obtain ⟨u, rfl, ru⟩ := vals1 rv
  obtain rfl : u = Value.ref a := ru
  have one : ∀ z ∈ xs.zip ps, ∃ t, z.1 = V.ref t ∧ IsTri s.heap (.ref t) z.2 := fun z m => tri_at I (hp z m)
  obtain ⟨b1, b2⟩ := tris_back (h := s.heap) xs ps its rx hl one
  obtain ⟨ob, here, isT, cnt, holds⟩ := place.isList
  refine sorted_any2 (NtL.swo_lexL fun v => k5 (triAt s.heap v)) (.inl rfl) here isT holds (by rw [← rx.length]; exact hz) (fun h2 h₁ p hp kk => ?_) fun h2 d out srt stb keep fresh there => ?_
  · refine tri_sortableO (s := { s with heap := h₁ }) (by show X.A.units + 1 + 1 + 16 < cLine; omega) (by omega) (fun v hm => ?_) fun o e => ?_
    · exact (b2 v hm).choose_spec.2.keeps fun b o e _ => (kk b o e).2
    · have e' : some o = some (seqObj "list" its.toArray 0) := e.symm.trans hp
      cases e'
      intro c
      exact absurd (Value.type.inj c) (by decide)
  have refs : ∀ v ∈ out, ∃ t, v = Value.ref t := fun v hv => by
    obtain ⟨t, e, _⟩ := b2 v (stb.perm.mem_iff.mp hv)
    exact ⟨t, e⟩
  obtain ⟨cnt, there⟩ := there
  have pz : (out.map fun v => (backV v, triAt s.heap v)).Perm (xs.zip ps) := by
    rw [← b1]
    exact stb.perm.map _
  have e1 : (out.map fun v => (backV v, triAt s.heap v)).map (·.1) = out.map backV := by rw [List.map_map]; rfl
  have e2 : (out.map fun v => (backV v, triAt s.heap v)).map (·.2) = srtT ps := by
    have pp : ((out.map fun v => (backV v, triAt s.heap v)).map (·.2)).Perm ps := by
      have := pz.map (·.2)
      rwa [List.map_snd_zip (by omega)] at this
    refine srtBy_uniq ordT (pp.trans (srtBy_perm ps).symm) ?_ (srtBy_le ordT ps)
    rw [List.map_map, List.pairwise_map]
    refine List.Pairwise.imp (fun {x y} hxy => ?_) srt
    show (!HT.lexLt (k5 (triAt s.heap y)) (k5 (triAt s.heap x))) = true
    have g : HT.lexLt (k5 (triAt s.heap y)) (k5 (triAt s.heap x)) = false := hxy
    rw [g]
    rfl
  have lo : out.length ≤ sizeLine := by rw [stb.perm.length_eq, ← rx.length]; exact hz
  have fin := q _ d pz e2 (I.hok.fresh fresh)
  rw [e1] at fin
  exact ⟨.ref d, upd H d (.lst (out.map backV)), I.laid (t' := s.toks) keep fresh ⟨by simpa using lo, out, cnt, vals_back refs, there⟩, rfl, fin⟩
theorem ats_tr {K : PySem.W.Frag} {as : List Addr} {G : Hp} : ∀ {xs : List V} {ps : List Tri}, Ats K as G xs (ps.map trD) → xs.length = ps.length ∧ ∀ z ∈ xs.zip ps, At K as G z.1 (trD z.2)
  | _, [], .nil => ⟨rfl, fun z hz => by simp at hz⟩
  | _, p :: r, .cons h t => by
    obtain ⟨h1, h2⟩ := ats_tr t
    refine ⟨by simp [h1], fun z hz => ?_⟩
    rw [List.zip_cons_cons] at hz
    rcases List.mem_cons.mp hz with e | e
    · rw [e]; exact h
    · exact h2 z e
theorem at_tr {K : PySem.W.Frag} {as : List Addr} {G : Hp} {x : V} {p : Tri} (h : At K as G x (trD p)) : TriAt K G x p := by
  cases h with
  | tup h1 h2 =>
    cases h2 with
    | cons a1 r1 =>
      cases r1 with
      | cons a2 r2 =>
        cases r2 with
        | cons a3 r3 =>
          cases r3
          cases a2
          obtain ⟨p, rfl, g1⟩ := at_pr a1
          obtain ⟨q, rfl, g2⟩ := at_pr a3
          exact ⟨_, _, _, rfl, h1, g1, g2⟩
theorem ats_ofT {K : PySem.W.Frag} {as : List Addr} {G : Hp} : ∀ {zs : List (V × Tri)}, (∀ z ∈ zs, At K as G z.1 (trD z.2)) → Ats K as G (zs.map (·.1)) ((zs.map (·.2)).map trD)
  | [], _ => .nil
  | z :: r, h => .cons (h z List.mem_cons_self) (ats_ofT fun y hy => h y (List.mem_cons_of_mem _ hy))
theorem cd_sortedTr (hu : X.A.units + 64 < cLine) : CallD X (.builtin "sorted") (fun ds μ Q => ∃ ps : List Tri, ds = [.lst (ps.map trD)] ∧ Q (.lst ((srtT ps).map trD)) μ) := by
  refine ⟨_, cr_srtT hu, ?_⟩
  intro as G H μ xs ds Q Q' m a1 h f
  obtain ⟨ps, rfl, q⟩ := h
  obtain ⟨x, rfl, a2⟩ := a1.one
  cases a2 with
  | lst hq hx =>
    rename_i p zs
    obtain ⟨l1, l2⟩ := ats_tr hx
    refine ⟨p, zs, ps, rfl, m.same.seq hq, l1, fun z hz => ?_, fun ys u hp he hu => f _ _ ?_⟩
    · obtain ⟨t, p, q, e, g1, g2, g3⟩ := at_tr (l2 z hz)
      exact ⟨t, p, q, e, Same.tup m.same g1, Same.tup m.same g2, Same.tup m.same g3⟩
    · have t := ats_ofT fun z hz => l2 z (hp.mem_iff.mp hz)
      rw [he] at t
      exact .lay m hu (.lst (.of upd_same) (t.mono (same_upd_none (m.same.free hu)) fun _ _ h => h)) q
end
end DL

/-! D37: a comprehension whose turns hand the owner's cells to a def. -/
namespace DL
open PySem PySem.Spec PyProof.Rows L2
section
variable {X : Cx} {J : JX} {e : Expr} {es : List Expr} {ρ : Env'} {μ : Mu} {pos : Pos} {k : Nat} {ps : List Str} {R : Spc}
/-- a def is called and handed the cells of which kn tells -/
theorem cells_go {cl : List (Addr × Dt)} {x : Str} {p : Pos} {Q : Dt → Mu → Prop} {as : List Addr} {G H : Hp} {σ : L2.St} {pins : List (Addr × Obj)} {s : Shared} (F : DefP X.prog X.w X.K X.mg X.base k x ps R) (hr : Room k X.A) (hgd : X.A.guards = some [])
    (hcl : ∀ t ∈ cl, t.2.mf = true) (nd : (cl.map (·.1)).Nodup)
    (h : dA X J (e :: es) ρ μ fun ds μ1 => CallsC R cl ds μ1 Q) (S : Sx X J as G H σ ρ μ) (I : Inv X pins σ H s)
    (kn : ∀ (s1 : Shared) (H1 : Hp) (as1 : List Addr) (G1 : Hp), Inv X pins σ H1 s1 → Step as G H as1 G1 H1 → ∀ tt ∈ cl, ∃ oc v u, s1.heap.get? tt.1 = some oc ∧ oc.data = .cell (some u) ∧ RelV v u ∧ At X.K as1 G1 v tt.2 ∧ H1 tt.1 = none ∧ tt.1 ∉ frs X.stack ∧ X.base.objs.size ≤ tt.1)
    (hg : Gl X x) (hdb : (x == ("__debug__" : Str)) = false) (he : starEach (e :: es) X.env = (false, eval e X.env) :: starEach es X.env) (hpl : (backTo pos (starEach es X.env)).any (·.1) = false) :
    wpAny (model X.prog X.w) X.A (eval (.Call (.Name x p) (e :: es) [] pos) X.env) (EP X pins σ (AfE X.K as G H Q)) X.xe s := by
  obtain ⟨f, fd, F, hm, hk, hb⟩ := F.ex
  refine wpAny_Call_Name_kw (ld_glob I hg hm ?_ hdb)
  refine PySem.W.callWith_K (h₀ := X.base) I.ok.mod.kin hk (thn (h as G H σ S pos pins s I) fun us s1 ⟨vs, H1, I1, r, ds, μ1, as1, G1, t, m, av, mfd, q⟩ => ⟨I1.kIn, ?_⟩) he hpl
  have inf : ∀ tt ∈ cl, ∃ oc v u, s1.heap.get? tt.1 = some oc ∧ oc.data = .cell (some u) ∧ RelV v u ∧ At X.K as1 G1 v tt.2 ∧ H1 tt.1 = none ∧ tt.1 ∉ frs X.stack ∧ X.base.objs.size ≤ tt.1 := fun tt ht => kn s1 H1 as1 G1 I1 t tt ht
  let g : Addr → Obj := fun c => (s1.heap.get? c).getD { cls := .none, data := .plain }
  have gg : ∀ c oc, s1.heap.get? c = some oc → g c = oc := fun c oc e => by simp [g, e]
  let xs := cl.map (·.1)
  have inx : ∀ c ∈ xs, s1.heap.get? c = some (g c) ∧ H1 c = none ∧ c ∉ frs X.stack ∧ X.base.objs.size ≤ c := fun c hc => by
    obtain ⟨tt, ht, rfl⟩ := List.mem_map.mp hc
    obtain ⟨oc, v, u, z1, z2, z3, z4, z5, z6, z7⟩ := inf tt ht
    exact ⟨by rw [gg _ _ z1]; exact z1, z5, z6, z7⟩
  let Hw : Hp := fun b => if b ∈ xs then some (xo b (g b)) else H1 b
  have win : ∀ {b}, b ∈ xs → Hw b = some (xo b (g b)) := fun hb => if_pos hb
  have wout : ∀ {b}, b ∉ xs → Hw b = H1 b := fun hb => if_neg hb
  have tno : ∀ b u, H1 b = some u → b ∉ xs := fun b u e z => by
    rw [(inx b z).2.1] at e
    cases e
  have gno : ∀ c ∈ xs, G1 c = none := fun c hc => m.same.free (inx c hc).2.1
  have e0 : Env0 X.prog X.w X.K X.mg X.base X.A X.stack s1 Hw := by
    have e := I1.env0
    refine ⟨e.frames, e.mod, fun b o z => ⟨(e.bs b o z).1, ?_⟩, e.bsz, e.funs, fun b hb => ?_, fun b u z => ?_, e.bare⟩
    · rw [wout fun hb => absurd (Nat.lt_of_lt_of_le (Heap.lt_size z) (inx b hb).2.2.2) (Nat.lt_irrefl _)]
      exact (e.bs b o z).2
    · rw [wout fun hx => (inx b hx).2.2.1 hb]
      exact e.frf b hb
    · by_cases hb : b ∈ xs
      · rw [win hb] at z
        cases z
        exact ⟨(inx b hb).1, ⟨_, (inx b hb).1⟩, fun h1 h2 p st => st _ p⟩
      · rw [wout hb] at z
        exact (e.hok b u z).stay (fun _ _ _ q => q) (fun b q => by rw [wout (tno _ _ q)]; exact q) (fun b ys q => by rw [wout (tno _ _ q)]; exact q)
  have mw : Mem X.K xs G1 Hw (cellMu g 0 cl) := by
    refine ⟨fun b o z => ?_, by simp [xs, cellMu_length], fun j mo hj hgone => ?_, nd, fun a ha => by rw [win ha]; simp⟩
    · rw [wout fun hb => by rw [gno b hb] at z; cases z]
      exact m.same b o z
    · rw [cellMu_get] at hj
      cases hc : cl[j]? with
      | none => rw [hc] at hj; cases hj
      | some tt =>
        rw [hc] at hj
        cases hj
        have ht := List.mem_of_getElem? hc
        have hx : xs[j]? = some tt.1 := by
          show (cl.map (·.1))[j]? = _
          rw [List.getElem?_map, hc]
          rfl
        obtain ⟨oc, v, u, z1, z2, z3, z4, z5, z6, z7⟩ := inf tt ht
        refine ⟨tt.1, _, hx, win (List.mem_of_getElem? hx), ⟨by rw [Nat.zero_add]; exact hx, v, u, rfl, by rw [gg _ _ z1]; exact z2, z3, z4.free (hcl tt ht)⟩, gno _ (List.mem_of_getElem? hx)⟩
  have sp : spD X.K R vs Hw (AfE X.K xs G1 Hw fun d μ' => d.mf = true ∧ (∀ j, j < cl.length → μ'[j]? = (cellMu g 0 cl)[j]?) ∧ Q d μ1) (fun _ _ _ => False) :=
    ⟨xs, G1, ds, _, _, _, mw, av.free mfd, q g, fun _ _ z => z, fun cls d H' ⟨_, _, _, _, _, _, _, _, _, j⟩ => j⟩
  have hl : us.length = ps.length := by
    rw [← r.length, av.length]
    exact F.len _ _ _ _ (q g)
  have b0 := hb s1 us I1.kIn (by rw [List.append_nil]; exact hl)
  rw [List.append_nil] at b0
  refine wpAny_call (codeAny_mono (F.run X.A X.stack s1 Hw ⟨us, []⟩ us vs _ _ hr hgd e0 b0 r sp) fun r s' hq => ?_)
  cases r with
  | error e =>
    obtain ⟨_, _, _, _, _, _, _, _, _, _, _, _, z⟩ := hq
    exact z.elim
  | ok fl =>
    cases fl with
    | next => exact False.elim hq
    | brk => exact False.elim hq
    | cont => exact False.elim hq
    | ret u =>
      obtain ⟨v, H', os, bare, un, hok', rv, d, μ', as', G', t', m', a', md, hkeep, qq⟩ := hq
      have back : ∀ c ∈ xs, H' c = some (xo c (g c)) ∧ G' c = none := fun c hc => by
        obtain ⟨j, hj⟩ := List.getElem?_of_mem hc
        have hj2 : (cl.map (·.1))[j]? = some c := hj
        rw [List.getElem?_map] at hj2
        cases hcj : cl[j]? with
        | none => rw [hcj] at hj2; cases hj2
        | some tt =>
          rw [hcj] at hj2
          cases hj2
          have hm := hkeep j (List.getElem?_eq_some_iff.mp hcj).1
          rw [cellMu_get, hcj] at hm
          obtain ⟨a2, o2, y1, y2, ⟨y3, v2, u2, y4, _⟩, y8⟩ := m'.cell j _ hm (fun z => by cases z)
          rw [t'.ix j _ hj] at y1
          cases y1
          subst y4
          exact ⟨y2, y8⟩
      have hw1 : ∀ b, H1 b = none → b ∉ xs → Hw b = none := fun b n hb => by rw [wout hb]; exact n
      have fr : ∀ b o, G' b = some o → G1 b = some o ∨ H1 b = none := fun b o e => by
        rcases t'.fr b o e with z | z | z
        · exact .inl z
        · by_cases hb : b ∈ xs
          · exact .inr (inx b hb).2.1
          · rw [wout hb] at z
            exact .inr z
        · exact .inr (inx b z).2.1
      have hh : ∀ b o, H1 b = some o → cut H' xs b = some o := fun b o e => by
        have nb := tno b o e
        rw [cut_out nb]
        exact t'.hh b o (by rw [wout nb]; exact e) nb
      have ho : ∀ b, H1 b ≠ none → cut H' xs b ≠ none := fun b e => by
        cases q : H1 b with
        | none => exact absurd q e
        | some o => rw [hh b o q]; simp
      have T : Step as1 G1 H1 as1 G' (cut H' xs) := ⟨⟨[], by simp⟩, t'.gg, fun b o e _ => hh b o e, ho, fun b o e => (fr b o e).elim .inl fun z => .inr (.inl z), fun a ha => .inl ha⟩
      have M : Mem X.K as1 G' (cut H' xs) μ1 := by
        refine ⟨fun b o e => ?_, m.len, fun j mo hj hgone => ?_, m.nd, fun a ha => ho a (m.ne a ha)⟩
        · rw [cut_out fun hb => by rw [(back b hb).2] at e; cases e]
          exact m'.same b o e
        · obtain ⟨a, o, h1, h2, h3, h4⟩ := m.cell j mo hj hgone
          refine ⟨a, o, h1, hh a o h2, h3.mono t'.gg (fun _ _ h => h), ?_⟩
          cases q : G' a with
          | none => rfl
          | some u =>
            rcases fr a u q with z | z
            · rw [h4] at z; cases z
            · rw [h2] at z; cases z
      have U : Un (frs X.stack) [] H1 (cut H' xs) s1.heap s'.heap := by
        have at_ : ∀ b o, s1.heap.get? b = some o → b ∈ xs → s'.heap.get? b = some o := fun b o e hb => by
          have z := xo_ok hok' (back b hb).1
          rw [(inx b hb).1] at e
          cases e
          exact z
        refine ⟨fun b o e n hb hx => ?_, fun b o e n hb hx => ?_, fun b o e n hx => ?_, un.there, fun b ys q => ?_, fun b o v q => ?_, fun b ps q => ?_⟩
        · by_cases hbx : b ∈ xs
          · exact at_ b o e hbx
          · exact un.keep b o e (hw1 b n hbx) hb hx
        · by_cases hbx : b ∈ xs
          · exact ⟨o.slots, at_ b o e hbx⟩
          · exact un.slot b o e (hw1 b n hbx) hb hx
        · by_cases hbx : b ∈ xs
          · exact cut_in hbx
          · rw [cut_out hbx]
            exact un.free b o e (hw1 b n hbx) hx
        · have nb := tno b _ q
          rw [cut_out nb]
          exact un.tups b ys (by rw [wout nb]; exact q)
        · have nb := tno b _ q
          rw [cut_out nb]
          exact un.frzs b o v (by rw [wout nb]; exact q)
        · have nb := tno b _ q
          rw [cut_out nb]
          exact un.tbls b ps (by rw [wout nb]; exact q)
      have fin := I1.after (Q := AfE X.K as1 G1 H1 Q) ⟨v, cut H' xs, os, bare, U, hok_cut hok' (fun c hc => ⟨_, (back c hc).1⟩), rv, d, μ1, as1, G', T, M, a'.free md, qq⟩
      obtain ⟨v', H2, I2, rv', q2⟩ := fin
      exact ⟨v', H2, I2, rv', q2.back t⟩
end
end DL

/-! D38: a comprehension whose turns know how the owner stood when it began. -/
namespace DL
open PySem PySem.Spec PyProof.Rows L2
section
variable {X : Cx} {pins : List (Addr × Obj)} {s : Shared} {σ : L2.St} {H : Hp} {Q : VK} {elt tg iter : Expr} {scope : Scope} {own : List (Str × Nat)} {pos : Pos} {wi : TI} {g : TG} {te : TE}
/-- how the owner stood -/
structure Stood (X : Cx) (pins : List (Addr × Obj)) (σ : L2.St) (s : Shared) (H : Hp) (fp : List Addr) : Prop where
  inv : Inv X pins σ H s
  apart : ∀ b ∈ fp, FpOk X pins H b
theorem lc_known (hc : X.calm = true) (hN : X.N.Nodup) (I : Inv X pins σ H s) (hi : PI X tg iter wi) (ok : BlkOk X.N X.env.scope scope own)
    (hg : ∀ s0 H0 C cl fp, PG (Blk X scope s0 H0 C cl fp) tg g) (he : ∀ s0 H0 C cl fp, Stood X pins σ s0 H0 fp → PE (Blk X scope s0 H0 C cl fp) elt te) (hs : ∀ x, foldedSetIterable iter X.env x = pure x)
    (h : tLc wi g tYes te (own.map (·.2)) σ H Q) : wpAny (model X.prog X.w) X.A (eval (.ListComp elt [⟨tg, iter, [], 0⟩] scope pos) X.env) (EP X pins σ Q) X.xe s := by
  rw [eval_ListComp]
  have fr : ∀ y ∈ scope.names, y.2 = .free → ∃ c, X.env.cells.lookup y.1 = some c := fun y hy e => I.ok.has y.1 (ok.free y hy e)
  refine wpAny_comprehension_free (use := none) rfl hs (closure_ok fr) ok.kind (fun y hy e => (ok.uniq y hy).trans (by rw [e])) (thn (hi.run pins s σ H _ I h) fun _ _ begun => thn begun fun itv sA z => ?_)
  obtain ⟨it, fp, tn, J, HA, rfl, IA, T, stA, apA, turns⟩ := z
  -- the new list is laid
  refine wpAny_newObj_type (newEnv_comp ?_) (Nat.zero_le sizeLine)
  obtain ⟨L, hL⟩ : ∃ L, sA.heap.objs.size = L := ⟨_, rfl⟩
  rw [hL]
  have freeL : HA L = none := IA.hok.fresh (Nat.le_of_eq hL)
  obtain ⟨W, ⟨m0, w0⟩, turns⟩ := turns L freeL
  have grew : ∀ b o, sA.heap.get? b = some o → (sA.heap.push { cls := .type "list", data := .seq ([] : List Value).toArray }).get? b = some o := fun b o e => Heap.get?_push_of_some _ e
  have IB : Inv X pins σ (upd HA L (.lst [])) { sA with heap := sA.heap.push { cls := .type "list", data := .seq ([] : List Value).toArray } } :=
    IA.laid (t' := sA.toks) grew (Nat.le_of_eq hL) ⟨Nat.zero_le _, [], 0, .nil, by rw [← hL]; exact Heap.get?_push_size _ rfl⟩
  have old : ∀ b ∈ fp, b < sA.heap.objs.size := fun b hb => (T.obj 0 _ stA b hb).elim fun o e => Heap.lt_size e.1
  have apB : ∀ b ∈ fp, FpOk X pins (upd HA L (.lst [])) b := fun b hb => ⟨by rw [upd_ne (fun z => absurd (old b hb) (by rw [z, hL]; exact Nat.lt_irrefl _))]; exact (apA b hb).1, (apA b hb).2⟩
  have stB : tn 0 (sA.heap.push { cls := .type "list", data := .seq ([] : List Value).toArray }) := T.keep _ _ _ stA fun b _ o e => grew b o e
  have szB : ∀ b ∈ fp, b < (sA.heap.push { cls := .type "list", data := .seq ([] : List Value).toArray }).objs.size := fun b hb => by rw [Heap.size_push]; exact Nat.lt_succ_of_lt (old b hb)
  generalize upd HA L (.lst []) = HB at IB apB w0
  -- the block begins
  obtain ⟨sB, hB⟩ : ∃ sB : Shared, sB = { sA with heap := sA.heap.push { cls := .type "list", data := .seq ([] : List Value).toArray } } := ⟨_, rfl⟩
  have hBh : sB.heap = sA.heap.push { cls := .type "list", data := .seq ([] : List Value).toArray } := by rw [hB]
  rw [← hB] at IB
  rw [← hBh] at stB szB
  rw [← hB]
  have IC := block_start IB ok hN fun b hb => ⟨apB b hb, szB b hb⟩
  obtain ⟨cs, hcs⟩ : ∃ cs, cs = cellsFrom (sB.heap.objs.size + 1) scope.names (cloFrom X.env.cells scope.names []) := ⟨_, rfl⟩
  rw [← hcs] at IC
  have pg : PG (X.blk sB HB scope (compEnvC scope cs sB.heap.objs.size X.env) fp) tg g := hg sB HB sB.heap.objs.size cs fp
  have pe : PE (X.blk sB HB scope (compEnvC scope cs sB.heap.objs.size X.env) fp) elt te := he sB HB sB.heap.objs.size cs fp ⟨IB, apB⟩
  have hloc : (compEnvC scope cs sB.heap.objs.size X.env).locals = sB.heap.objs.size := rfl
  show codeAny _ _ (.compStart (.ListComp elt [⟨tg, iter, [], 0⟩] scope pos) 0 (.ref it) (.ref L) (compEnvC scope (cellsFrom (sB.heap.objs.size + 1) scope.names (cloFrom X.env.cells scope.names [])) sB.heap.objs.size X.env)) (compPost (model X.prog X.w) X.A X.xe none _ (.ref L) sB.heap.objs.size) { sB with heap := pushCells (sB.heap.push { cls := .type "dict", data := .dict #[] }) scope.names }
  rw [← hcs]
  have later : ∀ b o, sB.heap.get? b = some o → (pushCells (sB.heap.push { cls := .type "dict", data := .dict #[] }) scope.names).get? b = some o := fun b o e => pushCells_keeps _ _ _ _ (Heap.get?_push_of_some _ e)
  have stC := T.keep _ _ (pushCells (sB.heap.push { cls := .type "dict", data := .dict #[] }) scope.names) stB fun b _ o e => later b o e
  generalize pushCells (sB.heap.push { cls := .type "dict", data := .dict #[] }) scope.names = hC at IC stC ⊢
  generalize compEnvC scope cs sB.heap.objs.size X.env = ce at IC pg pe hloc ⊢
  -- what holds ahead of each turn
  let Ahead : Nat → Shared → Prop := fun n s' => ∃ i H', Inv (X.blk sB HB scope ce fp) [] (L2.wipe σ (own.map (·.2))) H' s' ∧ tn i s'.heap ∧ (∀ b ∈ fp, H' b = none) ∧ W i n H'
  have lap : codeAny (model X.prog X.w) X.A (.compLoop (.ListComp elt [⟨tg, iter, [], 0⟩] scope pos) 0 (.ref it) (.ref L) ce) (compPost (model X.prog X.w) X.A X.xe none (EP X pins σ Q) (.ref L) sB.heap.objs.size) { sB with heap := hC } := by
    refine compLoop_any Ahead ?_ m0 ⟨0, HB, IC, stC, fun b hb => (apB b hb).1, w0⟩
    rintro n s' ⟨i, H', I', st', no', w'⟩
    have ap' : ∀ {σ2 : L2.St} {H2 : Hp} {s2 : Shared}, Inv (X.blk sB HB scope ce fp) [] σ2 H2 s2 → (∀ b ∈ fp, H2 b = none) → ∀ b ∈ fp, FpOk (X.blk sB HB scope ce fp) [] H2 b := fun I2 n2 b hb =>
      ⟨n2 b hb, (I2.ok.exf b hb).1, I2.ok.exfs b hb, .inl hb, (I2.ok.exf b hb).2, fun p hp => absurd (show p ∈ ([] : List (Addr × Obj)) ++ [] from hp) (by simp)⟩
    rcases turns i n H' w' with ⟨stop, q⟩ | ⟨go, Nx, less, step⟩
    · refine thnF (T.done (X.blk sB HB scope ce fp) rfl rfl rfl hc i [] s' _ H' (fun _ _ => False) I' (ap' I' no') st' stop) fun r s1 ⟨hr, I1⟩ => ?_
      subst hr
      have home : Inv X pins σ H' s1 := IB.call' (ch := fp) I1.os I1.base I1.hok I1.bare fun b hb => ⟨(apB b hb).2.2.2.1, (apB b hb).2.1, (apB b hb).2.2.2.2.1, (apB b hb).2.2.2.2.2⟩
      have gone : H' ce.locals = none := I1.free
      rw [hloc] at gone
      obtain ⟨f0, f1, f2, f3, f4, f5⟩ := IB.fpOk (Nat.le_refl _) gone
      obtain ⟨m, ns, _⟩ := I1.loc
      have ns : s1.heap.Ns ce.locals m := ns
      rw [hloc] at ns
      exact ⟨m, ns, fun h2 sb => ⟨.ref L, H', home.turned (t' := s1.toks) (fun b o hb e => (sb.2 b hb).trans e) f0 f1 f3 f4 f5, rfl, q⟩⟩
    · refine thnF (T.item (X.blk sB HB scope ce fp) rfl rfl rfl hc i [] s' _ H' (fun _ _ => False) I' (ap' I' no') st' go) fun r s1 ⟨u, hr, z⟩ => ?_
      subst hr
      refine thnF z fun _ s2 ⟨x, H2, I2, r2, y2, st2, n2⟩ => ?_
      refine thnF (pg.run _ s2 _ H2 x u _ (I2.pinned (ap' I2 n2) (T.obj _ _ st2)) r2 (step x H2 y2)) fun _ s3 ⟨σ3, H3, I3, same, q3⟩ => ?_
      refine wpAny_pure ?_
      show wpAny _ _ _ _ _ _
      refine thnF (pe.run _ s3 σ3 H3 _ I3 q3) fun v s4 ⟨y, H4, I4, r4, acc, hL4, few, nx⟩ => ?_
      refine app_ok (X := X.blk sB HB scope ce fp) I4 hL4 few r4 fun s5 I5 => ?_
      obtain ⟨m', lt, w5⟩ := less _ nx
      have still : ∀ b ∈ fp, ∀ o, s2.heap.get? b = some o → s5.heap.get? b = some o ∧ upd H4 L (.lst (acc ++ [y])) b = none := fun b hb o e => ⟨(I5.pin (b, o) (List.mem_append_right _ (List.mem_append_right _ (mem_pinsAt hb e)))).1, (I5.pin (b, o) (List.mem_append_right _ (List.mem_append_right _ (mem_pinsAt hb e)))).2.1⟩
      refine ⟨m', lt, i + 1, _, (I5.unpinned (pins := [])).weak (by rw [← same, L2.wipe_length]) (fun j v e => ?_), T.keep _ _ _ st2 fun b hb o e => (still b hb o e).1, fun b hb => (T.obj _ _ st2 b hb).elim fun o e => (still b hb o e.1).2, w5⟩
      rw [← same] at e
      exact (wipe_some e).1
  exact codeAny_compStart_list lap (T.self X.A 0 _ _ _ stC lap)
end
end DL

/-! D39: [f(a, b) for a, b in l], f handed the owner's cells. -/
namespace DL
open PySem PySem.Spec PyProof.Rows L2
section
variable {X : Cx} {J : JX} {ρ : Env'} {μ : Mu} {tg iter e : Expr} {es : List Expr} {pos p1 : Pos} {k : Nat} {ps : List Str} {R : Spc}
/-- the cells, as data -/
def CellsOf (X : Cx) (ρ : Env') (cl : List (Addr × Dt)) : Prop := ∀ t ∈ cl, t.2.mf = true ∧ ∃ (i : Nat) (y : Str), X.N[i]? = some y ∧ ρ[i]? = some (some t.2) ∧ X.env.scope.names.lookup y = some .cell ∧ X.env.cells.lookup y = some t.1 ∧ X.fn y = true
theorem stood_cells {cl : List (Addr × Dt)} {scope : Scope} {pins pins' : List (Addr × Obj)} {σ σ' : L2.St} {s0 s1 : Shared} {H0 H1 G H : Hp} {as : List Addr} {C : Addr} {cs : List (Str × Addr)} {fp : List Addr} (hcl : CellsOf X ρ cl) (S : Sx X J as G H σ ρ μ) (st : Stood X pins σ s0 H0 fp) (I1 : Inv (Blk X scope s0 H0 C cs fp) pins' σ' H1 s1) :
    ∀ tt ∈ cl, ∃ oc v u, s1.heap.get? tt.1 = some oc ∧ oc.data = .cell (some u) ∧ RelV v u ∧ At X.K as G v tt.2 ∧ H1 tt.1 = none ∧ tt.1 ∉ frs (Blk X scope s0 H0 C cs fp).stack ∧ X.base.objs.size ≤ tt.1 := by
  intro tt ht
  have I := st.inv
  obtain ⟨_, i, y, z1, z2, z3, z4, z5⟩ := hcl tt ht
  obtain ⟨v, e1, a1⟩ := S.sl.at_ i _ z2
  obtain ⟨mm, hn, hl⟩ := I.loc
  obtain ⟨u, rv, lk⟩ := hl i y v z1 e1 (.inr (.inl z3))
  have hc := I.freeC y tt.1 z4
  have cab := I.ok.cab y tt.1 z5 z4
  have nfs : tt.1 ∉ frs X.stack := fun hm => by
    rcases List.mem_cons.mp (I.stkSub _ hm) with z | z
    · exact I.cne y tt.1 z4 z
    · obtain ⟨_, o, ho, _⟩ := I.ok.funs.mem z
      exact absurd (Nat.lt_of_lt_of_le (Heap.lt_size ho) cab) (Nat.lt_irrefl _)
  rcases lk with ⟨k', _⟩ | ⟨_, c3, e', oc, ho, hd⟩
  · have k' : X.env.scope.names.lookup y = some .local := k'
    rw [z3] at k'
    cases k'
  · rw [z4] at e'
    cases e'
    have nfp : tt.1 ∉ fp := fun hb => (st.apart _ hb).2.2.2.2.1 y tt.1 z4 rfl
    have base : Un (frs X.stack) fp H0 H1 s0.heap s1.heap := I1.base
    have ab : s0.heap.objs.size ≤ (compEnvC scope cs C X.env).locals := I1.ok.above
    refine ⟨oc, v, u, base.keep _ _ ho hc nfs nfp, hd, rv, a1, base.free _ _ ho hc nfp, fun hm => ?_, Nat.le_trans I.ok.bsz cab⟩
    rcases List.mem_cons.mp (I1.stkSub _ hm) with z | z
    · exact absurd (Nat.lt_of_lt_of_le (Heap.lt_size ho) (Nat.le_trans ab (Nat.le_of_eq z.symm))) (Nat.lt_irrefl _)
    · exact nfs z
theorem dE_lcCells {cl : List (Addr × Dt)} {x : Str} {p : Pos} {scope : Scope} (own : List (Str × Nat)) {Q : Dt → Mu → Prop} (F : DefP X.prog X.w X.K X.mg X.base k x ps R) (hr : Room k X.A) (hgd : X.A.guards = some []) (hcl : CellsOf X ρ cl) (nd : (cl.map (·.1)).Nodup)
    (hc : X.calm = true) (hN : X.N.Nodup) (ok : BlkOk X.N X.env.scope scope own)
    (h : dI X J tg iter ρ μ fun xs ok μ1 => ok μ1 ∧ xs.length ≤ sizeLine ∧ (∀ z ∈ xs, BE X scope fun X1 => dGv X1 J0 (own.map (·.2)) tg z (wipeD ρ (own.map (·.2))) μ1 fun ρ2 μ2 => μ2 = μ1 ∧ BE X scope fun X3 => dA X3 J0 (e :: es) ρ2 μ1 fun ds μ3 => CallsC R cl ds μ3 fun d μ4 => d = .bl true ∧ μ4 = μ1) ∧ Q (.lst (List.replicate xs.length (.bl true))) μ1)
    (hg : BE X scope fun X1 => Gl X1 x := by intro _ _ _ _ _; rfl) (hdb : (x == ("__debug__" : Str)) = false := by decide) (he : BE X scope fun X1 => starEach (e :: es) X1.env = (false, eval e X1.env) :: starEach es X1.env := by intro _ _ _ _ _; rfl) (hpl : BE X scope fun X1 => (backTo p1 (starEach es X1.env)).any (·.1) = false := by intro _ _ _ _ _; rfl)
    (hs : ∀ x, foldedSetIterable iter X.env x = pure x := by intro _; rfl) : dE X J (.ListComp (.Call (.Name x p) (e :: es) [] p1) [⟨tg, iter, [], 0⟩] scope pos) ρ μ Q := .mk fun as G H σ S pins s I => by
  refine lc_known (Q := AfE X.K as G H Q) (g := fun v σ H Q => BE X scope fun X1 => wG X1 tg v σ H Q) (te := fun σ' H' Q => ∀ s0 H0 C cs fp, Stood X pins σ s0 H0 fp → wE (Blk X scope s0 H0 C cs fp) (.Call (.Name x p) (e :: es) [] p1) σ' H' Q) hc hN I piW ok
    (fun s H C cl fp => ⟨fun pins s1 σ1 H1 v u Q I r z => z s H C cl fp pins s1 u I r⟩) (fun s0 H0 C cs fp st => ⟨fun pins s1 σ1 H1 Q I z => z s0 H0 C cs fp st pins s1 I⟩) hs ?_
  have hmf : ∀ t ∈ cl, t.2.mf = true := fun t ht => (hcl t ht).1
  refine tLc_mono (Q := LcQ X as G H fun acc μ' => Q (.lst acc) μ') (fun v H' z => z.frz) (fun R R' k z => dS_for.wI_mono z k) ?_
  show wI X tg iter σ H fun It H1 => _
  refine dS_for.wI_mono (h as G H σ S) fun It H1 ⟨xs, ok, μ1, as1, G1, t1, m1, src, o1, few, turn, done⟩ Dl hD => ?_
  have hD0 : H Dl = none := by
    cases q : H Dl with
    | none => rfl
    | some u => exact absurd hD (t1.ho _ (by rw [q]; simp))
  have nD1 : Dl ∉ as1 := fun z => m1.ne _ z hD
  have gD1 : G1 Dl = none := m1.same.free hD
  have mA := m1.aside (o := .lst []) hD
  refine ⟨fun i m H' => m = xs.length - i ∧ i ≤ xs.length ∧ ∃ zs as' G', Step as1 G1 H1 as' G' H' ∧ Mem X.K as' G' H' μ1 ∧ H' Dl = some (.lst zs) ∧ Dl ∉ as' ∧ G' Dl = none ∧ Ats X.K as' G' zs (List.replicate i (.bl true)),
    ⟨xs.length, by simp, Nat.zero_le _, [], as1, G1, .aside m1 hD, mA, upd_same, nD1, gD1, .nil⟩, ?_⟩
  have tk : ∀ {X1 : Cx} {as2 : List Addr} {G2 H2 : Hp}, TakesD X1 J0 as2 G2 H2 := TakesD.none
  rintro i m H' ⟨rfl, hi, zs, as', G', t', m', hz, nD, gD, az⟩
  by_cases hlt : i < xs.length
  · have hx : xs[i]? = some xs[i] := by simp [hlt]
    obtain ⟨go, yl⟩ := src.item as' G' H' μ1 t'.gg t'.ix m' o1 i _ hx
    refine .inr ⟨go, fun H2 => ∃ zs as' G', Step as1 G1 H1 as' G' H2 ∧ Mem X.K as' G' H2 μ1 ∧ H2 Dl = some (.lst zs) ∧ Dl ∉ as' ∧ G' Dl = none ∧ Ats X.K as' G' zs (List.replicate (i + 1) (.bl true)), fun H2 z => ⟨xs.length - (i + 1), by omega, rfl, hlt, z⟩, fun x H2 y => ?_⟩
    obtain ⟨G2, t2, m2, a2⟩ := yl x H2 y
    intro s0 H0 C0 cl0 fp0
    have keepD : ∀ {as3 : List Addr} {G3 H3 : Hp}, Step as' G' H' as3 G3 H3 → H3 Dl = some (.lst zs) ∧ Dl ∉ as3 ∧ G3 Dl = none := fun {as3 G3 H3} t => by
      refine ⟨t.hh _ _ hz nD, fun z => ?_, ?_⟩
      · rcases t.nw _ z with z | z
        · exact nD z
        · rw [hz] at z; cases z
      · cases q : G3 Dl with
        | none => rfl
        | some o =>
          rcases t.fr _ _ q with z | z | z
          · rw [gD] at z; cases z
          · rw [hz] at z; cases z
          · exact absurd z nD
    have S2 : Sx (Blk X scope s0 H0 C0 cl0 fp0) J0 as' G2 H2 (L2.wipe σ (own.map (·.2))) (wipeD ρ (own.map (·.2))) μ1 := ⟨m2, ((S.sl.mono t1).mono (t'.trans t2)).wipe _, tk⟩
    refine wG_mono (turn _ (List.getElem_mem hlt) s0 H0 C0 cl0 fp0 as' G2 H2 _ x S2 a2) fun σ3 H3 ⟨⟨ρ3, μ3, as3, G3, t3, m3, s3, eμ, q3⟩, w3⟩ => ⟨?_, ?_⟩
    · rw [w3]
      have ww : ∀ (τ : L2.St) (ws : List Nat), L2.wipe (L2.wipe τ ws) ws = L2.wipe τ ws := by
        intro τ ws
        have gen : ∀ (us : List Nat), (∀ u ∈ us, u ∈ ws) → ∀ τ : L2.St, L2.wipe (L2.wipe τ us) ws = L2.wipe τ ws := by
          intro us
          induction us with
          | nil => intro _ _; rfl
          | cons u us ih =>
            intro hu τ
            show L2.wipe ((L2.wipe τ us).set u none) ws = _
            rw [wipe_set (hu u List.mem_cons_self)]
            exact ih (fun v hv => hu v (List.mem_cons_of_mem _ hv)) τ
        exact gen ws (fun _ h => h) τ
      exact ww σ _
    subst eμ
    simp only [tYes, if_true]
    intro s2 H2' C2 cl2 fp2 st pins2 s4 I4
    have S3 : Sx (Blk X scope s2 H2' C2 cl2 fp2) J0 as3 G3 H3 σ3 ρ3 μ3 := ⟨m3, s3, tk⟩
    have T3 : Step as G H as3 G3 H3 := t1.trans (t'.trans (t2.trans t3))
    refine thn (cells_go (X := Blk X scope s2 H2' C2 cl2 fp2) (Q := fun d μ4 => d = .bl true ∧ μ4 = μ3) F hr hgd hmf nd (q3 s2 H2' C2 cl2 fp2) S3 I4 (fun s5 H5 as5 G5 I5 t5 tt ht => ?_) (hg _ _ _ _ _) hdb (he _ _ _ _ _) (hpl _ _ _ _ _)) fun v s5 ⟨yv, H5, I5, r5, y, μ5, as5, G5, t5, m5, a5, ey, eμ⟩ => ?_
    · obtain ⟨oc, v, u, k1, k2, k3, k4, k5, k6, k7⟩ := stood_cells hcl S st I5 tt ht
      exact ⟨oc, v, u, k1, k2, k3, k4.mono (T3.trans t5).gg (T3.trans t5).ix, k5, k6, k7⟩
    · subst ey eμ
      have T5 := (t2.trans t3).trans t5
      obtain ⟨k1, k2, k3⟩ := keepD T5
      have al := az.mono T5.gg T5.ix
      refine ⟨yv, H5, I5, r5, zs, k1, by rw [al.length, List.length_replicate]; exact Nat.lt_of_lt_of_le hlt few, zs ++ [yv], as5, G5, ?_, ?_, upd_same, k2, k3, by rw [List.replicate_succ']; exact al.append (.cons a5 .nil)⟩
      · have TT := t'.trans T5
        refine ⟨TT.pre, TT.gg, fun b u e n => ?_, fun b e => ?_, TT.fr, TT.nw⟩
        · by_cases hb : b = Dl
          · rw [hb, hD] at e
            cases e
          · rw [upd_ne hb]; exact TT.hh b u e n
        · by_cases hb : b = Dl
          · subst hb; rw [upd_same]; simp
          · rw [upd_ne hb]; exact TT.ho b e
      · exact m5.set_aside k2 k3
  · have e : i = xs.length := by omega
    subst e
    refine .inl ⟨src.stop as' G' H' μ1 t'.gg t'.ix m' o1, Dl, zs, _, μ1, as', G', rfl, ?_, m', hD0, nD, gD, hz, az, done⟩
    exact t1.trans t'
end
end DL

/-! D40: != of a list that may change. -/
namespace DL
open PySem PySem.Spec PyProof.Rows L2
section
variable {X : Cx}
theorem od_neM (hu : X.A.units + 64 < cLine) : OpD X (compareOp .NotEq) (fun d e μ Q => ∃ k xs p q, d = .mut k ∧ μ[k]? = some (.lst xs) ∧ toPy (.lst xs) = some p ∧ toPy e = some q ∧ SeqAt.shaped p = true ∧ SeqAt.shaped q = true ∧ Q (.bl (xor true (PyData.eqv p q))) μ) := by
  refine ⟨_, op_neD hu, ?_⟩
  intro as G H μ x y d e Q Q' m a1 a2 ⟨k, xs, p, q, ed, hk, e1, e2, s1, s2, kk⟩ f
  subst ed
  cases a1 with
  | «mut» g1 =>
    obtain ⟨p', o, y1, y2, ⟨vs, rfl, t1⟩, _⟩ := m.cell k _ hk (by simp)
    rw [g1] at y1
    cases y1
    simp only [toPy, Option.map_eq_some_iff] at e1
    obtain ⟨ps, f1, f2⟩ := e1
    subst f2
    refine ⟨_, q, .lst (.of y2) (Ats.dp m.same t1 f1 (by simpa only [PyData.canLay0] using SeqAt.canLay_of_shaped s1)), a2.dp m.same e2 (SeqAt.canLay_of_shaped s2), s1, s2, f _ _ (.now m (.bl _) ?_)⟩
    simpa using kk
end
end DL

/-! D41: a tuple, once; a tuple, one time or more. -/
namespace DL
open PySem PySem.Spec PyProof.Rows L2
theorem tuple_once (l : Addr) (items : Array Value) (n : Nat) (dd : Option Addr) (sl : Array (Option Value)) (u : Tok) :
    Meets (Builtin.«tuple.__mul__» ⟨[.ref l, .int 1 u], []⟩) (fun _ R s => s.heap.get? l = some { cls := .type "tuple", dict := dd, data := .seq items n, slots := sl } ∧ R (.ok (.ret (.ref l))) s) :=
  .of_wp fun prog w A R s h => by
    obtain ⟨hp, g, d, tk, os⟩ := s
    obtain ⟨hl, h⟩ := h
    have f1 := AutoSeq1.idx_int
    wp_walk using wpAny_loadPart' hl
    all_goals first | exact ⟨_, rfl, h⟩ | skip
def rOnce (K : PySem.W.Frag) : R2 := fun x y H Q => ∃ l xs, x = .ref l ∧ y = .int 1 ∧ SqT K H l xs ∧ Q (.ref l) H
section
variable {X : Cx}
theorem op_once : OpR X (binaryOp .Mult) (rOnce X.K) := by
  intro pins s σ H x y v u Q I rx ry h
  obtain ⟨l, xs, rfl, rfl, hT, q⟩ := h
  cases rx
  obtain ⟨t, rfl⟩ := ry
  obtain ⟨its, r, ⟨⟨cls, dd, data, sl⟩, ho, hc, n, hd⟩, hs⟩ := I.tuple hT
  simp only at hc hd
  subst hc hd
  refine wpAny_binaryOp_repeat_ref (T := "tuple") (U := "int") (by decide) ⟨_, ho, rfl⟩ (fun s' => typeIs_int s' 1 t) noFill_tuple_mul F.fills_int_mul F.slot_int_rmul repeat_tuple F.slot_int_index.lookup
    (call_meets F.slot_int_rmul (typeIs_int s 1 t) F.entry_int_rmul (F.args_int_rmul_2 _ _) (int_rmul_tuple 1 t l its.toArray n dd sl)
      ⟨ho, rfl, ⟨_, ho, rfl⟩, call_meets F.slot_tuple_mul ⟨_, ho, rfl⟩ F.entry_tuple_mul (F.args_tuple_mul_2 _ _) (tuple_once l its.toArray n dd sl t) ⟨ho, ?_⟩⟩)
  exact ⟨.ref l, H, I, rfl, q⟩
theorem od_once : OpD X (binaryOp .Mult) (fun d e μ Q => ∃ xs, d = .tup xs ∧ e = .int 1 ∧ Q (.tup xs) μ) := by
  refine ⟨_, op_once, ?_⟩
  intro as G H μ x y d e Q Q' m a1 a2 h f
  obtain ⟨xs, rfl, rfl, q⟩ := h
  cases a2
  cases a1 with
  | tup g1 t1 => exact ⟨_, _, rfl, rfl, Same.tup m.same g1, f _ _ (.now m (.tup g1 t1) q)⟩
def rRep1 (K : PySem.W.Frag) : R2 := fun x y H Q => rOnce K x y H Q ∨ rRepT K x y H Q
theorem op_rep1 : OpR X (binaryOp .Mult) (rRep1 X.K) := by
  intro pins s σ H x y v u Q I rx ry h
  rcases h with h | h
  · exact op_once pins s σ H x y v u Q I rx ry h
  · exact op_repT pins s σ H x y v u Q I rx ry h
/-- a tuple, one time or more -/
theorem od_rep1 : OpD X (binaryOp .Mult) (fun d e μ Q => ∃ n xs, d = .tup xs ∧ e = .int n ∧ xs ≠ [] ∧ 1 ≤ n ∧ n ≤ 1000 ∧ xs.length ≤ 1000 ∧ Q (.tup (List.replicate n.toNat xs).flatten) μ) := by
  refine ⟨_, op_rep1, ?_⟩
  intro as G H μ x y d e Q Q' m a1 a2 h f
  obtain ⟨n, xs, rfl, rfl, hx, h1, h2, hl, q⟩ := h
  cases a2
  cases a1 with
  | tup g1 t1 =>
    rename_i p vs
    by_cases e1 : n = 1
    · subst e1
      have e : (List.replicate (1 : Int).toNat xs).flatten = xs := by simp
      rw [e] at q
      exact .inl ⟨_, _, rfl, rfl, Same.tup m.same g1, f _ _ (.now m (.tup g1 t1) q)⟩
    · refine .inr ⟨p, n, vs, rfl, rfl, Same.tup m.same g1, fun z => hx ?_, by omega, h2, by rw [t1.length]; exact hl, fun u hu => f _ _ (.lay m hu (.tup (.of upd_same) ((t1.rep _).mono (same_upd_none (m.same.free hu)) fun _ _ h => h)) q)⟩
      subst z
      cases t1
      rfl
end
end DL

/-! D42: combinations of two. -/
namespace CB
open PySem PySem.Spec PyProof.Rows
abbrev TC : String := "itertools.combinations"
theorem slot_next : Slot TC "__next__" "itertools.combinations.__next__" :=
  .of (owner := TC) (n := "__next__") (by rw [typeLookup_type, builtinLookup_eq_fast]; kernel_rfl) (by decide +kernel) (by decide +kernel) (by decide +kernel)
    (by first | exact .inl (by decide +kernel) | exact .inr (by decide +kernel)) (by rw [isSubtype_type]; kernel_rfl)
theorem entry_next : entryFor table "itertools.combinations.__next__" = some Builtin.«itertools.combinations.__next__» := entryFor_of_tree (by kernel_rfl)
theorem slot_iter : Slot TC "__iter__" "itertools.combinations.__iter__" :=
  .of (owner := TC) (n := "__iter__") (by rw [typeLookup_type, builtinLookup_eq_fast]; kernel_rfl) (by decide +kernel) (by decide +kernel) (by decide +kernel)
    (by first | exact .inl (by decide +kernel) | exact .inr (by decide +kernel)) (by rw [isSubtype_type]; kernel_rfl)
theorem entry_iter : entryFor table "itertools.combinations.__iter__" = some Builtin.«dict_keyiterator.__iter__» :=
  entryFor_alias (id' := "dict_keyiterator.__iter__") (by kernel_rfl) (by first | rfl | decide +kernel | (unfold String.splitOn; simp +decide [String.splitOnAux])) (by decide +kernel) (by kernel_rfl)
theorem slot_init : Slot TC "__init__" "object.__init__" :=
  .of (owner := "object") (n := "__init__") (by rw [typeLookup_type, builtinLookup_eq_fast]; kernel_rfl) (by decide +kernel) (by decide +kernel) (by decide +kernel)
    (by first | exact .inl (by decide +kernel) | exact .inr (by decide +kernel)) (by rw [isSubtype_type]; kernel_rfl)
theorem mro_c : mroOf (.type TC) = pure [.type TC, .type "object"] := by rw [mroOf_type]; kernel_rfl
theorem lookup_new : typeLookup (.type TC) "__new__" = pure (some (.builtin "itertools.combinations.__new__")) := by rw [typeLookup_type, builtinLookup_eq_fast]; kernel_rfl
theorem made_c : Bind.madeBy (.type TC) = pure (some "itertools.combinations.__new__") := madeBy_type mro_c lookup_new (by decide +kernel)
theorem typeCall_c (a b : Value) : checkTypeCall TC ⟨[a, b], []⟩ = pure () := by kernel_rfl
theorem newCall_c (a b : Value) : checkBuiltinCall "itertools.combinations.__new__" ⟨[.type TC, a, b], []⟩ = pure () := by kernel_rfl
theorem entry_new : entryFor table "itertools.combinations.__new__" = some Builtin.«itertools.combinations.__new__» := entryFor_of_tree (by kernel_rfl)
theorem plain_new : plainId "itertools.combinations.__new__" = true := by decide +kernel
theorem create_c : ((Manifest.find? TC).bind (·.mro.findSome? fun t => (Manifest.find? t).bind fun b => if b.noNew then some true else if b.attrs.any (·.1 == "__new__") then some false else none)).getD false = false := by decide +kernel
theorem sub_self : isSubtype (.type TC) (.type TC) = pure true := by rw [isSubtype_type]; kernel_rfl
theorem called_c : TypeCalled TC "itertools.combinations.__new__" "object.__init__" :=
  ⟨by decide +kernel, create_c, ⟨_, _, mro_c⟩, made_c, plain_new, sub_self, slot_init⟩
theorem args_next (a : Value) : argsOk "itertools.combinations.__next__" ⟨[a], []⟩ := by
  unfold argsOk; kernel_rfl
theorem args_iter (a : Value) : argsOk "itertools.combinations.__iter__" ⟨[a], []⟩ := by
  unfold argsOk; kernel_rfl
end CB

/-! D43: combinations of two, made. -/
namespace CB
open PySem PySem.Spec PyProof.Rows L2
section
variable {prog : Program} {w : World} {A : Around} {E : Value → Shared → Prop} {s : Shared}
theorem class_rest (l : List Value) : Builtin.Itertools.itClassAndRest "combinations" ⟨.type TC :: l, []⟩ = pure (.type TC, l) := by
  unfold Builtin.Itertools.itClassAndRest
  have e : ("itertools." ++ "combinations" : String) = TC := by decide
  simp only [isType, e, sub_self, pure_bind, Bool.not_true, Bool.false_eq_true, if_false]
theorem new_rec (fs : List Value) : Builtin.Itertools.itNewRecord (.type TC) fs = newObj (.type TC) (.fields fs.toArray) := by
  have e : typeHasDict (.type TC) = false := by decide +kernel
  unfold Builtin.Itertools.itNewRecord
  rw [e]
  simp
theorem new_meets (r : Addr) (t2 : Tok) (n : Nat) (a b : Int) (ta tb tc : Tok) (hlen : n ≤ 2 ^ 20) (hsm : Builtin.Range.small a b 1 = true) (hn : Builtin.Range.rangeSize a b 1 = n) :
    Meets (Builtin.«itertools.combinations.__new__» ⟨[.type TC, .ref r, .int 2 t2], []⟩) (fun A R s => A.handled = none ∧ IsRange s.heap r a b 1 ta tb tc ∧
      ∀ (h' : Heap) (tk : Nat) (acc : Array Value), (∀ b o, s.heap.get? b = some o → h'.get? b = some o) → ItemsOf (fun i v => ∃ t, v = .int (a + i * 1) t) acc n →
        R (.ok (.ret (.ref (h'.push { cls := .type "tuple", data := .seq acc }).objs.size))) { s with heap := (h'.push { cls := .type "tuple", data := .seq acc }).push { cls := .type TC, data := .fields #[.ref h'.objs.size, rawInt (if 2 > n then 2 else 0), .none, rawInt 0, rawInt 1] }, toks := tk }) :=
  .of_wp fun prog w A R s h => by
    obtain ⟨hh, hr, q⟩ := h
    unfold Builtin.«itertools.combinations.__new__»
    refine wpAny_bind ?_
    wp_delta
    refine wpAny_bind (wpAny_of_eq (a := (Value.type TC, [Value.ref r, Value.int 2 t2])) (class_rest _) ?_)
    try dsimp only
    refine wpAny_bind (wpAny_of_eq (a := [some (Value.ref r), some (Value.int 2 t2)]) (by kernel_rfl) ?_)
    try dsimp only
    refine wpAny_bind (wpAny_of_eq (a := (2 : Int)) (by first | rfl | kernel_rfl) ?_)
    refine wpAny_bind (collect_range (A := A.in1) hh hr hsm hn (by omega) fun h' tk acc hk hacc => ?_)
    rw [if_neg (by decide)]
    rw [if_neg (by decide)]
    refine wpAny_bind ?_
    simp only [newTuple]
    refine wpAny_newObj_type ?_ (by show acc.toList.toArray.size ≤ sizeLine; simp only [Array.toArray_toList]; rw [hacc.1, sizeLine_eq]; omega)
    refine wpAny_pure ?_
    try dsimp only
    have e : acc.toList.toArray = acc := by simp
    have el : acc.toList.length = n := by rw [Array.length_toList, hacc.1]
    rw [e, el]
    rw [new_rec]
    have ef : ([Value.ref h'.objs.size, rawInt (if Int.toNat 2 > n then 2 else 0), Value.none] ++ List.map (fun (i : Nat) => rawInt (i : Int)) (List.range (Int.toNat 2))).toArray = #[Value.ref h'.objs.size, rawInt (if 2 > n then 2 else 0), Value.none, rawInt 0, rawInt 1] := rfl
    rw [ef]
    refine wpAny_bind (wpAny_newObj_type ?_ (by show (5 : Nat) ≤ sizeLine + 2; rw [sizeLine_eq]; decide))
    refine wpAny_pure ⟨_, rfl, ?_⟩
    exact q h' tk acc hk hacc
theorem call_comb {r : Addr} {t2 : Tok} {n : Nat} {a b : Int} {ta tb tc : Tok} {Q : Value → Shared → Prop} (hh : A.handled = none) (hr : IsRange s.heap r a b 1 ta tb tc) (hlen : n ≤ 2 ^ 20) (hsm : Builtin.Range.small a b 1 = true) (hn : Builtin.Range.rangeSize a b 1 = n)
    (hQ : ∀ (h' : Heap) (tk : Nat) (acc : Array Value), (∀ b o, s.heap.get? b = some o → h'.get? b = some o) → ItemsOf (fun i v => ∃ t, v = .int (a + i * 1) t) acc n →
      Q (.ref (h'.push { cls := .type "tuple", data := .seq acc }).objs.size) { s with heap := (h'.push { cls := .type "tuple", data := .seq acc }).push { cls := .type TC, data := .fields #[.ref h'.objs.size, rawInt (if 2 > n then 2 else 0), .none, rawInt 0, rawInt 1] }, toks := tk }) :
    wpAny (model prog w) A (call (.type TC) [.ref r, .int 2 t2]) Q E s := by
  refine callType_new called_c (by decide) (typeCall_c _ _) (newCall_c _ _) (fun obj => F.args_object_init_3 obj _ _) entry_new (new_meets r t2 n a b ta tb tc hlen hsm hn) ⟨hh, hr, fun h' tk acc hk hacc => ?_⟩
  exact ⟨⟨_, Heap.get?_push_size _ rfl, rfl⟩, hQ h' tk acc hk hacc⟩
/-- a walk through pairs: at the tuple p, how far, the last told, both places -/
def IsCb (h : Heap) (a p : Addr) (st : Int) (res : Value) (i j : Nat) : Prop := ∃ o, h.get? a = some o ∧ o.cls = .type TC ∧ o.data = .fields #[.ref p, rawInt st, res, rawInt i, rawInt j]
theorem IsCb.at {h h' : Heap} {a p : Addr} {st : Int} {res : Value} {i j : Nat} (x : IsCb h a p st res i j) (e : ∀ o, h.get? a = some o → h'.get? a = some o) : IsCb h' a p st res i j := let ⟨o, ho, r⟩ := x; ⟨o, e _ ho, r⟩
theorem IsCb.typeIs {a p : Addr} {st : Int} {res : Value} {i j : Nat} (x : IsCb s.heap a p st res i j) : s.TypeIs (.ref a) TC := let ⟨o, ho, hc, _⟩ := x; ⟨o, ho, hc⟩
theorem iter_cb {it p : Addr} {st : Int} {res : Value} {i j : Nat} {Q : Value → Shared → Prop} (hit : IsCb s.heap it p st res i j) (h : Q (.ref it) s) : wpAny (model prog w) A (pyIter (.ref it)) Q E s := by
  refine wpAny_pyIter_slot hit.typeIs slot_iter (wpAny_call_entry slot_iter hit.typeIs entry_iter ?_ (args_iter _))
  show wpAny _ _ (ret (.ref it)) _ _ s
  exact wpAny_pure ⟨_, rfl, TC, _, hit.typeIs, slot_next.lookup, h⟩
theorem num_from {it : Addr} {o : Obj} {p : Addr} {st : Int} {res : Value} {i j : Nat} {Q : List Nat → Shared → Prop} (ho : s.heap.get? it = some o) (hd : o.data = .fields #[.ref p, rawInt st, res, rawInt i, rawInt j]) (h : Q [i, j] s) :
    wpAny (model prog w) A (Builtin.Itertools.itNumbersFrom (.ref it) 3) Q E s := by
  unfold Builtin.Itertools.itNumbersFrom
  refine wpAny_bind (wpAny_load ho ?_)
  rw [hd]
  exact wpAny_pure h
theorem int_field {it : Addr} {o : Obj} {p : Addr} {st : Int} {res : Value} {i j : Nat} {Q : Int → Shared → Prop} (ho : s.heap.get? it = some o) (hd : o.data = .fields #[.ref p, rawInt st, res, rawInt i, rawInt j]) (h : Q st s) :
    wpAny (model prog w) A (Builtin.Itertools.itIntField (.ref it) 1) Q E s := by
  unfold Builtin.Itertools.itIntField
  refine wpAny_bind (wpAny_field ho hd (x := rawInt st) rfl ?_)
  exact wpAny_pure h
theorem pool_items {p : Addr} {items : Array Value} {Q : Array Value → Shared → Prop} (hp : s.heap.IsTuple p items) (h : Q items s) : wpAny (model prog w) A (Builtin.Itertools.itPoolItems (.ref p)) Q E s := by
  obtain ⟨op, hop, _, np, hdp⟩ := hp
  unfold Builtin.Itertools.itPoolItems
  refine wpAny_bind (wpAny_seqItems hop hdp ?_)
  exact wpAny_pure h
theorem apart {it p : Addr} {st : Int} {res : Value} {i j : Nat} {h : Heap} {items : Array Value} (hit : IsCb h it p st res i j) (hp : h.IsTuple p items) : p ≠ it := fun e => by
  obtain ⟨o, ho, hc, _⟩ := hit
  obtain ⟨op, hop, hcp, _⟩ := hp
  subst e
  have := hop.symm.trans ho
  cases this
  rw [hc] at hcp
  exact absurd hcp (by decide)
theorem next_first {it p : Addr} {res : Value} {i j : Nat} {items : Array Value} {x y : Value} {Q : Option Value → Shared → Prop} (hit : IsCb s.heap it p 0 res i j) (hp : s.heap.IsTuple p items) (hx : items[i]? = some x) (hy : items[j]? = some y)
    (hQ : ∀ h' T, IsCb h' it p 1 (.ref T) i j → s.heap.objs.size ≤ T → h'.IsTuple T #[x, y] → (∀ b o, b ≠ it → s.heap.get? b = some o → h'.get? b = some o) → Q (some (.ref T)) { s with heap := h' }) : wpAny (model prog w) A (pyNext (.ref it)) Q E s := by
  have ne := apart hit hp
  obtain ⟨o, ho, hc, hd⟩ := id hit
  unfold pyNext
  refine wpAny_bind (wpAny_attempt (wpAny_callSpecial?_slot (name := Str.ofString "__next__") hit.typeIs slot_next
    (wpAny_call_entry slot_next hit.typeIs entry_next ?_ (args_next _))))
  unfold Builtin.«itertools.combinations.__next__»
  wp_delta
  refine wpAny_bind (wpAny_of_eq (a := (Value.ref it, [])) rfl ?_)
  try dsimp only
  refine wpAny_bind (wpAny_field ho hd (x := .ref p) rfl ?_)
  refine wpAny_bind (num_from ho hd ?_)
  try dsimp only
  refine wpAny_bind (int_field ho hd ?_)
  try dsimp only
  refine wpAny_bind (wpAny_setField ho hd (by simp) ?_)
  try dsimp only
  have ho2 := Heap.get?_update_self (Obj.mapFields (·.setIfInBounds 1 (rawInt 1))) ho (Obj.isFreed_of_fields (Obj.data_mapFields hd _))
  have hp2 : (s.heap.update it (Obj.mapFields (·.setIfInBounds 1 (rawInt 1)))).IsTuple p items := by
    obtain ⟨op, hop, r⟩ := hp
    exact ⟨op, (Heap.get?_update_other _ _ (Ne.symm ne)).trans hop, r⟩
  refine wpAny_bind ?_
  wp_delta
  refine wpAny_bind (pool_items hp2 ?_)
  try dsimp only
  have ex : ([i, j] : List Nat).map (fun i => items.getD i Value.none) = [x, y] := by
    simp only [List.map_cons, List.map_nil, Array.getD_eq_getD_getElem?, hx, hy, Option.getD_some]
  rw [ex]
  simp only [newTuple]
  refine wpAny_newObj_type ?_ (by size_fits)
  have hit3 : IsCb ((s.heap.update it (Obj.mapFields (·.setIfInBounds 1 (rawInt 1)))).push { cls := .type "tuple", data := .seq ([x, y] : List Value).toArray }) it p 1 res i j := ⟨_, Heap.get?_push_of_some _ ho2, (Obj.cls_mapFields ..).trans hc, by rw [Obj.data_mapFields hd]; simp⟩
  obtain ⟨o3, ho3, hc3, hd3⟩ := id hit3
  have sz : o3.data = .fields #[.ref p, rawInt 1, res, rawInt i, rawInt j] := hd3
  refine wpAny_bind (wpAny_field (s := _) ho3 hd3 (x := res) rfl ?_)
  try dsimp only
  refine wpAny_bind (wpAny_setField (s := _) ho3 hd3 (by simp) ?_)
  try dsimp only
  refine wpAny_bind (wpAny_letGo ?_)
  refine wpAny_pure ⟨_, rfl, wpAny_pure (hQ _ (s.heap.update it (Obj.mapFields (·.setIfInBounds 1 (rawInt 1)))).objs.size ?_ ?_ ?_ ?_)⟩
  · exact ⟨_, Heap.get?_update_self _ ho3 (Obj.isFreed_of_fields (Obj.data_mapFields hd3 _)), (Obj.cls_mapFields ..).trans hc3, by rw [Obj.data_mapFields hd3]; simp⟩
  · rw [Heap.size_update]
    exact Nat.le_refl _
  · have ne2 : (s.heap.update it (Obj.mapFields (·.setIfInBounds 1 (rawInt 1)))).objs.size ≠ it := Nat.ne_of_gt (Heap.lt_size ho2)
    exact ⟨_, (Heap.get?_update_other _ _ (Ne.symm ne2)).trans (Heap.get?_push_size _ rfl), rfl, _, rfl⟩
  · intro b o hb e
    exact (Heap.get?_update_other _ _ (Ne.symm hb)).trans (Heap.get?_push_of_some _ ((Heap.get?_update_other _ _ (Ne.symm hb)).trans e))
/-- both places, one further -/
def cbNext (n i j : Nat) : Option (List Nat) := if j + 1 < n then some [i, j + 1] else if i + 2 < n then some [i + 1, i + 2] else none
def cbTell (n i j : Nat) : Option (List Nat) := Option.map (fun k => [i, j].take k ++ (List.range (2 - k)).map fun d => [i, j].getD k 0 + 1 + d) (List.find? (fun k => [i, j].getD k 0 != k + n - 2) [1, 0])
theorem cbTell_eq {n i j : Nat} (h1 : i < j) (h2 : j < n) : cbTell n i j = cbNext n i j := by
  unfold cbTell cbNext
  by_cases h : j + 1 < n
  · have e : (j != 1 + n - 2) = true := by simp; omega
    simp [List.find?, e, h, List.range, List.range.loop]
  · have e : (j != 1 + n - 2) = false := by simp; omega
    by_cases h' : i + 2 < n
    · have e' : (i != n - 2) = true := by simp; omega
      simp [List.find?, e, e', h, h', List.range, List.range.loop]
    · have e' : (i != n - 2) = false := by simp; omega
      simp [List.find?, e, e', h, h']
theorem set_nums {it : Addr} {o : Obj} {p : Addr} {st : Int} {res : Value} {i j i' j' : Nat} {Q : Unit → Shared → Prop} (ho : s.heap.get? it = some o) (hc : o.cls = .type TC) (hd : o.data = .fields #[.ref p, rawInt st, res, rawInt i, rawInt j])
    (h : ∀ h', IsCb h' it p st res i' j' → h'.objs.size = s.heap.objs.size → (∀ b o, b ≠ it → s.heap.get? b = some o → h'.get? b = some o) → Q () { s with heap := h' }) :
    wpAny (model prog w) A (Builtin.Itertools.itSetNumbersFrom (.ref it) 3 [i', j']) Q E s := by
  unfold Builtin.Itertools.itSetNumbersFrom
  refine wpAny_updateFields ho hd ?_ (by show (5 : Nat) ≤ sizeLine + 3; rw [sizeLine_eq]; decide)
  exact h _ ⟨_, Heap.get?_update_self _ ho (Obj.isFreed_of_fields (Obj.data_mapFields hd _)), (Obj.cls_mapFields ..).trans hc, by rw [Obj.data_mapFields hd]; rfl⟩ (Heap.size_update ..) fun b o hb e => (Heap.get?_update_other _ _ (Ne.symm hb)).trans e
theorem next_step {it p : Addr} {res : Value} {i j i0 j0 : Nat} {items : Array Value} {x y : Value} {Q : Option Value → Shared → Prop} (hit : IsCb s.heap it p 1 res i j) (hp : s.heap.IsTuple p items) (hij : i < j) (hjn : j < items.size) (hnx : cbNext items.size i j = some [i0, j0]) (hx : items[i0]? = some x) (hy : items[j0]? = some y)
    (hQ : ∀ h' T, IsCb h' it p 1 (.ref T) i0 j0 → s.heap.objs.size ≤ T → h'.IsTuple T #[x, y] → (∀ b o, b ≠ it → s.heap.get? b = some o → h'.get? b = some o) → Q (some (.ref T)) { s with heap := h' }) : wpAny (model prog w) A (pyNext (.ref it)) Q E s := by
  have ne := apart hit hp
  obtain ⟨o, ho, hc, hd⟩ := id hit
  unfold pyNext
  refine wpAny_bind (wpAny_attempt (wpAny_callSpecial?_slot (name := Str.ofString "__next__") hit.typeIs slot_next
    (wpAny_call_entry slot_next hit.typeIs entry_next ?_ (args_next _))))
  unfold Builtin.«itertools.combinations.__next__»
  wp_delta
  refine wpAny_bind (wpAny_of_eq (a := (Value.ref it, [])) rfl ?_)
  try dsimp only
  refine wpAny_bind (wpAny_field ho hd (x := .ref p) rfl ?_)
  refine wpAny_bind (num_from ho hd ?_)
  try dsimp only
  refine wpAny_bind (int_field ho hd ?_)
  try dsimp only
  refine wpAny_bind (pool_items hp ?_)
  try dsimp only
  split
  · rename_i next heq
    have h2 : cbTell items.size i j = some next := Eq.trans (by kernel_rfl) heq
    rw [cbTell_eq hij hjn, hnx] at h2
    cases h2
    refine wpAny_bind (set_nums (i' := i0) (j' := j0) ho hc hd fun h1 hit1 sz1 pr1 => ?_)
    have hp2 : h1.IsTuple p items := by
      obtain ⟨op, hop, r⟩ := hp
      exact ⟨op, pr1 _ _ ne hop, r⟩
    obtain ⟨o2, ho2, hc2, hd2⟩ := id hit1
    refine wpAny_bind ?_
    wp_delta
    refine wpAny_bind (pool_items hp2 ?_)
    try dsimp only
    have ex : ([i0, j0] : List Nat).map (fun i => items.getD i Value.none) = [x, y] := by
      simp only [List.map_cons, List.map_nil, Array.getD_eq_getD_getElem?, hx, hy, Option.getD_some]
    rw [ex]
    simp only [newTuple]
    refine wpAny_newObj_type ?_ (by size_fits)
    have hit3 : IsCb (h1.push { cls := .type "tuple", data := .seq ([x, y] : List Value).toArray }) it p 1 res i0 j0 := ⟨_, Heap.get?_push_of_some _ ho2, hc2, hd2⟩
    obtain ⟨o3, ho3, hc3, hd3⟩ := id hit3
    refine wpAny_bind (wpAny_field (s := _) ho3 hd3 (x := res) rfl ?_)
    try dsimp only
    refine wpAny_bind (wpAny_setField (s := _) ho3 hd3 (by simp) ?_)
    try dsimp only
    refine wpAny_bind (wpAny_letGo ?_)
    refine wpAny_pure ⟨_, rfl, wpAny_pure (hQ _ h1.objs.size ?_ ?_ ?_ ?_)⟩
    · exact ⟨_, Heap.get?_update_self _ ho3 (Obj.isFreed_of_fields (Obj.data_mapFields hd3 _)), (Obj.cls_mapFields ..).trans hc3, by rw [Obj.data_mapFields hd3]; simp⟩
    · rw [sz1]
      exact Nat.le_refl _
    · have ne2 : h1.objs.size ≠ it := Nat.ne_of_gt (Heap.lt_size ho2)
      exact ⟨_, (Heap.get?_update_other _ _ (Ne.symm ne2)).trans (Heap.get?_push_size _ rfl), rfl, _, rfl⟩
    · intro b o hb e
      exact (Heap.get?_update_other _ _ (Ne.symm hb)).trans (Heap.get?_push_of_some _ (pr1 b o hb e))
  · rename_i heq
    have h2 : cbTell items.size i j = none := Eq.trans (by kernel_rfl) heq
    rw [cbTell_eq hij hjn, hnx] at h2
    cases h2
theorem next_end {it p : Addr} {res : Value} {i j : Nat} {items : Array Value} {Q : Option Value → Shared → Prop} (hh : A.handled = none) (hit : IsCb s.heap it p 1 res i j) (hp : s.heap.IsTuple p items) (hij : i < j) (hjn : j < items.size) (hnx : cbNext items.size i j = none)
    (hQ : ∀ h', Heap.ExtBut it s.heap h' → Q none { s with heap := h' }) : wpAny (model prog w) A (pyNext (.ref it)) Q E s := by
  have ne := apart hit hp
  obtain ⟨o, ho, hc, hd⟩ := id hit
  unfold pyNext
  refine wpAny_bind (wpAny_attempt (wpAny_callSpecial?_slot (name := Str.ofString "__next__") hit.typeIs slot_next
    (wpAny_call_entry slot_next hit.typeIs entry_next ?_ (args_next _))))
  unfold Builtin.«itertools.combinations.__next__»
  wp_delta
  refine wpAny_bind (wpAny_of_eq (a := (Value.ref it, [])) rfl ?_)
  try dsimp only
  refine wpAny_bind (wpAny_field ho hd (x := .ref p) rfl ?_)
  refine wpAny_bind (num_from ho hd ?_)
  try dsimp only
  refine wpAny_bind (int_field ho hd ?_)
  try dsimp only
  refine wpAny_bind (pool_items hp ?_)
  try dsimp only
  split
  · rename_i next heq
    have h2 : cbTell items.size i j = some next := Eq.trans (by kernel_rfl) heq
    rw [cbTell_eq hij hjn, hnx] at h2
    cases h2
  · refine wpAny_bind (wpAny_setField ho hd (by simp) ?_)
    unfold Builtin.Itertools.itStop
    show wpAny _ _ (newExc (.type "StopIteration") [] >>= _) _ _ _
    refine wpAny_bind ?_
    simp only [newExc, newTuple]
    refine wpAny_bind (wpAny_newObj_type ?_ (by size_fits))
    refine wpAny_bind (m := firstArgMember _ _) (wpAny_of_eq (a := Value.none) (by first | rfl | (simp only [firstArgMember]; rfl)) ?_)
    refine wpAny_newObj_type ?_ (by size_fits)
    simp only [raiseNew]
    refine wpAny_bind (wpAny_handled ?_)
    first | rw [show A.in1.handled = none from hh] | rw [hh]
    refine wpAny_bind (wpAny_pure (wpAny_throw ?_))
    refine wpAny_bind (wpAny_isInstance (T := "StopIteration") (b := true) ⟨_, Heap.get?_push_size _ rfl, rfl⟩ isSubtype_stop ?_)
    refine wpAny_pure (hQ _ ?_)
    refine ((?_ : Heap.ExtBut it s.heap _).push _).push _
    exact fun b ob hb e => (Heap.get?_update_other _ _ (Ne.symm hb)).trans e
end
end CB

/-! D44: combinations of two, gathered. -/
namespace CB
open PySem PySem.Spec PyProof.Rows L2
theorem nolen_c : typeLookup (.type TC) "__len__" = pure none := by rw [typeLookup_type, builtinLookup_eq_fast]; kernel_rfl
theorem nohint_c : typeLookup (.type TC) "__length_hint__" = pure none := by rw [typeLookup_type, builtinLookup_eq_fast]; kernel_rfl
/-- what comes behind both places -/
inductive From (n : Nat) : Nat → Nat → List (Nat × Nat) → Prop
  | last {i j : Nat} : i < j → j < n → cbNext n i j = none → From n i j []
  | step {i j i' j' : Nat} {L : List (Nat × Nat)} : i < j → j < n → cbNext n i j = some [i', j'] → From n i' j' L → From n i j ((i', j') :: L)
/-- what was gathered so far -/
structure Got (h : Heap) (base : Nat) (items : Array Value) (Ts : List Addr) (D : List (Nat × Nat)) : Prop where
  len : Ts.length = D.length
  inc : Ts.Pairwise (· < ·)
  bd : ∀ T ∈ Ts, base ≤ T ∧ T < h.objs.size
  at_ : ∀ (k : Nat) (T : Addr) (p : Nat × Nat), Ts[k]? = some T → D[k]? = some p → ∃ x y, h.IsTuple T #[x, y] ∧ items[p.1]? = some x ∧ items[p.2]? = some y
theorem Got.nil (h : Heap) (base : Nat) (items : Array Value) : Got h base items [] [] := ⟨rfl, .nil, fun T hT => by simp at hT, fun k T p hk => by simp at hk⟩
theorem Got.snoc {h h' : Heap} {base : Nat} {items : Array Value} {Ts : List Addr} {D : List (Nat × Nat)} {T : Addr} {p : Nat × Nat} {x y : Value} (g : Got h base items Ts D) (hb : base ≤ h.objs.size) (hT : h.objs.size ≤ T) (hl : h'.IsTuple T #[x, y]) (hx : items[p.1]? = some x) (hy : items[p.2]? = some y)
    (k : ∀ b items, h.IsTuple b items → h'.IsTuple b items) : Got h' base items (Ts ++ [T]) (D ++ [p]) := by
  have hT' : T < h'.objs.size := by obtain ⟨o, ho, _⟩ := id hl; exact Heap.lt_size ho
  refine ⟨by rw [List.length_append, List.length_append, g.len]; rfl, ?_, fun U hU => ?_, fun i U q hi hq => ?_⟩
  · refine List.pairwise_append.mpr ⟨g.inc, List.pairwise_singleton _ _, fun a ha b hb => ?_⟩
    have e : b = T := by simpa using hb
    subst e
    exact Nat.lt_of_lt_of_le (g.bd a ha).2 hT
  · rcases List.mem_append.mp hU with hU | hU
    · exact ⟨(g.bd U hU).1, Nat.lt_of_lt_of_le (g.bd U hU).2 (Nat.le_of_lt (Nat.lt_of_le_of_lt hT hT'))⟩
    · have e : U = T := by simpa using hU
      subst e
      exact ⟨Nat.le_trans hb hT, hT'⟩
  · by_cases hk : i < Ts.length
    · rw [List.getElem?_append_left hk] at hi
      rw [List.getElem?_append_left (by rw [← g.len]; exact hk)] at hq
      obtain ⟨x, y, t, r⟩ := g.at_ i U q hi hq
      exact ⟨x, y, k _ _ t, r⟩
    · have e : i = Ts.length := by
        have := (List.getElem?_eq_some_iff.mp hi).1
        rw [List.length_append] at this
        simp at this
        omega
      subst e
      rw [List.getElem?_append_right (Nat.le_refl _)] at hi
      rw [g.len, List.getElem?_append_right (Nat.le_refl _)] at hq
      simp at hi hq
      subst hi hq
      exact ⟨x, y, hl, hx, hy⟩
section
variable {prog : Program} {w : World} {A : Around} {E : Value → Shared → Prop} {R : Result → Shared → Prop}
theorem IsTuple_other {h h' : Heap} {it S : Addr} {oi os : Obj} (hi : h.get? it = some oi) (hci : oi.cls = .type TC) (hs : h.get? S = some os) (hcs : os.cls = .type "list") (k : ∀ b o, b ≠ it → b ≠ S → h.get? b = some o → h'.get? b = some o) :
    ∀ b items, h.IsTuple b items → h'.IsTuple b items := fun b items ⟨o, ho, hc, r⟩ => by
  refine ⟨o, k b o (fun e => ?_) (fun e => ?_) ho, hc, r⟩
  · subst e
    have := ho.symm.trans hi
    cases this
    rw [hci] at hc
    exact absurd hc (by decide)
  · subst e
    have := ho.symm.trans hs
    cases this
    rw [hcs] at hc
    exact absurd hc (by decide)
theorem loop_from {S it p : Addr} {base : Nat} {items : Array Value} {res0 : Value} (hh : A.handled = none) (hSp : S ≠ p) (hSi : S ≠ it) : ∀ {i j : Nat} {L : List (Nat × Nat)}, From items.size i j L → ∀ (s : Shared) (Ts : List Addr) (D : List (Nat × Nat)) (c : Nat) (res : Value),
    IsCb s.heap it p 1 res i j → s.heap.IsTuple p items → s.heap.get? S = some { cls := .type "list", dict := none, data := .seq (Ts.map Value.ref).toArray c, slots := #[] } → Got s.heap base items Ts D → base ≤ s.heap.objs.size → Ts.length + L.length ≤ sizeLine →
    (∀ (h' : Heap) (tk : Nat) (Ts' : List Addr) (c' : Nat), (∀ b o, b ≠ it → b ≠ S → s.heap.get? b = some o → h'.get? b = some o) → h'.get? S = some { cls := .type "list", dict := none, data := .seq (Ts'.map Value.ref).toArray c', slots := #[] } → Got h' base items Ts' (D ++ L) → R (.ok (.ret res0)) { s with heap := h', toks := tk }) →
    codeAny (model prog w) A (.builtin "list.extend.loop" ⟨[.ref S, .ref it, res0], []⟩) R s := by
  intro i j L fr
  induction fr with
  | last hij hjn hn =>
    intro s Ts D c res hit hp hS g hb hl hR
    obtain ⟨oi, hoi, hci, _⟩ := id hit
    refine codeAny_builtin F.entry_extend_loop ?_
    rw [Around.under_plainId F.plain_extend_loop _]
    show wpAny _ A.in1 (pyNext (.ref it) >>= _) _ _ s
    refine wpAny_bind (next_end (A := A.in1) hh hit hp hij hjn hn fun h' he => ?_)
    have k : ∀ b o, b ≠ it → b ≠ S → s.heap.get? b = some o → h'.get? b = some o := fun b o hb _ e => he b o hb e
    refine wpAny_pure (hR h' s.toks Ts c k (he S _ hSi hS) ?_)
    rw [List.append_nil]
    refine ⟨g.len, g.inc, fun T hT => ?_, fun q T pp hq hpp => ?_⟩
    · have e1 := (g.bd T hT).1
      refine ⟨e1, ?_⟩
      obtain ⟨q, hq, e⟩ := List.mem_iff_getElem.mp hT
      obtain ⟨x, y, t, _⟩ := g.at_ q T (D[q]'(by rw [← g.len]; exact hq)) (by rw [List.getElem?_eq_getElem hq, e]) (by rw [List.getElem?_eq_getElem])
      obtain ⟨o, ho, _⟩ := IsTuple_other hoi hci hS rfl k T _ t
      exact Heap.lt_size ho
    · obtain ⟨x, y, t, r⟩ := g.at_ q T pp hq hpp
      exact ⟨x, y, IsTuple_other hoi hci hS rfl k T _ t, r⟩
  | @step i j i' j' L hij hjn hn fr ih =>
    intro s Ts D c res hit hp hS g hb hl hR
    obtain ⟨oi, hoi, hci, _⟩ := id hit
    have hij' : i' < j' ∧ j' < items.size := by cases fr <;> exact ⟨by assumption, by assumption⟩
    refine codeAny_builtin F.entry_extend_loop ?_
    rw [Around.under_plainId F.plain_extend_loop _]
    show wpAny _ A.in1 (pyNext (.ref it) >>= _) _ _ s
    have hx : items[i']? = some (items[i']'(by omega)) := Array.getElem?_eq_getElem (by omega)
    have hy : items[j']? = some (items[j']'(by omega)) := Array.getElem?_eq_getElem (by omega)
    refine wpAny_bind (next_step (A := A.in1) hit hp hij hjn hn hx hy fun h1 T hit1 hT tT k1 => ?_)
    have hS1 := k1 S _ hSi hS
    have k1' : ∀ b o, b ≠ it → b ≠ S → s.heap.get? b = some o → h1.get? b = some o := fun b o hb _ e => k1 b o hb e
    have g1 := g.snoc (p := (i', j')) hb hT tT hx hy (IsTuple_other hoi hci hS rfl k1')
    obtain ⟨oi1, hoi1, hci1, _⟩ := id hit1
    show wpAny _ A.in1 (updateSeq S (·.push (.ref T)) >>= _) _ _ _
    refine wpAny_bind ?_
    have sz : (Ts.map Value.ref).toArray.size = Ts.length := by simp
    rw [List.length_cons] at hl
    refine wpAny_updateSeq hS1 rfl (wpAny_pure ⟨plainId_quiet F.plain_extend_loop _, ?_⟩) (by rw [sz]; omega) (by show ((Ts.map Value.ref).toArray.push _).size ≤ _; rw [Array.size_push, sz]; omega)
    have k2 : ∀ b o, b ≠ S → h1.get? b = some o → (h1.update S (Obj.mapSeq (·.push (.ref T)))).get? b = some o := fun b o hb e => (Heap.get?_update_other _ _ (Ne.symm hb)).trans e
    have hS2 := Heap.get?_update_self (Obj.mapSeq (·.push (Value.ref T))) hS1 rfl
    have hp2 : (h1.update S (Obj.mapSeq (·.push (.ref T)))).IsTuple p items := by
      obtain ⟨op, hop, r⟩ := hp
      have ne := apart hit ⟨op, hop, r⟩
      exact ⟨op, k2 _ _ (Ne.symm hSp) (k1 _ _ ne hop), r⟩
    have eT : (Ts.map Value.ref).toArray.push (.ref T) = ((Ts ++ [T]).map Value.ref).toArray := by simp
    obtain ⟨c2, hc2⟩ : ∃ c2, Obj.mapSeq (·.push (Value.ref T)) { cls := .type "list", dict := none, data := .seq (Ts.map Value.ref).toArray c, slots := #[] } = { cls := .type "list", dict := none, data := .seq ((Ts.map Value.ref).toArray.push (.ref T)) c2, slots := #[] } := ⟨_, rfl⟩
    rw [hc2, eT] at hS2
    refine ih { s with heap := h1.update S (Obj.mapSeq (·.push (.ref T))), toks := s.toks } (Ts ++ [T]) (D ++ [(i', j')]) c2 (Value.ref T) (hit1.at fun o e => k2 _ _ (Ne.symm hSi) e) hp2 ?_ ?_ ?_ (by rw [List.length_append]; simp; omega) fun h' tk Ts' c' kk hS' g' => ?_
    · exact hS2
    · refine ⟨g1.len, g1.inc, fun U hU => by have := g1.bd U hU; show _ ∧ U < (h1.update S _).objs.size; rw [Heap.size_update]; exact this, fun q U pp hq hpp => ?_⟩
      obtain ⟨x, y, ⟨o, ho, hc, r⟩, r2⟩ := g1.at_ q U pp hq hpp
      refine ⟨x, y, ⟨o, k2 U o (fun e => ?_) ho, hc, r⟩, r2⟩
      subst e
      have := ho.symm.trans hS1
      cases this
      exact absurd (show (Value.type "list") = Value.type "tuple" from hc) (by decide)
    · show base ≤ (h1.update S _).objs.size
      rw [Heap.size_update]
      obtain ⟨o, ho, _⟩ := id tT
      exact Nat.le_trans hb (Nat.le_trans hT (Nat.le_of_lt (Heap.lt_size ho)))
    · have ea : D ++ [(i', j')] ++ L = D ++ (i', j') :: L := by simp
      rw [ea] at g'
      exact hR h' tk Ts' c' (fun b o hb hbS e => kk b o hb hbS (k2 b o hbS (k1 b o hb e))) hS' g'
/-- all pairs, one behind the other -/
inductive All2 (n : Nat) : List (Nat × Nat) → Prop
  | few : n < 2 → All2 n []
  | some {L : List (Nat × Nat)} : 2 ≤ n → From n 0 1 L → All2 n ((0, 1) :: L)
theorem next_over {s : Shared} {it p : Addr} {res : Value} {i j : Nat} {Q : Option Value → Shared → Prop} (hh : A.handled = none) (hit : IsCb s.heap it p 2 res i j)
    (hQ : ∀ h', Heap.ExtBut it s.heap h' → Q none { s with heap := h' }) : wpAny (model prog w) A (pyNext (.ref it)) Q E s := by
  obtain ⟨o, ho, hc, hd⟩ := id hit
  unfold pyNext
  refine wpAny_bind (wpAny_attempt (wpAny_callSpecial?_slot (name := Str.ofString "__next__") hit.typeIs slot_next
    (wpAny_call_entry slot_next hit.typeIs entry_next ?_ (args_next _))))
  unfold Builtin.«itertools.combinations.__next__»
  wp_delta
  refine wpAny_bind (wpAny_of_eq (a := (Value.ref it, [])) rfl ?_)
  try dsimp only
  refine wpAny_bind (wpAny_field ho hd (x := .ref p) rfl ?_)
  refine wpAny_bind (num_from ho hd ?_)
  try dsimp only
  refine wpAny_bind (int_field ho hd ?_)
  try dsimp only
  refine wpAny_bind (wpAny_rule ?_)
  unfold Builtin.Itertools.itStop
  show wpAny _ _ (newExc (.type "StopIteration") [] >>= _) _ _ _
  refine wpAny_bind ?_
  simp only [newExc, newTuple]
  refine wpAny_bind (wpAny_newObj_type ?_ (by size_fits))
  refine wpAny_bind (m := firstArgMember _ _) (wpAny_of_eq (a := Value.none) (by first | rfl | (simp only [firstArgMember]; rfl)) ?_)
  refine wpAny_newObj_type ?_ (by size_fits)
  simp only [raiseNew]
  refine wpAny_bind (wpAny_handled ?_)
  first | rw [show A.in1.handled = none from hh] | rw [hh]
  refine wpAny_bind (wpAny_pure (wpAny_throw ?_))
  refine wpAny_bind (wpAny_isInstance (T := "StopIteration") (b := true) ⟨_, Heap.get?_push_size _ rfl, rfl⟩ isSubtype_stop ?_)
  exact wpAny_pure (hQ _ (((Heap.ExtBut.refl _ _).push _).push _))
theorem loop_all {S it p : Addr} {base : Nat} {items : Array Value} {res0 : Value} {L : List (Nat × Nat)} {s : Shared} {c : Nat} (hh : A.handled = none) (hSp : S ≠ p) (hSi : S ≠ it) (all : All2 items.size L) (hit : IsCb s.heap it p (if 2 > items.size then 2 else 0) .none 0 1) (hp : s.heap.IsTuple p items)
    (hS : s.heap.get? S = some { cls := .type "list", dict := none, data := .seq #[] c, slots := #[] }) (hb : base ≤ s.heap.objs.size) (hl : L.length ≤ sizeLine)
    (hR : ∀ (h' : Heap) (tk : Nat) (Ts' : List Addr) (c' : Nat), (∀ b o, b ≠ it → b ≠ S → s.heap.get? b = some o → h'.get? b = some o) → h'.get? S = some { cls := .type "list", dict := none, data := .seq (Ts'.map Value.ref).toArray c', slots := #[] } → Got h' base items Ts' L → R (.ok (.ret res0)) { s with heap := h', toks := tk }) :
    codeAny (model prog w) A (.builtin "list.extend.loop" ⟨[.ref S, .ref it, res0], []⟩) R s := by
  obtain ⟨oi, hoi, hci, _⟩ := id hit
  cases all with
  | few h2 =>
    rw [if_pos h2] at hit
    refine codeAny_builtin F.entry_extend_loop ?_
    rw [Around.under_plainId F.plain_extend_loop _]
    show wpAny _ A.in1 (pyNext (.ref it) >>= _) _ _ s
    refine wpAny_bind (next_over (A := A.in1) hh hit fun h' he => ?_)
    exact wpAny_pure (hR h' s.toks [] c (fun b o hb _ e => he b o hb e) (he S _ hSi hS) (Got.nil _ _ _))
  | @some L h2 fr =>
    rw [if_neg (by omega)] at hit
    refine codeAny_builtin F.entry_extend_loop ?_
    rw [Around.under_plainId F.plain_extend_loop _]
    show wpAny _ A.in1 (pyNext (.ref it) >>= _) _ _ s
    have hx : items[0]? = Option.some (items[0]'(by omega)) := Array.getElem?_eq_getElem (by omega)
    have hy : items[1]? = Option.some (items[1]'(by omega)) := Array.getElem?_eq_getElem (by omega)
    refine wpAny_bind (next_first (A := A.in1) hit hp hx hy fun h1 T hit1 hT tT k1 => ?_)
    have hS1 := k1 S _ hSi hS
    have k1' : ∀ b o, b ≠ it → b ≠ S → s.heap.get? b = Option.some o → h1.get? b = Option.some o := fun b o hb _ e => k1 b o hb e
    have g1 := (Got.nil s.heap base items).snoc (p := (0, 1)) hb hT tT hx hy (IsTuple_other hoi hci hS rfl k1')
    show wpAny _ A.in1 (updateSeq S (·.push (.ref T)) >>= _) _ _ _
    refine wpAny_bind ?_
    rw [List.length_cons] at hl
    refine wpAny_updateSeq hS1 rfl (wpAny_pure ⟨plainId_quiet F.plain_extend_loop _, ?_⟩) (by show (0 : Nat) ≤ _; omega) (by show (1 : Nat) ≤ _; rw [sizeLine_eq]; decide)
    have k2 : ∀ b o, b ≠ S → h1.get? b = Option.some o → (h1.update S (Obj.mapSeq (·.push (.ref T)))).get? b = Option.some o := fun b o hb e => (Heap.get?_update_other _ _ (Ne.symm hb)).trans e
    have hS2 := Heap.get?_update_self (Obj.mapSeq (·.push (Value.ref T))) hS1 rfl
    obtain ⟨c2, hc2⟩ : ∃ c2, Obj.mapSeq (·.push (Value.ref T)) { cls := .type "list", dict := none, data := .seq #[] c, slots := #[] } = { cls := .type "list", dict := none, data := .seq (([T] : List Addr).map Value.ref).toArray c2, slots := #[] } := ⟨_, rfl⟩
    rw [hc2] at hS2
    have hp2 : (h1.update S (Obj.mapSeq (·.push (.ref T)))).IsTuple p items := by
      obtain ⟨op, hop, r⟩ := hp
      have ne := apart hit ⟨op, hop, r⟩
      exact ⟨op, k2 _ _ (Ne.symm hSp) (k1 _ _ ne hop), r⟩
    refine loop_from (base := base) hh hSp hSi fr { s with heap := h1.update S (Obj.mapSeq (·.push (.ref T))), toks := s.toks } [T] [(0, 1)] c2 (.ref T) (hit1.at fun o e => k2 _ _ (Ne.symm hSi) e) hp2 hS2 ?_ ?_ (by simp; omega) fun h' tk Ts' c' kk hS' g' => ?_
    · refine ⟨g1.len, g1.inc, fun U hU => by have := g1.bd U hU; show _ ∧ U < (h1.update S _).objs.size; rw [Heap.size_update]; exact this, fun q U pp hq hpp => ?_⟩
      obtain ⟨x, y, ⟨o, ho, hc, r⟩, r2⟩ := g1.at_ q U pp hq hpp
      refine ⟨x, y, ⟨o, k2 U o (fun e => ?_) ho, hc, r⟩, r2⟩
      subst e
      have := ho.symm.trans hS1
      cases this
      exact absurd (show (Value.type "list") = Value.type "tuple" from hc) (by decide)
    · show base ≤ (h1.update S _).objs.size
      rw [Heap.size_update]
      obtain ⟨o, ho, _⟩ := id tT
      exact Nat.le_trans hb (Nat.le_trans hT (Nat.le_of_lt (Heap.lt_size ho)))
    · exact hR h' tk Ts' c' (fun b o hb hbS e => kk b o hb hbS (k2 b o hbS (k1 b o hb e))) hS' g'
theorem collect_comb {s : Shared} {it p : Addr} {items : Array Value} {L : List (Nat × Nat)} {Q : List Value → Shared → Prop} (hh : A.handled = none) (hit : IsCb s.heap it p (if 2 > items.size then 2 else 0) .none 0 1) (hp : s.heap.IsTuple p items) (all : All2 items.size L) (hl : L.length ≤ sizeLine)
    (hQ : ∀ (h' : Heap) (tk : Nat) (Ts : List Addr), (∀ b o, b ≠ it → s.heap.get? b = some o → h'.get? b = some o) → Got h' s.heap.objs.size items Ts L → Q (Ts.map Value.ref) { s with heap := h', toks := tk }) :
    wpAny (model prog w) A (collect (.ref it)) Q E s := by
  obtain ⟨oi, hoi, hci, _⟩ := id hit
  have hSi : s.heap.objs.size ≠ it := Nat.ne_of_gt (Heap.lt_size hoi)
  have hSp : s.heap.objs.size ≠ p := by obtain ⟨op, hop, _⟩ := id hp; exact Nat.ne_of_gt (Heap.lt_size hop)
  unfold collect
  refine wpAny_bind (wpAny_runValue (codeAny_builtin F.entry_proto_collect ?_))
  rw [Around.under_plainId F.plain_proto_collect _]
  show wpAny _ A.in1 (newList [] >>= fun l' => again (.builtin "list.__iadd__" ⟨[l', .ref it], []⟩)) _ _ s
  refine wpAny_bind (wpAny_newObj_type ?_)
  refine wpAny_pure ⟨plainId_quiet F.plain_list_iadd _, codeAny_builtin F.entry_list_iadd ?_⟩
  rw [Around.under_plainId F.plain_list_iadd _]
  have hit1 : IsCb (s.heap.push { cls := .type "list", data := .seq ([] : List Value).toArray }) it p (if 2 > items.size then 2 else 0) .none 0 1 := hit.at fun o e => Heap.get?_push_of_some _ e
  have hp1 : (s.heap.push { cls := .type "list", data := .seq ([] : List Value).toArray }).IsTuple p items := by
    obtain ⟨op, hop, r⟩ := hp
    exact ⟨op, Heap.get?_push_of_some _ hop, r⟩
  have hT : ({ s with heap := s.heap.push { cls := .type "list", data := .seq ([] : List Value).toArray } } : Shared).TypeIs (.ref it) TC := IsCb.typeIs (s := { s with heap := s.heap.push { cls := .type "list", data := .seq ([] : List Value).toArray } }) hit1
  show wpAny _ A.in1 (Builtin.List.listExtendWith (.ref s.heap.objs.size) (.ref it) (.ref s.heap.objs.size)) _ _ _
  unfold Builtin.List.listExtendWith
  refine wpAny_bind (wpAny_typeOf hT ?_)
  have h1 : Builtin.List.listSameRef (.ref s.heap.objs.size) (.ref it) = false := by simp [Builtin.List.listSameRef, hSi]
  have h2 : (Value.type TC == Value.type "list") = false := by decide
  have h3 : (Value.type TC == Value.type "tuple") = false := by decide
  simp only [h1, h2, h3, Bool.or_false, Bool.false_eq_true, if_false]
  refine wpAny_bind (iter_cb (s := { s with heap := s.heap.push { cls := .type "list", data := .seq ([] : List Value).toArray } }) hit1 ?_)
  refine wpAny_bind (wpAny_holding ?_)
  unfold Builtin.List.listLengthHint
  refine wpAny_bind (wpAny_specialOf hT nolen_c ?_)
  show wpAny _ A.in1 (specialOf (Value.ref it) (Str.ofString "__length_hint__") >>= _) _ _ _
  refine wpAny_bind (wpAny_specialOf hT nohint_c ?_)
  refine wpAny_pure ?_
  show wpAny _ A.in1 (rule "list.extend.makes-room" >>= fun _ => Builtin.List.listTouch (.ref s.heap.objs.size) >>= fun _ =>
    again (.builtin "list.extend.loop" ⟨[.ref s.heap.objs.size, .ref it, .ref s.heap.objs.size], []⟩)) _ _ _
  refine wpAny_bind (wpAny_rule ?_)
  have hS₁ : (s.heap.push { cls := .type "list", data := .seq ([] : List Value).toArray }).get? s.heap.objs.size = Option.some { cls := .type "list", data := .seq ([] : List Value).toArray } := Heap.get?_push_size _ rfl
  refine wpAny_bind ?_
  show wpAny _ A.in1 (updateSeq s.heap.objs.size (·.push .none) >>= fun _ => updateSeq s.heap.objs.size (·.pop)) _ _ _
  refine wpAny_bind (wpAny_updateSeq hS₁ rfl ?_)
  have hS₂ := Heap.get?_update_self (Obj.mapSeq (·.push Value.none)) hS₁ rfl
  refine wpAny_updateSeq hS₂ rfl ?_
  have hS₃ := Heap.get?_update_self (Obj.mapSeq (·.pop)) hS₂ rfl
  have oth : ∀ b o, b ≠ s.heap.objs.size → (s.heap.push { cls := .type "list", data := .seq ([] : List Value).toArray }).get? b = Option.some o →
      (((s.heap.push { cls := .type "list", data := .seq ([] : List Value).toArray }).update s.heap.objs.size (Obj.mapSeq (·.push Value.none))).update s.heap.objs.size (Obj.mapSeq (·.pop))).get? b = Option.some o :=
    fun b o hb e => (Heap.get?_update_other _ _ (Ne.symm hb)).trans ((Heap.get?_update_other _ _ (Ne.symm hb)).trans e)
  obtain ⟨c2, hc2⟩ : ∃ c2, Obj.mapSeq (·.pop) (Obj.mapSeq (·.push Value.none) { cls := .type "list", data := .seq ([] : List Value).toArray }) = { cls := .type "list", dict := none, data := .seq #[] c2, slots := #[] } := ⟨_, rfl⟩
  rw [hc2] at hS₃
  refine wpAny_pure ⟨plainId_quiet F.plain_extend_loop _, loop_all (base := s.heap.objs.size) hh hSp hSi all (hit1.at fun o e => oth _ _ (Ne.symm hSi) e) ?_ hS₃ ?_ hl fun h' tk Ts' c' kk hS' g' => ?_⟩
  · obtain ⟨op, hop, r⟩ := hp1
    exact ⟨op, oth _ _ (Ne.symm hSp) hop, r⟩
  · exact Nat.le_of_lt (Heap.lt_size hS₃)
  · show wpAny _ A (load s.heap.objs.size >>= _) _ _ _
    refine wpAny_bind (wpAny_load hS' ?_)
    refine wpAny_pure ?_
    have e : (Ts'.map Value.ref).toArray.toList = Ts'.map Value.ref := by simp
    show Q (Ts'.map Value.ref).toArray.toList _
    rw [e]
    exact hQ h' tk Ts' (fun b o hb e => kk b o hb (Nat.ne_of_lt (Heap.lt_size e)) (oth b o (Nat.ne_of_lt (Heap.lt_size e)) (Heap.get?_push_of_some _ e))) g'
theorem code_tuple_comb {s : Shared} {it p : Addr} {items : Array Value} {L : List (Nat × Nat)} {Q₁ : Value → Shared → Prop} (hh : A.handled = none) (hit : IsCb s.heap it p (if 2 > items.size then 2 else 0) .none 0 1) (hp : s.heap.IsTuple p items) (all : All2 items.size L) (hl : L.length ≤ sizeLine)
    (h : ∀ (h' : Heap) (tk : Nat) (Ts : List Addr), (∀ b o, b ≠ it → s.heap.get? b = Option.some o → h'.get? b = Option.some o) → Got h' s.heap.objs.size items Ts L →
      Q₁ (.ref h'.objs.size) { s with heap := h'.push { cls := .type "tuple", data := .seq (Ts.map Value.ref).toArray }, toks := tk }) :
    codeAny (model prog w) A (.call (.builtin "tuple.__new__") ⟨[.type "tuple", .ref it], []⟩) (wants Q₁ E) s := by
  refine codeAny_of_tree ?_
  show wpAny _ A.in1 (do checkBuiltinCall "tuple.__new__" ⟨[.type "tuple", .ref it], []⟩; again (.builtin "tuple.__new__" ⟨[.type "tuple", .ref it], []⟩)) _ _ s
  refine wpAny_bind (wpAny_of_eq (F.newCall_tuple_1 _) (wpAny_pure ⟨plainId_quiet F.plain_tuple_new _, codeAny_builtin F.entry_tuple_new ?_⟩))
  rw [Around.under_plainId F.plain_tuple_new _]
  have hsub := sub_tuple_self
  have hinit := init_tuple_lookup
  have hmh := madeHere_tuple
  have hTI : s.TypeIs (.ref it) TC := hit.typeIs
  have hh1 : A.in1.handled = none := hh
  wp_walk using wpAny_typeOf hTI, collect_comb (A := A.in1) hh1 hit hp all hl
  intro h' tk Ts hk g
  show wpAny _ _ (Builtin.Tuple.tupleExact (Ts.map Value.ref).toArray >>= fun v => ret v) _ _ _
  unfold Builtin.Tuple.tupleExact
  refine wpAny_bind (wpAny_newObj_type ?_ (by show (Ts.map Value.ref).toArray.size ≤ sizeLine; rw [List.size_toArray, List.length_map, g.len]; exact hl))
  refine wpAny_pure ?_
  exact h h' tk Ts hk g
theorem call_tuple_comb {s : Shared} {it p : Addr} {items : Array Value} {L : List (Nat × Nat)} {Q : Value → Shared → Prop} (hh : A.handled = none) (hit : IsCb s.heap it p (if 2 > items.size then 2 else 0) .none 0 1) (hp : s.heap.IsTuple p items) (all : All2 items.size L) (hl : L.length ≤ sizeLine)
    (hQ : ∀ (h' : Heap) (tk : Nat) (Ts : List Addr), (∀ b o, b ≠ it → s.heap.get? b = Option.some o → h'.get? b = Option.some o) → Got h' s.heap.objs.size items Ts L →
      Q (.ref h'.objs.size) { s with heap := h'.push { cls := .type "tuple", data := .seq (Ts.map Value.ref).toArray }, toks := tk }) :
    wpAny (model prog w) A (call (.type "tuple") [.ref it]) Q E s := by
  refine callType_codes (Q₁ := fun obj s₁ => s₁.TypeIs obj "tuple" ∧ Q obj s₁) F.called_tuple (F.typeCall_tuple_1 _) F.entry_object_init
    (code_tuple_comb (A := A.in1) hh hit hp all hl fun h' tk Ts hk g => ⟨⟨_, Heap.get?_push_size _ rfl, rfl⟩, hQ h' tk Ts hk g⟩) fun obj s₁ h₁ => ?_
  exact ⟨h₁.1, F.args_object_init_2 obj _, object_init_meets F.called_tuple.init.lookup F.called_tuple.made (by decide) prog w A.in1 _ s₁ ⟨h₁.1, rfl, h₁.2⟩⟩
end
end CB

/-! D45: tuple(combinations(range(n), 2)) as a rule. -/
namespace CB
open PySem PySem.Spec PyProof.Rows L2
def layT : Hp → List Addr → List (Nat × Nat) → Hp
  | H, T :: Ts, p :: L => layT (upd H T (.tup [.int p.1, .int p.2])) Ts L
  | H, _, _ => H
section
variable {X : Cx} {te : TE} {e : Expr}
theorem IsTup_of {h : Heap} {a : Addr} {items : Array Value} (t : h.IsTuple a items) : IsTup h a items := t
theorem take_all {pins : List (Addr × Obj)} {σ : L2.St} {s : Shared} {items : Array Value} {n : Nat} (hi : ItemsOf (fun i v => ∃ t, v = .int (0 + i * 1) t) items n) :
    ∀ (Ts : List Addr) (L : List (Nat × Nat)) (H : Hp), Inv X pins σ H s → Ts.length = L.length → Ts.Pairwise (· < ·) → (∀ T ∈ Ts, H T = none ∧ ∀ H', H' T = none → FpOk X pins H' T) →
      (∀ (k : Nat) (T : Addr) (p : Nat × Nat), Ts[k]? = some T → L[k]? = some p → ∃ x y, s.heap.IsTuple T #[x, y] ∧ items[p.1]? = some x ∧ items[p.2]? = some y) → Inv X pins σ (layT H Ts L) s := by
  intro Ts
  induction Ts with
  | nil => intro L H I _ _ _ _; cases L <;> exact I
  | cons T r ih =>
    intro L H I hl inc fr at_
    match L, hl with
    | p :: L, hl =>
      obtain ⟨x, y, tT, hx, hy⟩ := at_ 0 T p rfl rfl
      obtain ⟨t1, rfl⟩ := hi.2 _ _ hx
      obtain ⟨t2, rfl⟩ := hi.2 _ _ hy
      have fT := fr T List.mem_cons_self
      have e1 : (0 + (p.1 : Int) * 1) = (p.1 : Int) := by omega
      have e2 : (0 + (p.2 : Int) * 1) = (p.2 : Int) := by omega
      rw [e1, e2] at tT
      have I2 : Inv X pins σ (upd H T (.tup [.int p.1, .int p.2])) s := I.take (t' := s.toks) (fun b ob _ q => q) (fT.2 H fT.1) (show ObjOk X.prog X.w _ _ _ (.tup [V.int p.1, V.int p.2]) from ⟨by rw [sizeLine_eq]; simp, [.int p.1 t1, .int p.2 t2], .cons ⟨_, rfl⟩ (.cons ⟨_, rfl⟩ .nil), IsTup_of tT⟩)
      refine ih L _ I2 (by simpa using hl) (List.pairwise_cons.mp inc).2 (fun U hU => ⟨?_, (fr U (List.mem_cons_of_mem _ hU)).2⟩) fun k U q hk hq => at_ (k + 1) U q hk hq
      have : T < U := (List.pairwise_cons.mp inc).1 U hU
      rw [upd_ne (Nat.ne_of_gt this)]
      exact (fr U (List.mem_cons_of_mem _ hU)).1
theorem layT_other : ∀ (Ts : List Addr) (L : List (Nat × Nat)) (H : Hp) (a : Addr), a ∉ Ts → layT H Ts L a = H a
  | [], _, _, _, _ => by cases ‹List (Nat × Nat)› <;> rfl
  | T :: r, [], _, _, _ => rfl
  | T :: r, p :: L, H, a, h => by
    rw [layT, layT_other r L _ a fun z => h (List.mem_cons_of_mem _ z), upd_ne fun z => h (by rw [z]; exact List.mem_cons_self)]
def tTupComb (te : L2.St → Hp → (Int → Int → Hp → Prop) → Prop) : TE := fun σ H Q => te σ H fun a n H1 => a = 0 ∧ ∃ L : List (Nat × Nat), 0 ≤ n ∧ n ≤ 1000 ∧ All2 n.toNat L ∧ L.length ≤ 100000 ∧
  ∀ (Ts : List Addr) (q : Addr), Ts.length = L.length → Ts.Pairwise (· < ·) → (∀ T ∈ Ts, H1 T = none) → q ∉ Ts → H1 q = none → Q (.ref q) (upd (layT H1 Ts L) q (.tup (Ts.map .ref)))
theorem vals_refs : ∀ Ts : List Addr, Vals (Ts.map V.ref) (Ts.map Value.ref)
  | [] => .nil
  | _ :: r => .cons rfl (vals_refs r)
theorem pe_tupComb {te : L2.St → Hp → (Int → Int → Hp → Prop) → Prop} {p p2 p4 pos pos2 : Pos} {jj} {x2 : Str} (hc : X.calm = true) (hg : Gl X "tuple") (hm : X.mg "tuple" = none) (hg2 : Gl X x2) (hm2 : X.mg x2 = some (.type TC)) (hd2 : (x2 == ("__debug__" : Str)) = false) (he : PRg X e te)
    (nb : starEach [e, .Constant (.int 2) jj p4] X.env = (false, eval e X.env) :: starEach [.Constant (.int 2) jj p4] X.env := by rfl)
    (nc : starEach [(.Constant (.int 2) jj p4 : Expr)] X.env = (false, eval (.Constant (.int 2) jj p4) X.env) :: starEach [] X.env := by rfl)
    (nd : (backTo pos2 (starEach [(.Constant (.int 2) jj p4 : Expr)] X.env)).any (·.1) = false := by rfl)
    (ne : starEach [(.Call (.Name x2 p2) [e, .Constant (.int 2) jj p4] [] pos2 : Expr)] X.env = (false, eval (.Call (.Name x2 p2) [e, .Constant (.int 2) jj p4] [] pos2) X.env) :: starEach [] X.env := by rfl) :
    PE X (.Call (.Name "tuple" p) [.Call (.Name x2 p2) [e, .Constant (.int 2) jj p4] [] pos2] [] pos) (tTupComb te) := by
  refine ⟨fun pins s σ H Q I h => ?_⟩
  refine Call_ (ld_blt I hg hm boot_tuple (PyProof.Rows.callWith_type1 (args_cons (Call_ (ld_glob I hg2 hm2 (PyProof.Rows.callWith_type1 (args_cons (thn (he pins s σ H _ I h) fun x s1 ⟨r, a, b, t, u, v, H1, ex, hr, I1, q0⟩ => args_cons (wpAny_Constant_int (args_nil ?_)) nc) nb) nb nd) hd2)) ne) ne))
  subst ex
  obtain ⟨rfl, L, h0, h1, all, hL, q⟩ := q0
  have hh : X.A.handled = none := I1.ok.hd hc
  have sm : Builtin.Range.small 0 b 1 = true := small_one (by omega) (by omega) (by omega) (by omega)
  have rs : Builtin.Range.rangeSize 0 b 1 = b.toNat := by have := rangeSize_nat 0 b; rw [Int.sub_zero] at this; exact this
  refine call_comb (n := b.toNat) hh hr (by omega) sm rs fun h' tk acc hk hi => ?_
  refine args_nil ?_
  have sz : acc.size = b.toNat := hi.1
  generalize hs2 : (h'.push { cls := .type "tuple", data := .seq acc }).push { cls := .type TC, data := .fields #[.ref h'.objs.size, rawInt (if 2 > b.toNat then 2 else 0), .none, rawInt 0, rawInt 1] } = h2
  generalize hit0 : (h'.push { cls := .type "tuple", data := .seq acc }).objs.size = it
  have hit : IsCb h2 it h'.objs.size (if 2 > acc.size then 2 else 0) .none 0 1 := by
    rw [sz, ← hs2, ← hit0]
    exact ⟨_, Heap.get?_push_size _ rfl, rfl, rfl⟩
  have hp : h2.IsTuple h'.objs.size acc := by
    rw [← hs2]
    exact ⟨_, Heap.get?_push_of_some _ (Heap.get?_push_size _ rfl), rfl, _, rfl⟩
  have k02 : ∀ b o, s1.heap.get? b = some o → h2.get? b = some o := fun b o e => by
    rw [← hs2]
    exact Heap.get?_push_of_some _ (Heap.get?_push_of_some _ (hk b o e))
  have nit : ∀ b o, s1.heap.get? b = some o → b ≠ it := fun b o e => by
    rw [← hit0]
    exact Nat.ne_of_lt (Heap.lt_size (Heap.get?_push_of_some _ (hk b o e)))
  refine call_tuple_comb (L := L) hh hit hp (by rw [sz]; exact all) (by rw [sizeLine_eq]; omega) fun h3 tk2 Ts k2 g => ?_
  have I2 : L2.Inv X pins σ H1 { s1 with heap := h2, toks := tk } := I1.kept k02
  have I3 : L2.Inv X pins σ H1 { s1 with heap := h3, toks := tk2 } := I1.kept fun b o e => k2 b o (nit b o e) (k02 b o e)
  have I4 := take_all hi Ts L H1 I3 g.len g.inc (fun T hT => ⟨I2.hok.fresh (g.bd T hT).1, fun H' hn => I2.fpOk (g.bd T hT).1 hn⟩) g.at_
  have nq : h3.objs.size ∉ Ts := fun z => Nat.lt_irrefl _ (g.bd _ z).2
  have hq : H1 h3.objs.size = none := I3.hok.fresh (Nat.le_refl _)
  have I5 : L2.Inv X pins σ (upd (layT H1 Ts L) h3.objs.size (.tup (Ts.map .ref))) { s1 with heap := h3.push { cls := .type "tuple", data := .seq (Ts.map Value.ref).toArray }, toks := tk2 } :=
    I4.laid (t' := tk2) (fun c o e => Heap.get?_push_of_some _ e) (Nat.le_refl _) (show ObjOk X.prog X.w _ _ _ (.tup (Ts.map V.ref)) from ⟨by rw [List.length_map, g.len, sizeLine_eq]; omega, Ts.map Value.ref, vals_refs Ts, IsTup.new _ _⟩)
  exact ⟨.ref h3.objs.size, _, I5, rfl, q Ts h3.objs.size g.len g.inc (fun T hT => I2.hok.fresh (g.bd T hT).1) nq hq⟩
end
end CB

/-! D46: tuple(combinations(range(n), 2)) for the data layer. -/
namespace DL
open PySem PySem.Spec PyProof.Rows L2
section
variable {X : Cx} {J : JX} {e a b c o i : Expr} {es : List Expr} {ρ : Env'} {μ : Mu} {σ : L2.St} {H : Hp} {pos p2 : Pos}
def c2D (p : Nat × Nat) : Dt := .tup [.int p.1, .int p.2]
theorem lay_all {K : PySem.W.Frag} {as : List Addr} : ∀ (Ts : List Addr) (L : List (Nat × Nat)) (G H : Hp), Mem K as G H μ → Ts.length = L.length → Ts.Pairwise (· < ·) → (∀ T ∈ Ts, H T = none) →
    Mem K as (CB.layT G Ts L) (CB.layT H Ts L) μ ∧ Step as G H as (CB.layT G Ts L) (CB.layT H Ts L) ∧ Ats K as (CB.layT G Ts L) (Ts.map V.ref) (L.map c2D) := by
  intro Ts
  induction Ts with
  | nil =>
    intro L G H m hl _ _
    match L, hl with
    | [], _ => exact ⟨m, .refl _ _ _, .nil⟩
  | cons T r ih =>
    intro L G H m hl inc fr
    match L, hl with
    | p :: L, hl =>
      have hT := fr T List.mem_cons_self
      have m1 := m.lay (o := .tup [.int p.1, .int p.2]) hT
      have t1 := Step.lay (o := .tup [.int p.1, .int p.2]) m hT
      obtain ⟨m2, t2, a2⟩ := ih L _ _ m1 (by simpa using hl) (List.pairwise_cons.mp inc).2 fun U hU => by
        have : T < U := (List.pairwise_cons.mp inc).1 U hU
        rw [upd_ne (Nat.ne_of_gt this)]
        exact fr U (List.mem_cons_of_mem _ hU)
      refine ⟨m2, t1.trans t2, .cons ?_ a2⟩
      have nT : T ∉ r := fun z => Nat.lt_irrefl _ ((List.pairwise_cons.mp inc).1 T z)
      exact .tup (.of (by show CB.layT _ r L T = _; rw [CB.layT_other r L _ T nT, upd_same])) (.cons (.int _) (.cons (.int _) .nil))
theorem dE_tupComb {x2 : Str} {p p0 p3 p4 pos2 pos3 : Pos} {jj} {Q : Dt → Mu → Prop} (hc : X.calm = true) (hm : X.mg "tuple" = none) (hm2 : X.mg x2 = some (.type CB.TC)) (hm3 : X.mg "range" = none)
    (h : dE X J a ρ μ fun d μ1 => ∃ (n : Int) (L : List (Nat × Nat)), d = .int n ∧ 0 ≤ n ∧ n ≤ 1000 ∧ CB.All2 n.toNat L ∧ L.length ≤ 100000 ∧ Q (.tup (L.map c2D)) μ1)
    (hg : Gl X "tuple" := by rfl) (hg2 : Gl X x2 := by rfl) (hg3 : Gl X "range" := by rfl) (hd2 : (x2 == ("__debug__" : Str)) = false := by decide)
    (na : starEach [a] X.env = (false, eval a X.env) :: starEach [] X.env := by rfl)
    (nb : starEach [(.Call (.Name "range" p3) [a] [] pos3 : Expr), .Constant (.int 2) jj p4] X.env = (false, eval (.Call (.Name "range" p3) [a] [] pos3) X.env) :: starEach [.Constant (.int 2) jj p4] X.env := by rfl)
    (nc : starEach [(.Constant (.int 2) jj p4 : Expr)] X.env = (false, eval (.Constant (.int 2) jj p4) X.env) :: starEach [] X.env := by rfl)
    (nd : (backTo pos2 (starEach [(.Constant (.int 2) jj p4 : Expr)] X.env)).any (·.1) = false := by rfl)
    (ne : starEach [(.Call (.Name x2 p0) [.Call (.Name "range" p3) [a] [] pos3, .Constant (.int 2) jj p4] [] pos2 : Expr)] X.env = (false, eval (.Call (.Name x2 p0) [.Call (.Name "range" p3) [a] [] pos3, .Constant (.int 2) jj p4] [] pos2) X.env) :: starEach [] X.env := by rfl) :
    dE X J (.Call (.Name "tuple" p) [.Call (.Name x2 p0) [.Call (.Name "range" p3) [a] [] pos3, .Constant (.int 2) jj p4] [] pos2] [] pos) ρ μ Q := .mk fun as G H σ S => by
  refine (CB.pe_tupComb hc hg hm hg2 hm2 hd2 (prg_1 hg3 hm3 peW na) nb nc nd ne).w ?_
  refine wE_mono (h as G H σ S) fun v H1 ⟨d, μ1, as1, G1, t1, m1, a1, n, L, e1, h0, h1, all, hL, q⟩ => ?_
  subst e1
  cases a1
  refine ⟨n, rfl, rfl, L, h0, h1, all, hL, fun Ts u hl inc fr nq hu => ?_⟩
  obtain ⟨m2, t2, a2⟩ := lay_all Ts L G1 H1 m1 hl inc fr
  have hu2 : CB.layT H1 Ts L u = none := by rw [CB.layT_other Ts L H1 u nq]; exact hu
  exact ((AfE.lay m2 hu2 (.tup (.of upd_same) (a2.mono (same_upd_none (m2.same.free hu2)) fun _ _ h => h)) q).back (t1.trans t2))
end
end DL

/-! D47: sorted of a list of tuples of ints, of any length; sorted of a tuple of ints; the least of a list. -/
namespace DL
open PySem PySem.Spec PyProof.Rows L2
/-! ### orders of lots -/
theorem lexL_anti : ∀ {xs ys : List Int}, HT.lexLt xs ys = false → HT.lexLt ys xs = false → xs = ys
  | [], [], _, _ => rfl
  | [], _ :: _, h, _ => by cases h
  | _ :: _, [], _, h => by cases h
  | x :: xs, y :: ys, h1, h2 => by
    rw [HT.lexLt_cons] at h1 h2
    by_cases e : x = y
    · rw [if_pos e] at h1
      rw [if_pos e.symm] at h2
      rw [e, lexL_anti h1 h2]
    · rw [if_neg e] at h1
      rw [if_neg (Ne.symm e)] at h2
      have := of_decide_eq_false h1
      have := of_decide_eq_false h2
      omega
def leL (p q : List Int) : Bool := !HT.lexLt q p
def srtL (l : List (List Int)) : List (List Int) := srtBy leL l
theorem ordL : Ord' leL where
  tot x y h := by
    unfold leL at *
    cases e : HT.lexLt y x with
    | false => rw [e] at h; exact absurd rfl h
    | true => rw [NtL.lex_asym _ _ e]; rfl
  tr x y z h1 h2 := by
    unfold leL at *
    rw [Bool.not_eq_true'] at h1 h2 ⊢
    exact NtL.lex_tr _ _ _ h1 h2
  anti x y h1 h2 := by
    unfold leL at *
    rw [Bool.not_eq_true'] at h1 h2
    exact lexL_anti h2 h1
def ltD (l : List Int) : Dt := .tup (l.map .int)
/-! ### their compare -/
def IsLotV (h : Heap) (v : Value) (l : List Int) : Prop := ∃ a o n vs, v = .ref a ∧ h.get? a = some o ∧ o.cls = .type "tuple" ∧ o.data = .seq (List.toArray vs) n ∧ IntsAre vs l
theorem IsLotV.keeps {h h' : Heap} {v : Value} {l : List Int} (p : IsLotV h v l) (k : ∀ b o, h.get? b = some o → o.cls = .type "tuple" → h'.get? b = some o) : IsLotV h' v l := by
  obtain ⟨a, o, n, vs, e1, ho, hc, hd, hi⟩ := p
  exact ⟨a, o, n, vs, e1, k _ _ ho hc, hc, hd, hi⟩
section
variable {prog : Program} {w : World} {A : Around} {E : Value → Shared → Prop} {s : Shared} {Q : Bool → Shared → Prop}
theorem ints_len {vs : List Value} {l : List Int} (h : IntsAre vs l) : vs.length = l.length := by
  induction h with
  | nil => rfl
  | cons n t _ ih => simp [ih]
theorem lex_any {b : Bool} {xs ys : List Value} {ns ms : List Int} (i : Nat) (hx : IntsAre xs ns) (hy : IntsAre ys ms) (h : Q (HT.lexLt ns ms) s) : PySem.W.KatLex prog w A b (decide (xs.length < ys.length)) Q (xs.zip ys) i s := by
  induction hx generalizing ys ms i with
  | nil =>
    cases hy with
    | nil => exact PySem.W.kat_nil h
    | cons q u hy =>
      rw [HT.lexLt_nil_cons] at h
      exact PySem.W.kat_nil (by simpa using h)
  | @cons p t xs ns hx ih =>
    cases hy with
    | nil => exact PySem.W.kat_nil h
    | @cons q u ys ms hy =>
      rw [HT.lexLt_cons] at h
      have el : decide ((Value.int p t :: xs).length < (Value.int q u :: ys).length) = decide (xs.length < ys.length) := by simp
      rw [el]
      show PySem.W.KatLex prog w A b _ Q ((Value.int p t, Value.int q u) :: xs.zip ys) i s
      refine PySem.W.kat_cons (wpAny_eqBool_int ?_)
      by_cases e : p = q
      · subst e
        rw [beq_self_eq_true]
        rw [if_pos rfl] at h
        exact PySem.W.kat_yes (ih (i + 1) hy h)
      · rw [show (p == q) = false from beq_eq_false_iff_ne.mpr e]
        rw [if_neg e] at h
        exact PySem.W.kat_no (by cases (b && i == 0) with | true => exact oneLt_int h | false => exact PySem.W.kat_one _ _ (PyProof.Rows.lt_int (Q := PySem.W.BoolBack Q) h))
theorem lot_cmp {vs : List Value} {k : Value → List Int} (hp : ∀ v ∈ vs, IsLotV s.heap v (k v)) : SrtO.Cmp prog w A s (tuples' true) (fun p => p.1 ∈ vs) (SrtO.lt2 fun v u => HT.lexLt (k v) (k u)) := by
  intro p q hm hm'
  have h1 := hp _ hm
  have h2 := hp _ hm'
  show wpAny (model prog w) A (keyLt' (tuples' true) p.1 q.1) (fun r s' => s' = s ∧ r = HT.lexLt (k p.1) (k q.1)) (fun _ _ => False) s
  generalize k p.1 = l at h1
  generalize k q.1 = l' at h2
  obtain ⟨a, o, n, xs, e, ho, hc, hd, hi⟩ := h1
  obtain ⟨a', o', n', ys, e', ho', hc', hd', hi'⟩ := h2
  rw [e, e']
  refine PySem.W.kat_lt ho hd ho' hd' ?_
  have es : decide ((List.toArray xs).size < (List.toArray ys).size) = decide (xs.length < ys.length) := by simp
  rw [es]
  exact lex_any 0 hi hi' ⟨rfl, rfl⟩
theorem lot_firsts {h : Heap} : ∀ {vs : List Value}, (∀ v ∈ vs, ∃ l, l ≠ [] ∧ IsLotV h v l) → ∃ fs : List Value, PySem.W.KatTups h vs fs ∧ fs.length = vs.length ∧ ∀ f ∈ fs, ∃ x t, f = .int x t
  | [], _ => ⟨[], PySem.W.KatTups.nil, rfl, fun _ hm => by simp at hm⟩
  | v :: vs, hp => by
    obtain ⟨fs, h1, h2, h3⟩ := lot_firsts (vs := vs) fun v' hm => hp v' (List.mem_cons_of_mem _ hm)
    obtain ⟨l, ne, a, o, n, xs, rfl, ho, hc, hd, hi⟩ := hp v (List.mem_cons_self ..)
    cases hi with
    | nil => exact absurd rfl ne
    | @cons q u ys ms hy =>
      refine ⟨.int q u :: fs, PySem.W.KatTups.cons ho hc hd rfl h1, by rw [List.length_cons, List.length_cons, h2], fun f hm => ?_⟩
      rcases List.mem_cons.mp hm with rfl | hm
      · exact ⟨_, _, rfl⟩
      · exact h3 f hm
theorem lot_sortableO {a : Addr} {vs : List Value} {k : Value → List Int} (h0 : 0 < vs.length) (hp : ∀ v ∈ vs, k v ≠ [] ∧ IsLotV s.heap v (k v)) (ha : ∀ o, s.heap.get? a = some o → o.cls ≠ .type "tuple") : SrtO.SortableO prog w A s a vs fun v u => HT.lexLt (k v) (k u) := by
  intro h' keep
  have hp' : ∀ v ∈ vs, IsLotV h' v (k v) := fun v hm => (hp v hm).2.keeps fun b o e c => keep b o (fun z => by subst z; exact ha o e c) e
  obtain ⟨fs, h1, h2, h3⟩ := lot_firsts fun v hm => ⟨_, (hp v hm).1, hp' v hm⟩
  refine ⟨tuples' true, fun Q E hq => ?_, lot_cmp (s := { s with heap := h' }) hp'⟩
  refine PySem.W.kat_kind (s := { s with heap := h' }) (T := .type "int") h1 (by omega) (fun f hm => ?_) (by rfl) ?_
  · obtain ⟨x, t, rfl⟩ := h3 f hm
    exact PySem.W.Looks.now
  · have e : (Value.type "int" != Value.type "tuple") = true := by first | decide +kernel | rfl | decide
    rw [e]
    exact hq
end
theorem ints_one {vs : List Value} {l l' : List Int} (a : IntsAre vs l) (b : IntsAre vs l') : l = l' := by
  induction a generalizing l' with
  | nil => cases b; rfl
  | cons n t _ ih =>
    cases b with
    | cons _ _ h => rw [ih h]
theorem lot_one {h : Heap} {v : Value} {e e' : List Int} (a : IsLotV h v e) (b : IsLotV h v e') : e = e' := by
  obtain ⟨p, o, n, vs, rfl, e1, _, e2, g1⟩ := a
  obtain ⟨q, o', n', vs', z, e3, _, e4, g2⟩ := b
  cases z
  rw [e1] at e3
  cases e3
  rw [e2] at e4
  have : vs = vs' := by
    have := congrArg (fun d : Data => match d with | .seq a _ => a.toList | _ => []) e4
    simpa using this
  subst this
  exact ints_one g1 g2
open Classical in
noncomputable def lotAt (h : Heap) (v : Value) : List Int := if e : ∃ p : List Int, IsLotV h v p then e.choose else []
theorem lotAt_eq {h : Heap} {v : Value} {p : List Int} (a : IsLotV h v p) : lotAt h v = p := by
  have e : ∃ p : List Int, IsLotV h v p := ⟨p, a⟩
  unfold lotAt
  rw [dif_pos e]
  exact lot_one e.choose_spec a
section
variable {X : Cx}
theorem lot_at {pins : List (Addr × Obj)} {σ : L2.St} {H : Hp} {s : Shared} (I : Inv X pins σ H s) {t : Addr} {l : List Int} (h : SqT X.K H t (l.map V.int)) : IsLotV s.heap (.ref t) l := by
  obtain ⟨its, rel, place, _⟩ := I.tuple h
  obtain ⟨ob, here, isTuple, cnt, holds⟩ := place
  exact ⟨t, ob, cnt, its, rfl, here, isTuple, holds, rel.ints⟩
theorem lots_back {h : Heap} : ∀ (xs : List V) (ps : List (List Int)) (its : List Value), Vals xs its → xs.length = ps.length → (∀ z ∈ xs.zip ps, ∃ t, z.1 = V.ref t ∧ IsLotV h (.ref t) z.2) →
    its.map (fun v => (backV v, lotAt h v)) = xs.zip ps ∧ (∀ v ∈ its, ∃ t, v = Value.ref t ∧ IsLotV h v (lotAt h v)) := by
  intro xs
  induction xs with
  | nil =>
    intro ps its r hl hp
    cases r
    exact ⟨by simp, fun v hv => by simp at hv⟩
  | cons x xr ih =>
    intro ps its r hl hp
    cases r with
    | cons r1 r2 =>
      cases ps with
      | nil => simp at hl
      | cons p pr =>
        rename_i y yr
        obtain ⟨t, e, g⟩ := hp (x, p) (by simp)
        obtain rfl : x = V.ref t := e
        obtain rfl : y = Value.ref t := r1
        obtain ⟨h1, h2⟩ := ih pr yr r2 (by simpa using hl) fun z hz => hp z (by simp [hz])
        have k := lotAt_eq (p := p) g
        refine ⟨by rw [List.map_cons, h1, k]; rfl, fun v hv => ?_⟩
        rcases List.mem_cons.mp hv with e | e
        · rw [e, k]
          exact ⟨t, rfl, g⟩
        · exact h2 v e
def rSrtL (K : PySem.W.Frag) : List V → Hp → VK → Prop := fun vs H Q => ∃ (a : Addr) (xs : List V) (ps : List (List Int)), vs = [V.ref a] ∧ SqL K H a xs ∧ xs.length = ps.length ∧ (∀ p ∈ ps, p ≠ []) ∧ (∀ z ∈ xs.zip ps, ∃ t, z.1 = V.ref t ∧ SqT K H t (z.2.map V.int)) ∧
  ∀ (zs : List (V × List Int)) (u : Addr), zs.Perm (xs.zip ps) → zs.map (·.2) = srtL ps → H u = none → Q (.ref u) (upd H u (.lst (zs.map (·.1))))
theorem cr_srtL : CallR X (.builtin "sorted") (rSrtL X.K) := by
  intro pins s σ H vs us Q I rv h
  obtain ⟨a, xs, ps, rfl, hs, hl, hn, hp, q⟩ := h
  obtain ⟨its, rx, place, hz⟩ := I.list hs
  obtain ⟨u, rfl, ru⟩ := vals1 rv
  obtain rfl : u = Value.ref a := ru
  have one : ∀ z ∈ xs.zip ps, ∃ t, z.1 = V.ref t ∧ IsLotV s.heap (.ref t) z.2 := fun z m => by
    obtain ⟨t, e, g⟩ := hp z m
    exact ⟨t, e, lot_at I g⟩
  obtain ⟨b1, b2⟩ := lots_back (h := s.heap) xs ps its rx hl one
  have full : ∀ v ∈ its, lotAt s.heap v ≠ [] := fun v hv => by
    have hm : (backV v, lotAt s.heap v) ∈ xs.zip ps := by rw [← b1]; exact List.mem_map.mpr ⟨v, hv, rfl⟩
    exact hn _ (List.of_mem_zip hm).2
  obtain ⟨ob, here, isT, cnt, holds⟩ := place.isList
  refine sorted_any2 (NtL.swo_lexL fun v => lotAt s.heap v) (.inl rfl) here isT holds (by rw [← rx.length]; exact hz) (fun h2 h₁ p hp kk => ?_) fun h2 d out srt stb keep fresh there => ?_
  · refine lot_sortableO (s := { s with heap := h₁ }) (by omega) (fun v hm => ⟨full v hm, ?_⟩) fun o e => ?_
    · exact (b2 v hm).choose_spec.2.keeps fun b o e _ => (kk b o e).2
    · have e' : some o = some (seqObj "list" its.toArray 0) := e.symm.trans hp
      cases e'
      intro c
      exact absurd (Value.type.inj c) (by decide)
  have refs : ∀ v ∈ out, ∃ t, v = Value.ref t := fun v hv => by
    obtain ⟨t, e, _⟩ := b2 v (stb.perm.mem_iff.mp hv)
    exact ⟨t, e⟩
  obtain ⟨cnt, there⟩ := there
  have pz : (out.map fun v => (backV v, lotAt s.heap v)).Perm (xs.zip ps) := by
    rw [← b1]
    exact stb.perm.map _
  have e1 : (out.map fun v => (backV v, lotAt s.heap v)).map (·.1) = out.map backV := by rw [List.map_map]; rfl
  have e2 : (out.map fun v => (backV v, lotAt s.heap v)).map (·.2) = srtL ps := by
    have pp : ((out.map fun v => (backV v, lotAt s.heap v)).map (·.2)).Perm ps := by
      have := pz.map (·.2)
      rwa [List.map_snd_zip (by omega)] at this
    refine srtBy_uniq ordL (pp.trans (srtBy_perm ps).symm) ?_ (srtBy_le ordL ps)
    rw [List.map_map, List.pairwise_map]
    refine List.Pairwise.imp (fun {x y} hxy => ?_) srt
    show (!HT.lexLt (lotAt s.heap y) (lotAt s.heap x)) = true
    have g : HT.lexLt (lotAt s.heap y) (lotAt s.heap x) = false := hxy
    rw [g]
    rfl
  have lo : out.length ≤ sizeLine := by rw [stb.perm.length_eq, ← rx.length]; exact hz
  have fin := q _ d pz e2 (I.hok.fresh fresh)
  rw [e1] at fin
  exact ⟨.ref d, upd H d (.lst (out.map backV)), I.laid (t' := s.toks) keep fresh ⟨by simpa using lo, out, cnt, vals_back refs, there⟩, rfl, fin⟩
theorem ats_lt {K : PySem.W.Frag} {as : List Addr} {G : Hp} : ∀ {xs : List V} {ps : List (List Int)}, Ats K as G xs (ps.map ltD) → xs.length = ps.length ∧ ∀ z ∈ xs.zip ps, At K as G z.1 (ltD z.2)
  | _, [], .nil => ⟨rfl, fun z hz => by simp at hz⟩
  | _, p :: r, .cons h t => by
    obtain ⟨h1, h2⟩ := ats_lt t
    refine ⟨by simp [h1], fun z hz => ?_⟩
    rw [List.zip_cons_cons] at hz
    rcases List.mem_cons.mp hz with e | e
    · rw [e]; exact h
    · exact h2 z e
theorem at_lt {K : PySem.W.Frag} {as : List Addr} {G : Hp} {x : V} {p : List Int} (h : At K as G x (ltD p)) : ∃ t, x = V.ref t ∧ SqT K G t (p.map V.int) := by
  unfold ltD at h
  cases h with
  | tup h1 h2 =>
    rw [ats_intV h2] at h1
    exact ⟨_, rfl, h1⟩
theorem ats_ofL {K : PySem.W.Frag} {as : List Addr} {G : Hp} : ∀ {zs : List (V × List Int)}, (∀ z ∈ zs, At K as G z.1 (ltD z.2)) → Ats K as G (zs.map (·.1)) ((zs.map (·.2)).map ltD)
  | [], _ => .nil
  | z :: r, h => .cons (h z List.mem_cons_self) (ats_ofL fun y hy => h y (List.mem_cons_of_mem _ hy))
/-- sorted(lots) -/
theorem cd_sortedL : CallD X (.builtin "sorted") (fun ds μ Q => ∃ ps : List (List Int), ds = [.lst (ps.map ltD)] ∧ (∀ p ∈ ps, p ≠ []) ∧ Q (.lst ((srtL ps).map ltD)) μ) := by
  refine ⟨_, cr_srtL, ?_⟩
  intro as G H μ xs ds Q Q' m a1 h f
  obtain ⟨ps, rfl, hn, q⟩ := h
  obtain ⟨x, rfl, a2⟩ := a1.one
  cases a2 with
  | lst hq hx =>
    rename_i p zs
    obtain ⟨l1, l2⟩ := ats_lt hx
    refine ⟨p, zs, ps, rfl, m.same.seq hq, l1, hn, fun z hz => ?_, fun ys u hp he hu => f _ _ ?_⟩
    · obtain ⟨t, e, g⟩ := at_lt (l2 z hz)
      exact ⟨t, e, Same.tup m.same g⟩
    · have t := ats_ofL fun z hz => l2 z (hp.mem_iff.mp hz)
      rw [he] at t
      exact .lay m hu (.lst (.of upd_same) (t.mono (same_upd_none (m.same.free hu)) fun _ _ h => h)) q
/-! ### a tuple of ints, put in order -/
def rSrtIT (K : PySem.W.Frag) : List V → Hp → VK → Prop := fun vs H Q => ∃ (a : Addr) (ns : List Int), vs = [V.ref a] ∧ SqT K H a (ns.map V.int) ∧ ns.length ≤ sizeLine ∧
  ∀ (ns' : List Int) (p : Addr), ns'.Perm ns → ns'.Pairwise (· ≤ ·) → H p = none → Q (.ref p) (upd H p (.lst (ns'.map V.int)))
theorem cr_srtIT : CallR X (.builtin "sorted") (rSrtIT X.K) := by
  intro pins s σ H vs us Q I r h
  obtain ⟨a, ns, rfl, hs, hzz, q⟩ := h
  obtain ⟨its, rv, place, hz⟩ := I.tuple hs
  rw [Vals.ref1 r]
  have hi := rv.ints
  have hl : its.length = ns.length := ints_len hi
  obtain ⟨ob, here, isT, cnt, holds⟩ := place
  refine sorted_any2 SrtO.swo_int (.inr rfl) here isT holds (by rw [hl]; exact hzz) (fun h2 h₁ a' _ _ => SrtO.ints_sortable hi h2) fun h2 d out h1 h3 keep fresh there => ?_
  obtain ⟨k1, k2, k3⟩ := SrtO.ints_out hi h1 h3
  obtain ⟨ep, he'⟩ := there
  have hlen : ((out.map SrtO.iv).map V.int).length ≤ sizeLine := by
    rw [List.length_map, k2.length_eq]
    exact hzz
  exact ⟨.ref d, upd H d (.lst ((out.map SrtO.iv).map V.int)), I.laid (t' := s.toks) keep fresh ⟨hlen, out, ep, vals_of_ints k1, he'⟩, rfl, q _ _ k2 k3 (I.hok.fresh fresh)⟩
theorem cd_sortedIT : CallD X (.builtin "sorted") (fun ds μ Q => ∃ (is : List Int), ds = [.tup (is.map .int)] ∧ is.length ≤ sizeLine ∧ Q (.lst ((srtI is).map .int)) μ) := by
  refine ⟨_, cr_srtIT, ?_⟩
  intro as G H μ xs ds Q Q' m a1 h f
  obtain ⟨is, rfl, hl, q⟩ := h
  obtain ⟨x, rfl, a2⟩ := a1.one
  cases a2 with
  | tup hq hx =>
    rw [ats_intV hx] at hq
    refine ⟨_, is, rfl, Same.tup m.same hq, hl, fun ns' u hp hw hu => f _ _ ?_⟩
    have e := srt_uniq (hp.trans (srtI_perm is).symm) hw (srtI_le is)
    subst e
    exact .lay m hu (.lst (.of upd_same) (ats_ints _)) q
end
end DL

/-! D48: not in, the least of a list. -/
namespace DL
open PySem PySem.Spec PyProof.Rows L2
section
variable {X : Cx}
theorem od_ninI : OpD X (compareOp .NotIn) (fun d e μ Q => ∃ (i : Int) (is : List Int), d = .int i ∧ seqM μ e = some (is.map .int) ∧ Q (.bl (!is.contains i)) μ) := ⟨_, op_notIn_seq, rrIn⟩
theorem cd_minL (hc : X.calm = true) : CallD X (.builtin "min") (fun ds μ Q => ∃ ns : List Int, ds = [.lst (ns.map .int)] ∧ 0 < ns.length ∧ ∀ m, m ∈ ns → (∀ y ∈ ns, m ≤ y) → Q (.int m) μ) := by
  refine ⟨_, cr_min hc, ?_⟩
  intro as G H μ xs ds Q Q' m a ⟨bs, e, l, q⟩ f
  subst e
  obtain ⟨x, rfl, a2⟩ := a.one
  cases a2 with
  | lst h t =>
    rw [ats_intV t] at h
    exact ⟨_, bs, rfl, m.same.seq h, l, fun k h1 h2 => f _ _ (.now m (.int _) (q k h1 h2))⟩
end
end DL

/-! D49: name = [.. for .. if ..], a list that may change. -/
namespace DL
open PySem PySem.Spec PyProof.Rows L2
section
variable {X : Cx} {J : JX} {tg : Expr} {ρ : Env'} {μ : Mu} {D : DEnds} {pos : Pos}
theorem dS_setLcMF {α : Type} (i : Nat) {y : Str} {py : Pos} {iter elt : Expr} {ifs : List Expr} {scope : Scope} {lpos : Pos} (own : List (Str × Nat)) (f : α → Dt) (c : α → Bool) (g : α → Dt) (hc : X.calm = true) (hN : X.N.Nodup) (hy : X.N[i]? = some y) (hyl : X.env.scope.names.lookup y = some .local) (ok : BlkOk X.N X.env.scope scope own)
    (hsw : swapsWith (.ListComp elt [⟨tg, iter, ifs, 0⟩] scope lpos) (some (.Name y py)) pos.line X.env = pure true)
    (h : dI X J tg iter ρ μ fun xs ok μ1 => ok μ1 ∧ ∃ zs : List α, xs = zs.map f ∧ zs.length ≤ sizeLine ∧ (∀ z ∈ zs, LcF X scope (own.map (·.2)) tg elt ifs ρ μ1 (f z) (c z) (g z)) ∧ D.nx (ρ.set i (some (.mut μ1.length))) (μ1 ++ [.lst ((zs.filter c).map g)]))
    (hs : ∀ x, foldedSetIterable iter X.env x = pure x := by intro _; rfl) : dS X J (.Assign [.Name y py] (.ListComp elt [⟨tg, iter, ifs, 0⟩] scope lpos) pos) ρ μ D := by
  refine dS_setLcM i own hc hN hy hyl ok hsw (.mk fun as G H σ S => ?_) hs
  refine dS_for.wI_mono (h as G H σ S) fun It H1 ⟨xs, ok, μ1, as1, G1, t1, m1, src, o1, zs, e, hl, turn, q⟩ => ?_
  subst e
  refine ⟨zs.map f, ok, μ1, as1, G1, t1, m1, src, fun i acc μ' => μ' = μ1 ∧ i ≤ zs.length ∧ acc = ((zs.take i).filter c).map g, ⟨rfl, Nat.zero_le _, rfl⟩, fun i acc μ' z => by rw [z.1]; exact o1, lcT_of hl turn, fun acc μ' z => ?_⟩
  obtain ⟨e1, _, e2⟩ := z
  rw [e1, e2, List.length_map, List.take_length]
  exact q
end
end DL

/-! D50: a mutable list that an expression gives is data from now on. -/
namespace DL
open PySem PySem.Spec PyProof.Rows L2
section
variable {X : Cx} {J : JX} {e : Expr} {ρ : Env'} {μ : Mu} {σ : L2.St} {H : Hp} {pos : Pos}
theorem dE_frz {Q : Dt → Mu → Prop} (h : dE X J e ρ μ fun d μ1 => ∃ k ds, d = .mut k ∧ μ1[k]? = some (.lst ds) ∧ Q (.lst ds) (μ1.set k .gone)) : dE X J e ρ μ Q := .mk fun as G H σ S => by
  refine wE_mono (h as G H σ S) fun v H1 ⟨d, μ1, as1, G1, t1, m1, a1, k, ds, ed, hk, q⟩ => ?_
  subst ed
  cases a1 with
  | «mut» h1 =>
    skip
    obtain ⟨p', o, e2, e3, e4, e5⟩ := m1.cell k _ hk (by simp)
    rw [h1] at e2; cases e2
    obtain ⟨xs, rfl, ax⟩ := e4
    have t := Step.freeze (o := .lst xs) m1 h1 e5
    exact ⟨_, _, as1, _, t1.trans t, m1.freeze h1 e3 e5, At.lst (.of upd_same) (ax.mono (same_upd_none e5) fun _ _ h => h), q⟩
end
end DL

/-! L1: the law's text; pen, draw, pick. -/
namespace Law
open PySem PySem.Spec PyProof.Rows L2 DL
local macro_rules | `(tactic| walk_at "sd") => `(tactic| first | assumption | decide | exact Or.inr (by decide) | exact Or.inl (by decide) | exact ⟨by decide, by decide⟩ | exact ⟨by decide, by decide, by decide⟩ | omega | exact ⟨by omega, by omega⟩)
local macro_rules | `(tactic| walk_at "lz") => `(tactic| first | exact pen_len | (rw [sizeLine_eq]; simp; done) | (rw [sizeLine_eq]; simp; omega))
local macro_rules | `(tactic| walk_at "vd") => `(tactic| first | exact pen_cells | exact pen_at | exact pen_dg | exact pen_ct | exact pen_fold | kernel_rfl)
abbrev tp (i : Nat) : Stmt := PySem.Challenge.pw_cutrounds_k07_webs_that_have_a_name.main.body.getD i (.Pass ⟨0, 0, 0, 0⟩)
theorem map_int {ns : List Int} {i : Nat} {x : Dt} (hx : (ns.map Dt.int)[i]? = some x) : ∃ z : Int, x = .int z := by
  rw [List.getElem?_map] at hx
  cases e : ns[i]? with
  | none => rw [e] at hx; cases hx
  | some z => rw [e] at hx; exact ⟨z, (Option.some.inj hx).symm⟩
section
variable {P : Program} {w : World} {K : PySem.W.Frag} {mg : Str → Option Value} {base : Heap}
abbrev sPen : Stmt := tp 41
theorem scPen : FnScope ["script", "fold", "cell"] ["script"] (defScope sPen) := ⟨rfl, rfl, rfl, by decide +kernel, rfl, by decide +kernel, by decide +kernel⟩
theorem okPen {f : Addr} {fd : FuncData} (F : Fun K "_law_pen" "_law_pen" sPen f fd) (n_int : mg "int" = none) (n_list : mg "list" = none) : FnG P w K mg base 1 f fd ["script"] rPen := by
  refine FnG.of F scPen (fun ds μ Q J ⟨ns, e, _⟩ => by rw [e]; rfl) fun cdv A outer s H E ds μ Q J hr hg ⟨ns, e, e2, q⟩ => ?_
  subst e e2
  have hN : (["script", "fold", "cell"] : List Str).Nodup := by decide +kernel
  refine dSs_cons (dS_set 1 hN rfl (dE_int (?_)))
  refine dSs_cons (dS_for (passes_of rfl) rfl (dI_seq (dE_var 0 rfl rfl ⟨_, rfl, ?_⟩)))
  refine ⟨fun _ ρ' μ' => μ' = [] ∧ ∃ (fold : Int) (c : Option Dt), 0 ≤ fold ∧ fold < 999999587 ∧ ρ' = [some (.lst (ns.map .int)), some (.int fold), c], ⟨rfl, 0, none, by decide, by decide, rfl⟩, ?_, ?_, ?_⟩
  · rintro i ρ' μ' ⟨rfl, _⟩
    rfl
  · rintro i x ρ' μ' hx ⟨rfl, fold, c, h1, h2, rfl⟩
    obtain ⟨z, rfl⟩ := map_int hx
    refine dG_name 2 hN rfl ?_
    refine dSs_cons (dS_set 1 hN rfl (dE_bin od_mod (dE_callTy (hv := Boot.«int») cd_int n_int (dA_cons (dE_bin od_add (dE_bin od_mul (dE_var 1 rfl rfl (dE_int (mk_I (C := CMul) (by walk_at "sd") (dE_var 2 rfl rfl (mk_I0 (dA_nil (.inl ⟨_, rfl, dE_int (mk_mod (by walk_at "sd") (?_))⟩)))))))))))))
    refine dSs_nil ?_
    exact ⟨rfl, _, _, Int.emod_nonneg _ (by decide), Int.emod_lt_of_pos _ (by decide), rfl⟩
  · rintro ρ' μ' ⟨rfl, fold, c, h1, h2, rfl⟩
    show dSs _ _ _ _ _ _
    refine dSs_cons (dS_ret (dE_dicM (hall := rfl) (hl := rfl) (h0 := List.cons_ne_nil _ _) (h15 := by decide) (dP_cons (dE_str (dE_callTy (hv := Boot.«list») cd_list n_list (dA_cons (dE_var 0 rfl rfl (dA_nil (⟨_, _, rfl, rfl, dP_cons (dE_str (dE_int (dP_cons (dE_str (dE_int (dP_cons (dE_str (dE_int (dP_cons (dE_str (dE_var 1 rfl rfl (dP_nil (?_)))))))))))))⟩)))))))))
    refine ⟨[(.inr "cells", .lst (ns.map .int)), (.inr "at", .int 0), (.inr "digits", .int 0), (.inr "count", .int 0), (.inr "fold", .int fold)], rfl, (by show 5 ≤ 15; decide), ?_⟩
    rw [pen_merge]
    exact q _ ⟨ns, 0, 0, 0, fold, rfl, by omega, by omega, by omega, h1, by omega⟩
abbrev sDraw : Stmt := tp 42
theorem scDraw : FnScope ["pen", "many", "cell", "digit", "blend"] ["pen", "many"] (defScope sDraw) := ⟨rfl, rfl, rfl, by decide +kernel, rfl, by decide +kernel, by decide +kernel⟩
theorem okDraw {f : Addr} {fd : FuncData} (F : Fun K "_law_draw" "_law_draw" sDraw f fd) (n_int : mg "int" = none) (n_len : mg "len" = none) : FnG P w K mg base 1 f fd ["pen", "many"] rDraw := by
  refine FnG.of F scDraw (fun ds μ Q J ⟨B, many, m, e, _⟩ => by rw [e]; rfl) fun cdv A outer s H E ds μ Q J hr hg ⟨B, many, m, e, e2, pen, hB, hm, hm2, q⟩ => ?_
  subst e e2
  have hN : (["pen", "many", "cell", "digit", "blend"] : List Str).Nodup := by decide +kernel
  have hu := hu_of hr
  obtain ⟨cells, a, d, c, fo, rfl, ha, hc, hcB, hf, hf2⟩ := pen
  -- what is drawn where nothing is taken off
  have tail : ∀ (ρ : Env') (a d fo : Int), 0 ≤ a → 0 ≤ fo → fo < 2147483269 → (∃ x y z, ρ = [some (.mut 0), some (.int many), x, y, z]) →
      dSs (cxOf (L2.CX P w) P w K mg base ["pen", "many", "cell", "digit", "blend"] "_law_draw" (defScope sDraw) f cdv A outer s H E) J ((defBody sDraw).drop 2) ρ [.dic (penD cells a d (c + 1) fo)] { nx := fun _ μ' => Q .non μ', rt := Q } := by
    intro ρ a d fo ha hf hf2 hρ
    obtain ⟨x, y, z, rfl⟩ := hρ
    refine dSs_cons (dS_if (dT_cmp od_gt (dE_dget hu (dE_var 0 rfl rfl (dE_str (⟨_, .inr _, _, rfl, rfl, by walk_at "vd", dE_int (mk_I0 (mk_B (?_)))⟩))))))
    refine iteD (fun hd => ?_) (fun hd => ?_)
    · refine dSs_cons (dS_set 3 hN rfl (dE_bin od_mod (dE_callTy (hv := Boot.«int») cd_int n_int (dA_cons (dE_dget hu (dE_var 0 rfl rfl (dE_str (⟨_, .inr _, _, rfl, rfl, by walk_at "vd", dA_nil (.inl ⟨_, rfl, dE_var 1 rfl rfl (mk_mod (by walk_at "sd") (?_))⟩)⟩))))))))
      refine dSs_cons (dS_dput hu (dE_bin od_fdiv (dE_dget hu (dE_var 0 rfl rfl (dE_str (⟨_, .inr _, _, rfl, rfl, by walk_at "vd", dE_var 1 rfl rfl (mk_I (C := CDiv) (by walk_at "sd") (dE_var 0 rfl rfl (dE_str (⟨_, _, .inr _, rfl, rfl, rfl, by walk_at "lz", ?_⟩))))⟩))))))
      refine dSs_cons (dS_ret (dE_var 3 rfl rfl (?_)))
      exact q _ _ (Int.emod_nonneg _ (by omega)) (Int.emod_lt_of_pos _ hm) ⟨cells, a, _, c + 1, fo, congrArg Mo.dic pen_dg_put, ha, by omega, by omega, hf, hf2⟩
    · refine dSs_nil ?_
      refine dSs_cons (dS_set 4 hN rfl (dE_bin od_add (dE_bin od_add (dE_dget hu (dE_var 0 rfl rfl (dE_str (⟨_, .inr _, _, rfl, rfl, by walk_at "vd", dE_bin od_mul (dE_dget hu (dE_var 0 rfl rfl (dE_str (⟨_, .inr _, _, rfl, rfl, by walk_at "vd", dE_int (mk_I (C := CMul) (by walk_at "sd") (mk_I0 (dE_int (mk_I0 (?_)))))⟩))))⟩)))))))
      refine dSs_cons (dS_ret (dE_bin od_mod (dE_bin od_fdiv (dE_callTy (hv := Boot.«int») cd_int n_int (dA_cons (dE_bin od_mod (dE_bin od_pow (dE_var 4 rfl rfl (dE_int (mk_I (C := CPow) (by walk_at "sd") (dE_int (mk_mod (by walk_at "sd") (dA_nil (.inl ⟨_, rfl, dE_int (mk_I (C := CDiv) (by walk_at "sd") (dE_var 1 rfl rfl (mk_mod (by walk_at "sd") (?_))))⟩))))))))))))))
      exact q _ _ (Int.emod_nonneg _ (by omega)) (Int.emod_lt_of_pos _ hm) ⟨cells, a, d, c + 1, fo, rfl, ha, by omega, by omega, hf, hf2⟩
  refine dSs_cons (dS_dput hu (dE_bin od_add (dE_dget hu (dE_var 0 rfl rfl (dE_str (⟨_, .inr _, _, rfl, rfl, by walk_at "vd", dE_int (mk_I0 (dE_var 0 rfl rfl (dE_str (⟨_, _, .inr _, rfl, rfl, rfl, by walk_at "lz", ?_⟩))))⟩))))))
  have e1 : ([Mo.dic (penD cells a d c fo)].set 0 (.dic (putD (penD cells a d c fo) (.inr "count") (.int (c + 1))))) = [Mo.dic (penD cells a d (c + 1) fo)] := by rw [pen_ct_put]; rfl
  rw [e1]
  refine dSs_cons (dS_if (dT_bool (dW_and (dT_cmp od_eqF (dE_dget hu (dE_var 0 rfl rfl (dE_str (⟨_, .inr _, _, rfl, rfl, by walk_at "vd", dE_int (⟨_, rfl, mk_B (?_)⟩)⟩))))))))
  refine iteB (fun h0 => ?_) (fun _ => ?_)
  · refine dW_and1 (dT_cmp od_lt (dE_dget hu (dE_var 0 rfl rfl (dE_str ⟨_, .inr _, _, rfl, rfl, by walk_at "vd", dE_callB (hv := Boot.«len») cd_len n_len (dA_cons (dE_dget hu (dE_var 0 rfl rfl (dE_str ⟨_, .inr _, _, rfl, rfl, by walk_at "vd", dA_nil ⟨_, _, rfl, rfl, mk_I0 (mk_B ?_)⟩⟩))))⟩))))
    refine iteD (fun h1 => ?_) (fun _ => dSs_nil (tail _ a d fo ha hf hf2 ⟨_, _, _, rfl⟩))
    obtain ⟨z, hz⟩ : ∃ z : Int, atI (cells.map Dt.int) a = some (.int z) := by
      have h2 : a.toNat < cells.length := by
        have h3 : a < ((cells.map Dt.int).length : Int) := h1
        rw [List.length_map] at h3
        omega
      refine ⟨cells[a.toNat], ?_⟩
      rw [atI_get ha (by rw [List.length_map]; exact h2)]
      simp
    refine dSs_cons (dS_set 2 hN rfl (dE_idx (dE_dget hu (dE_var 0 rfl rfl (dE_str (⟨_, .inr _, _, rfl, rfl, by walk_at "vd", dE_dget hu (dE_var 0 rfl rfl (dE_str (⟨_, .inr _, _, rfl, rfl, by walk_at "vd", ⟨_, _, _, rfl, rfl, hz, ?_⟩⟩)))⟩))))))
    refine dSs_cons (dS_dput hu (dE_bin od_add (dE_dget hu (dE_var 0 rfl rfl (dE_str (⟨_, .inr _, _, rfl, rfl, by walk_at "vd", dE_int (mk_I0 (dE_var 0 rfl rfl (dE_str (⟨_, _, .inr _, rfl, rfl, rfl, by walk_at "lz", ?_⟩))))⟩))))))
    have e2 : ([Mo.dic (penD cells a d (c + 1) fo)].set 0 (.dic (putD (penD cells a d (c + 1) fo) (.inr "at") (.int (a + 1))))) = [Mo.dic (penD cells (a + 1) d (c + 1) fo)] := by rw [pen_at_put]; rfl
    rw [e2]
    refine dSs_cons (dS_if (dT_cmp od_ge (dE_var 2 rfl rfl (dE_bin od_pow (dE_int (dE_int (mk_I (C := CPow) (by walk_at "sd") (mk_I0 (mk_B (?_))))))))))
    refine iteD (fun h4 => ?_) (fun h4 => ?_)
    · refine dSs_cons (dS_dput hu (dE_bin od_sub (dE_var 2 rfl rfl (dE_bin od_pow (dE_int (dE_int (mk_I (C := CPow) (by walk_at "sd") (mk_I0 (dE_var 0 rfl rfl (dE_str (⟨_, _, .inr _, rfl, rfl, rfl, by walk_at "lz", ?_⟩)))))))))))
      have e3 : ([Mo.dic (penD cells (a + 1) d (c + 1) fo)].set 0 (.dic (putD (penD cells (a + 1) d (c + 1) fo) (.inr "digits") (.int (z - 10 ^ (18 : Int).toNat))))) = [Mo.dic (penD cells (a + 1) (z - 10 ^ (18 : Int).toNat) (c + 1) fo)] := by rw [pen_dg_put]; rfl
      rw [e3]
      exact dSs_nil (dSs_nil (tail _ _ _ _ (by omega) hf hf2 ⟨_, _, _, rfl⟩))
    · refine dSs_cons (dS_dput hu (dE_bin od_mod (dE_callTy (hv := Boot.«int») cd_int n_int (dA_cons (dE_bin od_add (dE_bin od_mul (dE_dget hu (dE_var 0 rfl rfl (dE_str (⟨_, .inr _, _, rfl, rfl, by walk_at "vd", dE_int (mk_I (C := CMul) (by walk_at "sd") (dE_var 2 rfl rfl (mk_I0 (dA_nil (.inl ⟨_, rfl, dE_int (mk_mod (by walk_at "sd") (dE_var 0 rfl rfl (dE_str (⟨_, _, .inr _, rfl, rfl, rfl, by walk_at "lz", ?_⟩))))⟩)))))⟩))))))))))
      have e3 : ([Mo.dic (penD cells (a + 1) d (c + 1) fo)].set 0 (.dic (putD (penD cells (a + 1) d (c + 1) fo) (.inr "fold") (.int ((fo * 35999 + z) % 2147483269))))) = [Mo.dic (penD cells (a + 1) d (c + 1) ((fo * 35999 + z) % 2147483269))] := by rw [pen_fold_put]; rfl
      rw [e3]
      exact dSs_nil (dSs_nil (tail _ _ _ _ (by omega) (Int.emod_nonneg _ (by decide)) (Int.emod_lt_of_pos _ (by decide)) ⟨_, _, _, rfl⟩))
  · rw [if_neg Bool.false_ne_true]
    exact dSs_nil (tail _ a d fo ha hf hf2 ⟨_, _, _, rfl⟩)
abbrev sPick : Stmt := tp 43
theorem scPick : FnScope ["pen", "some"] ["pen", "some"] (defScope sPick) := ⟨rfl, rfl, rfl, by decide +kernel, rfl, by decide +kernel, by decide +kernel⟩
theorem okPick {f : Addr} {fd : FuncData} (F : Fun K "_law_pick" "_law_pick" sPick f fd) (f_draw : DefP P w K mg base 1 "_law_draw" ["pen", "many"] rDraw) (n_len : mg "len" = none) : FnG P w K mg base 2 f fd ["pen", "some"] rPick := by
  refine FnG.of F scPick (fun ds μ Q J ⟨B, xs, d, m, e, _⟩ => by rw [e]; rfl) fun cdv A outer s H E ds μ Q J hr hg ⟨B, xs, d, m, e, hd, e2, pen, hB, hne, hl, q⟩ => ?_
  subst e e2
  have hN : (["pen", "some"] : List Str).Nodup := by decide +kernel
  have len : ∀ μ, lenM μ d = some xs.length := fun μ => by rcases hd with rfl | rfl <;> rfl
  have seq : ∀ μ, seqM μ d = some xs := fun μ => by rcases hd with rfl | rfl <;> rfl
  have hp : 0 < xs.length := List.length_pos_iff.mpr hne
  refine dSs_cons (dS_ret (dE_idx (dE_var 1 rfl rfl (dE_go f_draw hr hg (dA_cons (dE_var 0 rfl rfl (dA_cons (dE_callB (hv := Boot.«len») cd_len n_len (dA_cons (dE_var 1 rfl rfl (dA_nil ⟨_, _, rfl, len _, dA_nil ?_⟩))))))))))) 
  refine mk_call1 rfl pen.ng pen.mf rfl ⟨B, _, m, rfl, rfl, pen, hB, by omega, by omega, fun r m' h1 h2 pm => ⟨rfl, m', rfl, pm.ng, pm.mf, ?_⟩⟩
  have h3 : r.toNat < xs.length := by omega
  refine ⟨r, xs, xs[r.toNat], rfl, seq _, ?_, ?_⟩
  · exact atI_get h1 h3
  · exact q _ (List.getElem_mem h3) m' pm
end
end Law

/-! W2: plain data; looks. -/
namespace Law
open PySem PySem.Spec PyProof.Rows L2 DL
local macro_rules | `(tactic| walk_at "sd") => `(tactic| first | assumption | decide | exact Or.inr (by decide) | exact Or.inl (by decide) | exact ⟨by decide, by decide⟩ | exact ⟨by decide, by decide, by decide⟩ | omega | exact ⟨by omega, by omega⟩)
local macro_rules | `(tactic| walk_at "lz") => `(tactic| first | exact pen_len | (rw [sizeLine_eq]; simp; done) | (rw [sizeLine_eq]; simp; omega))
section
variable {P : Program} {w : World} {K : PySem.W.Frag} {mg : Str → Option Value} {base : Heap}
/-- the built-ins that no name of the program hides -/
structure Bi (mg : Str → Option Value) : Prop where
  isinstance : mg "isinstance" = none
  tuple : mg "tuple" = none
  list : mg "list" = none
  int : mg "int" = none
  bool : mg "bool" = none
  len : mg "len" = none
  all : mg "all" = none
  any : mg "any" = none
  sorted : mg "sorted" = none
  range : mg "range" = none
  min : mg "min" = none
  max : mg "max" = none
  abs : mg "abs" = none
  repr : mg "repr" = none
/-! ### plain data -/
def tyS : Dt → Option String
  | .non => some "NoneType" | .bl _ => some "bool" | .int _ => some "int" | .str _ => some "str" | .lst _ => some "list" | .tup _ => some "tuple" | .dic _ => some "dict"
  | _ => none
theorem tyM_of {μ : Mu} : ∀ {d : Dt} {T : String}, tyS d = some T → TyM K μ d (.type T) := by
  intro d T h
  cases d <;> simp only [tyS, Option.some.injEq, reduceCtorEq] at h <;> subst h <;> constructor
theorem ty_ne {d : Dt} {T : String} (h : tyS d = some T) : ∀ C gs, d ≠ .exc C gs := fun C gs z => by rw [z] at h; cases h
def wholeD : Dt → Bool
  | .int _ => true
  | _ => false
def tupD : Dt → Bool
  | .tup _ => true
  | _ => false
def lstB : Dt → Bool
  | .lst _ => true
  | _ => false
def seqD : Dt → Bool
  | .tup _ | .lst _ => true
  | _ => false
def itemsD : Dt → List Dt
  | .tup xs | .lst xs => xs
  | _ => []
theorem kits {T : String} {d : Dt} (h : tyS d = some T) (n : String) (f : Dt → Bool) (a : kitB "NoneType" n = some (f .non)) (b : kitB "bool" n = some (f (.bl true))) (c : kitB "int" n = some (f (.int 0))) (e : kitB "str" n = some (f (.str ""))) (l : kitB "list" n = some (f (.lst []))) (t : kitB "tuple" n = some (f (.tup []))) (k : kitB "dict" n = some (f (.dic [])))
    (hf : ∀ d, f d = match d with | .non => f .non | .bl _ => f (.bl true) | .int _ => f (.int 0) | .str _ => f (.str "") | .lst _ => f (.lst []) | .tup _ => f (.tup []) | .dic _ => f (.dic []) | d => f d) : PySem.W.kitOne K (.type T) (.type n) = some (f d) := by
  cases d <;> simp only [tyS, Option.some.injEq, reduceCtorEq] at h <;> subst h
  · exact kit_ty a
  · rw [hf]; exact kit_ty b
  · rw [hf]; exact kit_ty c
  · rw [hf]; exact kit_ty e
  · rw [hf]; exact kit_ty l
  · rw [hf]; exact kit_ty t
  · rw [hf]; exact kit_ty k
def intB : Dt → Bool
  | .int _ | .bl _ => true
  | _ => false
def blB : Dt → Bool
  | .bl _ => true
  | _ => false
theorem kitInt {T : String} {d : Dt} (h : tyS d = some T) : PySem.W.kitOne K (.type T) (.type "int") = some (intB d) := kits h "int" intB (by decide +kernel) (by decide +kernel) (by decide +kernel) (by decide +kernel) (by decide +kernel) (by decide +kernel) (by decide +kernel) fun d => by cases d <;> rfl
theorem kitBool {T : String} {d : Dt} (h : tyS d = some T) : PySem.W.kitOne K (.type T) (.type "bool") = some (blB d) := kits h "bool" blB (by decide +kernel) (by decide +kernel) (by decide +kernel) (by decide +kernel) (by decide +kernel) (by decide +kernel) (by decide +kernel) fun d => by cases d <;> rfl
theorem kitTup {T : String} {d : Dt} (h : tyS d = some T) : PySem.W.kitOne K (.type T) (.type "tuple") = some (tupD d) := kits h "tuple" tupD (by decide +kernel) (by decide +kernel) (by decide +kernel) (by decide +kernel) (by decide +kernel) (by decide +kernel) (by decide +kernel) fun d => by cases d <;> rfl
theorem kitLst {T : String} {d : Dt} (h : tyS d = some T) : PySem.W.kitOne K (.type T) (.type "list") = some (lstB d) := kits h "list" lstB (by decide +kernel) (by decide +kernel) (by decide +kernel) (by decide +kernel) (by decide +kernel) (by decide +kernel) (by decide +kernel) fun d => by cases d <;> rfl
theorem kit2 {d : Dt} {T : String} (h : tyS d = some T) : PySem.W.kitAny K (.type T) [.type "tuple", .type "list"] = some (seqD d) := by
  have hn : tupD d = false → seqD d = lstB d := by cases d <;> intro z <;> first | rfl | cases z
  cases ht : tupD d with
  | true =>
    have e : seqD d = true := by cases d <;> simp [tupD] at ht <;> rfl
    rw [e]
    exact kitAny_cons (b := true) (by rw [kitTup h, ht]) (fun z => by cases z) (fun _ => rfl)
  | false =>
    rw [hn ht]
    refine kitAny_cons (b := false) (by rw [kitTup h, ht]) (fun _ => ?_) (fun z => by cases z)
    cases hl : lstB d with
    | true => exact kitAny_cons (b := true) (by rw [kitLst h, hl]) (fun z => by cases z) (fun _ => rfl)
    | false => exact kitAny_cons (b := false) (by rw [kitLst h, hl]) (fun _ => kitAny_nil) (fun z => by cases z)
theorem seq_items {d : Dt} (h : seqD d = true) (μ : Mu) : seqM μ d = some (itemsD d) ∧ lenM μ d = some (itemsD d).length := by
  cases d <;> simp [seqD] at h <;> exact ⟨rfl, rfl⟩
/-- of one plain value -/
def V1 (f : Dt → Dt) : List Dt → Dt → Prop := fun ds d => ∃ x T, ds = [x] ∧ tyS x = some T ∧ d = f x
abbrev sWhole : Stmt := tp 11
theorem scWhole : FnScope ["value"] ["value"] (defScope sWhole) := ⟨rfl, rfl, rfl, by decide +kernel, rfl, by decide +kernel, by decide +kernel⟩
abbrev nmWhole : List Str := ["value"]
theorem ndWhole : (nmWhole : List Str).Nodup := by decide +kernel
theorem okWhole {f : Addr} {fd : FuncData} (F : Fun K "is_whole" "is_whole" sWhole f fd) (B : Bi mg) : FnG P w K mg base 1 f fd ["value"] (rP (V1 fun x => .bl (wholeD x))) := by
  refine FnG.of F scWhole (rP_len fun ds d ⟨x, T, e, _⟩ => by rw [e]; rfl) fun cdv A outer s H E ds μ Q J hr hg ⟨d, ⟨x, T, e, hT, ed⟩, e2, q⟩ => ?_
  subst e ed e2
  have q : ∀ μ', Q (.bl (wholeD x)) μ' := q
  refine dSs_cons <| dS_ret <| dE_and <| dE_callB (hv := Boot.«isinstance») cd_isi B.isinstance <| dA_cons <| dE_var 0 rfl rfl <| dA_cons <| dE_bty (hv := Boot.«int») (T := "int") B.int <| dA_nil ⟨_, _, _, _, _, rfl, .ty "int", tyM_of hT, kitInt hT, mk_B ?_⟩
  refine iteB (fun z => ?_) (fun z => ?_)
  · refine dE_one <| dE_not <| dE_callB (hv := Boot.«isinstance») cd_isi B.isinstance <| dA_cons <| dE_var 0 rfl rfl <| dA_cons <| dE_bty (hv := Boot.«bool») (T := "bool") B.bool <| dA_nil ⟨_, _, _, _, _, rfl, .ty "bool", tyM_of hT, kitBool hT, mk_B ?_⟩
    have e : wholeD x = !blB x := by cases x <;> simp [intB] at z <;> rfl
    rw [← e]
    exact q _
  · have e : wholeD x = false := by cases x <;> simp [intB] at z <;> rfl
    rw [e] at q
    exact q _
/-- a tuple of so many -/
def tupOf (n : Int) : Dt → Bool
  | .tup xs => (xs.length : Int) == n
  | _ => false
def Vtupof : List Dt → Dt → Prop := fun ds d => ∃ x T n, ds = [x, .int n] ∧ tyS x = some T ∧ (itemsD x).length ≤ sizeLine ∧ d = .bl (tupOf n x)
abbrev sTupof : Stmt := tp 13
theorem scTupof : FnScope ["value", "many"] ["value", "many"] (defScope sTupof) := ⟨rfl, rfl, rfl, by decide +kernel, rfl, by decide +kernel, by decide +kernel⟩
abbrev nmTupof : List Str := ["value", "many"]
theorem ndTupof : (nmTupof : List Str).Nodup := by decide +kernel
theorem okTupof {f : Addr} {fd : FuncData} (F : Fun K "is_tuple_of" "is_tuple_of" sTupof f fd) (B : Bi mg) : FnG P w K mg base 1 f fd ["value", "many"] (rP Vtupof) := by
  refine FnG.of F scTupof (rP_len fun ds d ⟨x, T, n, e, _⟩ => by rw [e]; rfl) fun cdv A outer s H E ds μ Q J hr hg ⟨d, ⟨x, T, n, e, hT, hz, ed⟩, e2, q⟩ => ?_
  subst e ed e2
  refine dSs_cons <| dS_ret <| dE_and <| dE_callB (hv := Boot.«isinstance») cd_isi B.isinstance <| dA_cons <| dE_var 0 rfl rfl <| dA_cons <| dE_bty (hv := Boot.«tuple») (T := "tuple") B.tuple <| dA_nil ⟨_, _, _, _, _, rfl, .ty "tuple", tyM_of hT, kitTup hT, mk_B ?_⟩
  refine iteB (fun z => ?_) (fun z => ?_)
  · obtain ⟨xs, rfl⟩ : ∃ xs, x = .tup xs := by cases x <;> simp [tupD] at z <;> exact ⟨_, rfl⟩
    exact dE_one <| dE_cmp od_eqF <| dE_callB (hv := Boot.«len») cd_len B.len <| dA_cons <| dE_var 0 rfl rfl <| dA_nil ⟨_, _, rfl, rfl, dE_var 1 rfl rfl ⟨_, rfl, q _⟩⟩
  · have e : tupOf n x = false := by cases x <;> simp [tupD] at z <;> rfl
    rw [e] at q
    exact q _
def cpD : Dt → Dt
  | .lst xs => .tup xs
  | d => d
theorem cp_mf {d : Dt} (h : d.mf = true) : (cpD d).mf = true := by cases d <;> exact h
end
end Law

/-! W3: in_tuples. -/
namespace Law
open PySem PySem.Spec PyProof.Rows L2 DL
local macro_rules | `(tactic| walk_at "sd") => `(tactic| first | assumption | decide | exact Or.inr (by decide) | exact Or.inl (by decide) | exact ⟨by decide, by decide⟩ | exact ⟨by decide, by decide, by decide⟩ | omega | exact ⟨by omega, by omega⟩)
local macro_rules | `(tactic| walk_at "lz") => `(tactic| first | exact pen_len | (rw [sizeLine_eq]; simp; done) | (rw [sizeLine_eq]; simp; omega))
section
variable {P : Program} {w : World} {K : PySem.W.Frag} {mg : Str → Option Value} {base : Heap}
mutual
def inT : Dt → Dt
  | .lst xs => .tup (inTs xs)
  | .tup xs => .tup (inTs xs)
  | d => d
def inTs : List Dt → List Dt
  | [] => []
  | x :: r => inT x :: inTs r
end
theorem inTs_map : ∀ xs, inTs xs = xs.map inT
  | [] => rfl
  | x :: r => by rw [inTs, inTs_map r]; rfl
/-- plain trees of at most that depth -/
def plN : Nat → Dt → Bool
  | _, .non | _, .bl _ | _, .int _ | _, .str _ => true
  | n + 1, .lst xs | n + 1, .tup xs => decide (xs.length ≤ 1000) && xs.all (plN n)
  | _, _ => false
theorem plN_ty {n : Nat} {d : Dt} (h : plN n d = true) : ∃ T, tyS d = some T := by
  cases d <;> first | exact ⟨_, rfl⟩ | (cases n <;> simp [plN] at h)
theorem plN_mf : ∀ {n : Nat} {d : Dt}, plN n d = true → d.mf = true
  | _, .non, _ | _, .bl _, _ | _, .int _, _ | _, .str _, _ => rfl
  | 0, .lst _, h | 0, .tup _, h => by simp [plN] at h
  | n + 1, .lst xs, h | n + 1, .tup xs, h => by
    simp only [plN, Bool.and_eq_true, List.all_eq_true] at h
    simp only [Dt.mf, mfs_all, List.all_eq_true]
    exact fun x hx => plN_mf (h.2 x hx)
  | n, .obj _ _, h | n, .exc _ _, h | n, .dic _, h | n, .val _, h | n, .mut _, h | n, .cau _ _ _, h | n, .clo _ _, h => by cases n <;> simp [plN] at h
theorem inT_plN : ∀ {n : Nat} {d : Dt}, plN n d = true → plN n (inT d) = true
  | _, .non, _ | _, .bl _, _ | _, .int _, _ | _, .str _, _ => by simp [inT, plN]
  | 0, .lst _, h | 0, .tup _, h => by simp [plN] at h
  | n + 1, .lst xs, h | n + 1, .tup xs, h => by
    simp only [plN, Bool.and_eq_true, List.all_eq_true] at h
    simp only [inT, inTs_map, plN, Bool.and_eq_true, List.length_map, List.all_eq_true]
    refine ⟨h.1, fun x hx => ?_⟩
    obtain ⟨y, hy, rfl⟩ := List.mem_map.mp hx
    exact inT_plN (h.2 y hy)
  | n, .obj _ _, h | n, .exc _ _, h | n, .dic _, h | n, .val _, h | n, .mut _, h | n, .cau _ _ _, h | n, .clo _ _, h => by cases n <;> simp [plN] at h
theorem plN_mono : ∀ {n : Nat} {d : Dt}, plN n d = true → plN (n + 1) d = true
  | _, .non, _ | _, .bl _, _ | _, .int _, _ | _, .str _, _ => by simp [plN]
  | 0, .lst _, h | 0, .tup _, h => by simp [plN] at h
  | n + 1, .lst xs, h | n + 1, .tup xs, h => by
    simp only [plN, Bool.and_eq_true, List.all_eq_true] at h
    rw [plN]
    simp only [Bool.and_eq_true, List.all_eq_true]
    exact ⟨h.1, fun x hx => plN_mono (h.2 x hx)⟩
  | n, .obj _ _, h | n, .exc _ _, h | n, .dic _, h | n, .val _, h | n, .mut _, h | n, .cau _ _ _, h | n, .clo _ _, h => by cases n <;> simp [plN] at h
def VinT (n : Nat) : List Dt → Dt → Prop := fun ds d => ∃ x, ds = [x] ∧ plN n x = true ∧ d = inT x
abbrev sInT : Stmt := tp 12
theorem scInT : FnScope ["value", "item"] ["value"] (defScope sInT) := ⟨rfl, rfl, rfl, by decide +kernel, rfl, by decide +kernel, by decide +kernel⟩
abbrev nmInT : List Str := ["value", "item"]
theorem ndInT : (nmInT : List Str).Nodup := by decide +kernel
theorem okInT {f : Addr} {fd : FuncData} (F : Fun K "in_tuples" "in_tuples" sInT f fd) (B : Bi mg) (g1 : mg "in_tuples" = some (.ref f)) (g2 : PySem.W.keepIn K (.ref f) = true) (g3 : Binds K fd ["value"] []) : ∀ n : Nat, FnG P w K mg base (n + 1) f fd ["value"] (rP (VinT n)) := by
  intro n
  induction n with
  | zero =>
    refine FnG.of F scInT (rP_len fun ds d ⟨x, e, _⟩ => by rw [e]; rfl) fun cdv A outer s H E ds μ Q J hr hg ⟨d, ⟨x, e, hp, ed⟩, e2, q⟩ => ?_
    subst e ed e2
    obtain ⟨T, hT⟩ := plN_ty hp
    have hs : seqD x = false := by cases x <;> first | rfl | simp [plN] at hp
    have e : inT x = x := by cases x <;> first | rfl | simp [seqD] at hs
    rw [e] at q
    refine dSs_cons <| dS_if <| dT_not <| dT_val <| dE_callB (hv := Boot.«isinstance») cd_isT B.isinstance <| dA_cons <| dE_var 0 rfl rfl <| dA_cons <| dE_tup <| dA_cons <| dE_bty (hv := Boot.«tuple») (T := "tuple") B.tuple <| dA_cons <| dE_bty (hv := Boot.«list») (T := "list") B.list <| dA_nil ⟨by walk_at "lz", dA_nil ⟨x, [.ty "tuple", .ty "list"], _, [.type "tuple", .type "list"], seqD x, rfl, .cons (.ty _) (.cons (.ty _) .nil), tyM_of hT, ty_ne hT, kit2 hT, mk_B ?_⟩⟩
    rw [hs]
    exact dSs_cons <| dS_ret <| dE_var 0 rfl rfl (q _)
  | succ m ih =>
    have self : DefP P w K mg base (m + 1) "in_tuples" ["value"] (rP (VinT m)) := ⟨_, _, ih, g1, g2, g3⟩
    refine FnG.of F scInT (rP_len fun ds d ⟨x, e, _⟩ => by rw [e]; rfl) fun cdv A outer s H E ds μ Q J hr hg ⟨d, ⟨x, e, hp, ed⟩, e2, q⟩ => ?_
    subst e ed e2
    obtain ⟨T, hT⟩ := plN_ty hp
    refine dSs_cons <| dS_if <| dT_not <| dT_val <| dE_callB (hv := Boot.«isinstance») cd_isT B.isinstance <| dA_cons <| dE_var 0 rfl rfl <| dA_cons <| dE_tup <| dA_cons <| dE_bty (hv := Boot.«tuple») (T := "tuple") B.tuple <| dA_cons <| dE_bty (hv := Boot.«list») (T := "list") B.list <| dA_nil ⟨by walk_at "lz", dA_nil ⟨x, [.ty "tuple", .ty "list"], _, [.type "tuple", .type "list"], seqD x, rfl, .cons (.ty _) (.cons (.ty _) .nil), tyM_of hT, ty_ne hT, kit2 hT, mk_B ?_⟩⟩
    cases hs : seqD x with
    | false =>
      have e : inT x = x := by cases x <;> first | rfl | simp [seqD] at hs
      rw [e] at q
      exact dSs_cons <| dS_ret <| dE_var 0 rfl rfl (q _)
    | true =>
      have hi : (itemsD x).length ≤ 1000 ∧ ∀ y ∈ itemsD x, plN m y = true := by
        cases x <;> simp [seqD] at hs <;> simpa [plN, itemsD] using hp
      have e : inT x = .tup ((itemsD x).map inT) := by
        cases x <;> simp [seqD] at hs <;> simp [inT, inTs_map, itemsD]
      rw [e] at q
      have hsq := fun μ => (seq_items hs μ).1
      refine dSs_nil <| dSs_cons <| dS_ret <| dE_callTy (hv := Boot.«tuple») cd_tuple B.tuple <| dA_cons <| dE_lcG [("item", 1)] (fun y : Dt => y) inT rfl ndInT (blkOk_by (by show blkC (nmInT : List Str) (defScope sInT) _ _ = true; decide +kernel)) <| dI_seq <| dE_var 0 rfl rfl ⟨_, hsq _, hsq _, itemsD x, (List.map_id _).symm, by rw [sizeLine_eq]; omega, fun z hz s1 H1 C1 cl1 fp1 => dGv_name 1 ndInT rfl ⟨rfl, fun s3 H3 C3 cl3 fp3 => ?_⟩, dA_nil ⟨_, _, rfl, rfl, q _⟩⟩
      have hz' := hi.2 z hz
      exact dE_go self hr hg <| dA_cons <| dE_var 1 rfl rfl <| dA_nil <| mk_fn (by simp [mfs, plN_mf hz']) (plN_mf (inT_plN hz')) ⟨z, rfl, hz', rfl⟩ ⟨rfl, rfl⟩
end
end Law

/-! W4: webs. -/
namespace Law
open PySem PySem.Spec PyProof.Rows L2 DL
local macro_rules | `(tactic| walk_at "sd") => `(tactic| first | assumption | decide | exact Or.inr (by decide) | exact Or.inl (by decide) | exact ⟨by decide, by decide⟩ | exact ⟨by decide, by decide, by decide⟩ | omega | exact ⟨by omega, by omega⟩)
local macro_rules | `(tactic| walk_at "lz") => `(tactic| first | exact pen_len | (rw [sizeLine_eq]; simp; done) | (rw [sizeLine_eq]; simp; omega))
section
variable {P : Program} {w : World} {K : PySem.W.Frag} {mg : Str → Option Value} {base : Heap}
theorem iteY {k : Bool} {A B : Prop} (h : k = true) (a : A) : if k = true then A else B := by rw [if_pos h]; exact a
theorem iteN {k : Bool} {A B : Prop} (h : k = false) (b : B) : if k = true then A else B := by rw [h]; exact b
/-! ### defs that may raise -/
abbrev Res := Dt ⊕ (Addr × List (Str × Dt))
def rR (V : List Dt → Res → Prop) : Spc := fun ds μ Q J => μ = [] ∧ ((∃ d, V ds (.inl d) ∧ ∀ μ', Q d μ') ∨ ∃ C fs, V ds (.inr (C, fs)) ∧ ∀ μ', J C fs μ')
theorem mk_fr {V : List Dt → Res → Prop} {J : JX} {ds : List Dt} {d : Dt} {μ : Mu} {Q : Dt → Mu → Prop} (m1 : mfs ds = true) (m2 : d.mf = true) (v : V ds (.inl d)) (q : Q d μ) : CallsD (rR V) J ds μ Q :=
  mk_call0 m1 ⟨rfl, .inl ⟨d, v, fun _ => ⟨m2, q⟩⟩⟩
theorem mk_fx {V : List Dt → Res → Prop} {J : JX} {ds : List Dt} {C : Addr} {fs : List (Str × Dt)} {μ : Mu} {Q : Dt → Mu → Prop} (m1 : mfs ds = true) (m2 : mff fs = true) (v : V ds (.inr (C, fs))) (j : J C fs μ) : CallsD (rR V) J ds μ Q :=
  mk_call0 m1 ⟨rfl, .inr ⟨C, fs, v, fun _ => ⟨m2, j⟩⟩⟩
theorem rR_len {V : List Dt → Res → Prop} {n : Nat} (h : ∀ ds r, V ds r → ds.length = n) : ∀ ds μ Q J, rR V ds μ Q J → ds.length = n := fun ds _ _ _ ⟨_, z⟩ => by
  rcases z with ⟨d, v, _⟩ | ⟨C, fs, v, _⟩
  · exact h _ _ v
  · exact h _ _ v
/-! ### data of webs -/
def lotD (l : List Int) : Dt := .tup (l.map .int)
def tiesD (l : List (Int × Int)) : Dt := .tup (l.map prDt)
def webD (C : Addr) (n : Int) (ts : List (Int × Int)) : Dt := .obj C [("size", .int n), ("ties", tiesD ts)]
theorem int_mf (i : Int) : (Dt.int i).mf = true := rfl
theorem pr_mf (p : Int × Int) : (prDt p).mf = true := rfl
theorem lot_mf (l : List Int) : (lotD l).mf = true := mf_tup int_mf l
theorem ties_mf (l : List (Int × Int)) : (tiesD l).mf = true := mf_tup pr_mf l
theorem web_mf (C : Addr) (n : Int) (ts : List (Int × Int)) : (webD C n ts).mf = true := by
  show ((Dt.int n).mf && ((tiesD ts).mf && true)) = true
  rw [int_mf, ties_mf]
  rfl
local macro_rules | `(tactic| walk_at "mf") => `(tactic| (simp only [mfs, mff, int_mf, pr_mf, lot_mf, ties_mf, web_mf, Dt.mf, Bool.and_true, Bool.true_and, Bool.and_self]))
/-! ### an own class -/
structure OwnC (K : PySem.W.Frag) (C : Addr) : Prop where
  cl : Cls K C
  ha : PySem.W.findIn K (.ref C) "__class__" = some (some (.builtin "object.__class__"))
  hn : PySem.W.specialIn K (.builtin "object.__class__") "__get__" = some (some (.builtin "getset_descriptor.__get__"))
  htk : PySem.W.takesIn K (.builtin "object.__class__") = some true
  hm : PySem.W.mroIn K C (.type "object") = some true
  no : ∀ T ∈ ["NoneType", "bool", "int", "str", "list", "tuple", "dict"], PySem.W.kitOne K (.type T) (.ref C) = some false
theorem OwnC.ty {C : Addr} (o : OwnC K C) {μ : Mu} {gs : List (Str × Dt)} : TyM K μ (.obj C gs) (.ref C) := .obj o.cl o.ha o.hn o.htk o.hm
theorem kitSelf {C : Addr} : PySem.W.kitOne K (.ref C) (.ref C) = some true := by
  unfold PySem.W.kitOne
  rw [if_pos (by simp)]
theorem OwnC.noT {C : Addr} (o : OwnC K C) {d : Dt} {T : String} (h : tyS d = some T) : PySem.W.kitOne K (.type T) (.ref C) = some false := by
  refine o.no T ?_
  cases d <;> simp only [tyS, Option.some.injEq, reduceCtorEq] at h <;> subst h <;> simp
/-! ### ties -/
def tieOk (n : Int) (p : Int × Int) : Bool := decide (0 ≤ p.1) && (decide (p.1 < p.2) && decide (p.2 < n))
def VisTie : List Dt → Dt → Prop := fun ds d => ∃ n p, ds = [.int n, prDt p] ∧ d = .bl (tieOk n p)
abbrev sIsTie : Stmt := tp 20
theorem scIsTie : FnScope ["size", "value"] ["size", "value"] (defScope sIsTie) := ⟨rfl, rfl, rfl, by decide +kernel, rfl, by decide +kernel, by decide +kernel⟩
abbrev nmIsTie : List Str := ["size", "value"]
theorem ndIsTie : (nmIsTie : List Str).Nodup := by decide +kernel
theorem okIsTie {f : Addr} {fd : FuncData} (F : Fun K "is_tie" "is_tie" sIsTie f fd) (f_whole : DefP P w K mg base 1 "is_whole" ["value"] (rP (V1 fun x => .bl (wholeD x)))) (f_tup : DefP P w K mg base 1 "is_tuple_of" ["value", "many"] (rP Vtupof)) : FnG P w K mg base 2 f fd ["size", "value"] (rP VisTie) := by
  refine FnG.of F scIsTie (rP_len fun ds d ⟨n, p, e, _⟩ => by rw [e]; rfl) fun cdv A outer s H E ds μ Q J hr hg ⟨d, ⟨n, p, e, ed⟩, e2, q⟩ => ?_
  subst e ed e2
  refine dSs_cons <| dS_ret <| dE_and <| dE_go f_tup hr hg <| dA_cons <| dE_var 1 rfl rfl <| dA_cons <| dE_int <| dA_nil <| mk_fn rfl rfl ⟨prDt p, "tuple", 2, rfl, rfl, by rw [sizeLine_eq]; simp [prDt, itemsD], rfl⟩ <| mk_B ?_
  refine iteY rfl <| dE_and <| dE_go f_whole hr hg <| dA_cons <| dE_idx <| dE_var 1 rfl rfl <| dE_int ⟨0, _, _, rfl, rfl, rfl, dA_nil <| mk_fn rfl rfl ⟨.int p.1, "int", rfl, rfl, rfl⟩ <| mk_B ?_⟩
  refine iteY rfl <| dE_and <| dE_go f_whole hr hg <| dA_cons <| dE_idx <| dE_var 1 rfl rfl <| dE_int ⟨1, _, _, rfl, rfl, rfl, dA_nil <| mk_fn rfl rfl ⟨.int p.2, "int", rfl, rfl, rfl⟩ <| mk_B ?_⟩
  refine iteY rfl <| dE_one <| dE_chain3 od_le od_lt od_lt <| dE_int <| dE_idx <| dE_var 1 rfl rfl <| dE_int ⟨0, _, _, rfl, rfl, rfl, mk_I0 <| mk_B ?_⟩
  unfold tieOk at q
  refine iteD (fun h1 => ?_) (fun h1 => by rw [decide_eq_false h1] at q; exact q _)
  rw [decide_eq_true h1] at q
  refine dE_idx <| dE_var 1 rfl rfl <| dE_int ⟨1, _, _, rfl, rfl, rfl, mk_I0 <| mk_B ?_⟩
  refine iteD (fun h2 => ?_) (fun h2 => by rw [decide_eq_false h2] at q; exact q _)
  rw [decide_eq_true h2] at q
  exact dE_var 0 rfl rfl <| mk_I0 <| q _
/-! ### the class -/
/-- what is handed in as ties -/
structure TiesIn (n : Int) (t : Dt) (ts : List (Int × Int)) : Prop where
  pl : plN 2 t = true
  eq : inT t = tiesD ts
  len : ts.length ≤ 40
  ok : ∀ p ∈ ts, tieOk n p = true
theorem tiesIn_tup {n : Int} {ts : List (Int × Int)} (len : ts.length ≤ 40) (ok : ∀ p ∈ ts, tieOk n p = true) : TiesIn n (tiesD ts) ts := by
  refine ⟨?_, ?_, len, ok⟩
  · simp only [tiesD, plN, Bool.and_eq_true, List.all_eq_true, List.length_map, decide_eq_true_eq]
    refine ⟨by omega, fun x hx => ?_⟩
    obtain ⟨p, _, rfl⟩ := List.mem_map.mp hx
    simp [prDt, plN]
  · simp only [tiesD, inT, inTs_map, List.map_map]
    congr 1
def rWebI (C : Addr) : Spc := fun ds μ Q _ => ∃ n t ts, ds = [.mut 0, .int n, t] ∧ 1 ≤ n ∧ n ≤ 12 ∧ TiesIn n t ts ∧ μ = [.ins C []] ∧ Q .non [.ins C [("size", .int n), ("ties", tiesD (srtP ts))]]
abbrev sWebI : Stmt := inClass (tp 19) 0
abbrev nmWebI : List Str := ["self", "size", "ties", "made", "tie"]
theorem ndWebI : (nmWebI : List Str).Nodup := by decide +kernel
theorem scWebI : FnScope nmWebI ["self", "size", "ties"] (defScope sWebI) := ⟨rfl, rfl, rfl, by decide +kernel, rfl, by decide +kernel, by decide +kernel⟩
theorem okWebI {C f : Addr} {fd : FuncData} (F : Fun K "__init__" "Web.__init__" sWebI f fd) (B : Bi mg) (o : OwnC K C) (free : ∀ y ∈ (["size", "ties"] : List Str), NoAttr K C y) {t1 t2 : Tok} (g1 : mg "MOST_SIZE" = some (.int 12 t1)) (g2 : mg "MOST_TIES" = some (.int 40 t2))
    (f_whole : DefP P w K mg base 1 "is_whole" ["value"] (rP (V1 fun x => .bl (wholeD x)))) (f_inT : DefP P w K mg base 3 "in_tuples" ["value"] (rP (VinT 2))) (f_tie : DefP P w K mg base 2 "is_tie" ["size", "value"] (rP VisTie)) : FnG P w K mg base 4 f fd ["self", "size", "ties"] (rWebI C) := by
  refine FnG.of F scWebI (fun ds μ Q J ⟨n, t, ts, e, _⟩ => by rw [e]; rfl) fun cdv A outer s H E ds μ Q J hr hg ⟨n, t, ts, e, h1, h12, ti, e2, q⟩ => ?_
  subst e e2
  refine dSs_cons <| dS_if <| dT_bool <| dW_or <| dT_not <| dT_val <| dE_go f_whole (hr.mono (by decide)) hg <| dA_cons <| dE_var 1 rfl rfl <| dA_nil <| mk_fn rfl rfl ⟨.int n, "int", rfl, rfl, rfl⟩ <| mk_B ?_
  refine dW_or1 <| dT_not <| dT_chain od_le od_le <| dE_int <| dE_var 1 rfl rfl <| mk_I0 <| mk_B ?_
  refine iteY (decide_eq_true h1) <| dE_globI g1 <| mk_I0 <| mk_B ?_
  rw [decide_eq_true h12]
  refine dSs_nil ?_
  refine dSs_cons <| dS_set 3 ndWebI rfl <| dE_go f_inT hr hg <| dA_cons <| dE_var 2 rfl rfl <| dA_nil <| mk_fn (by simp [mfs, plN_mf ti.pl]) (plN_mf (inT_plN ti.pl)) ⟨t, rfl, ti.pl, rfl⟩ ?_
  rw [ti.eq]
  refine dSs_cons <| dS_if <| dT_bool <| dW_or <| dT_not <| dT_val <| dE_callB (hv := Boot.«isinstance») cd_isi B.isinstance <| dA_cons <| dE_var 3 rfl rfl <| dA_cons <| dE_bty (hv := Boot.«tuple») (T := "tuple") B.tuple <| dA_nil ⟨_, _, _, _, _, rfl, .ty "tuple", tyM_of (d := tiesD ts) (T := "tuple") rfl, kitTup (d := tiesD ts) rfl, mk_B ?_⟩
  refine dW_or <| dT_cmp od_gt <| dE_callB (hv := Boot.«len») cd_len B.len <| dA_cons <| dE_var 3 rfl rfl <| dA_nil ⟨_, ts.length, rfl, by simp [lenM, seqM, tiesD], dE_globI g2 <| mk_I0 <| mk_B ?_⟩
  have hl := ti.len
  rw [decide_eq_false (show ¬ ((40 : Int) < (ts.length : Int)) by omega)]
  refine dW_or1 <| dT_not <| dT_val <| dE_callB (hv := Boot.«all») (cd_all rfl) B.all <| dA_cons <| dE_lcG [("tie", 4)] prDt (fun _ => .bl true) rfl ndWebI (blkOk_by (by show blkC (nmWebI : List Str) (defScope sWebI) _ _ = true; decide +kernel)) <| dI_seq <| dE_var 3 rfl rfl ⟨_, rfl, rfl, ts, rfl, by rw [sizeLine_eq]; omega, fun p hp s1 H1 C1 cl1 fp1 => dGv_name 4 ndWebI rfl ⟨rfl, fun s3 H3 C3 cl3 fp3 => ?_⟩, dA_nil ⟨ts.map fun _ => true, by rw [List.map_map]; rfl, mk_B ?_⟩⟩
  · refine dE_go f_tie (hr.mono (by decide)) hg <| dA_cons <| dE_var 1 rfl rfl <| dA_cons <| dE_var 4 rfl rfl <| dA_nil <| mk_fn rfl rfl ⟨n, p, rfl, rfl⟩ ⟨?_, rfl⟩
    rw [ti.ok p hp]
  have ea : (ts.map fun _ => true).all id = true := by simp
  rw [ea]
  refine dSs_nil ?_
  refine dSs_cons <| dS_fldM <| dE_var 1 rfl rfl <| dE_var 0 rfl rfl ⟨0, C, _, rfl, rfl, o.cl, free _ (by simp), by simp, ?_⟩
  show dSs _ _ _ [some (.mut 0), some (.int n), some t, some (tiesD ts), none] [.ins C [("size", .int n)]] _
  refine dSs_cons <| dS_fldM <| dE_callTy (hv := Boot.«tuple») cd_tuple B.tuple <| dA_cons <| dE_callB (hv := Boot.«sorted») cd_sortedPT B.sorted <| dA_cons <| dE_var 3 rfl rfl <| dA_nil ⟨ts, rfl, by rw [sizeLine_eq]; omega, dA_nil ⟨_, _, rfl, rfl, dE_var 0 rfl rfl ⟨0, C, _, rfl, rfl, o.cl, free _ (by simp), by simp, ?_⟩⟩⟩
  show dSs _ _ _ [some (.mut 0), some (.int n), some t, some (tiesD ts), none] [.ins C [("size", .int n), ("ties", tiesD (srtP ts))]] _
  exact dSs_nil q
end
end Law

/-! W10: lots, cuts, sides. -/
namespace Law
open PySem PySem.Spec PyProof.Rows L2 DL
local macro_rules | `(tactic| walk_at "sd") => `(tactic| first | assumption | decide | exact Or.inr (by decide) | exact Or.inl (by decide) | exact ⟨by decide, by decide⟩ | exact ⟨by decide, by decide, by decide⟩ | omega | exact ⟨by omega, by omega⟩)
local macro_rules | `(tactic| walk_at "lz") => `(tactic| first | exact pen_len | (rw [sizeLine_eq]; simp; done) | (rw [sizeLine_eq]; simp; omega))
section
variable {P : Program} {w : World} {K : PySem.W.Frag} {mg : Str → Option Value} {base : Heap}
local macro_rules | `(tactic| walk_at "mf") => `(tactic| (simp only [mfs, mff, int_mf, pr_mf, lot_mf, ties_mf, web_mf, Dt.mf, Bool.and_true, Bool.true_and, Bool.and_self]))
local macro_rules | `(tactic| walk_at "lz") => `(tactic| first | exact pen_len | (rw [sizeLine_eq]; simp; done) | (rw [sizeLine_eq]; simp; omega) | (rw [sizeLine_eq]; omega))
/-- the class of webs -/
structure WebK (K : PySem.W.Frag) (mg : Str → Option Value) (CW : Addr) : Prop where
  own : OwnC K CW
  g : mg "Web" = some (.ref CW)
  free : ∀ y ∈ (["size", "ties"] : List Str), NoAttr K CW y
def VneedW (CW CU : Addr) : List Dt → Res → Prop := fun ds r => ∃ x, ds = [x] ∧ ((∃ gs, x = .obj CW gs) ∧ r = .inl .non ∨ (∃ T, tyS x = some T) ∧ r = .inr (CU, erF ["what"] [.str "web"]))
abbrev sNeedW : Stmt := tp 22
theorem scNeedW : FnScope ["web"] ["web"] (defScope sNeedW) := ⟨rfl, rfl, rfl, by decide +kernel, rfl, by decide +kernel, by decide +kernel⟩
abbrev nmNeedW : List Str := ["web"]
theorem ndNeedW : (nmNeedW : List Str).Nodup := by decide +kernel
theorem okNeedW {CW CU : Addr} {f : Addr} {fd : FuncData} (F : Fun K "need_web" "need_web" sNeedW f fd) (B : Bi mg) (W : WebK K mg CW) (Er : ErK P w K mg base CU ["what"]) (gU : mg "Unlike" = some (.ref CU)) : FnG P w K mg base 3 f fd ["web"] (rR (VneedW CW CU)) := by
  refine FnG.of F scNeedW (rR_len fun ds r ⟨x, e, _⟩ => by rw [e]; rfl) fun cdv A outer s H E ds μ Q J hr hg ⟨e2, z⟩ => ?_
  subst e2
  have go : ∀ x t r, TyM K [] x t → PySem.W.kitOne K t (.ref CW) = some r → (r = true → Q .non []) → (r = false → J CU (erF ["what"] [.str "web"]) []) →
      dSs (cxOf (L2.CX P w) P w K mg base nmNeedW "need_web" (defScope sNeedW) f cdv A outer s H E) J (defBody sNeedW) [some x] [] { nx := fun _ μ' => Q .non μ', rt := Q } := fun x t r ht hk q j => by
    refine dSs_cons <| dS_if <| dT_not <| dT_val <| dE_callB (hv := Boot.«isinstance») cd_isi B.isinstance <| dA_cons <| dE_var 0 rfl rfl <| dA_cons <| dE_glob W.g (v := .ref CW) rfl <| dA_nil ⟨_, _, _, _, _, rfl, .own CW, ht, hk, mk_B ?_⟩
    cases r with
    | true => exact dSs_nil <| dSs_nil <| q rfl
    | false => exact dSs_cons <| dS_raiseE rfl Er hr gU (by simp) <| dA_cons <| dE_str <| dA_nil ⟨rfl, j rfl⟩
  rcases z with ⟨d, ⟨x, e, ⟨⟨gs, rfl⟩, ed⟩ | ⟨_, ed⟩⟩, q⟩ | ⟨C, fs, ⟨x, e, ⟨_, ed⟩ | ⟨⟨T, hT⟩, ed⟩⟩, j⟩
  · subst e
    cases ed
    exact go _ _ _ W.own.ty kitSelf (fun _ => q _) (fun z => by cases z)
  · cases ed
  · cases ed
  · subst e
    cases ed
    exact go _ _ _ (tyM_of hT) (W.own.noT hT) (fun z => by cases z) (fun _ => j _)
/-! ### lots -/
def intOf : Dt → Int
  | .int i => i
  | _ => 0
def inR (m : Int) : Dt → Bool
  | .int i => decide (0 ≤ i) && decide (i < m)
  | _ => false
def ascI (l : List Int) : Bool := (List.range (l.length - 1)).all fun k => decide (l.getD k 0 < l.getD (k + 1) 0)
def lotB (m : Int) : Dt → Bool
  | .tup xs => xs.all (inR m) && ascI (xs.map intOf)
  | _ => false
/-- a plain value of plain items -/
structure Pl1 (x : Dt) : Prop where
  ty : ∃ T, tyS x = some T
  it : ∀ y ∈ itemsD x, ∃ T, tyS y = some T
  len : (itemsD x).length ≤ 1000
  mf : x.mf = true
theorem pl1_lot {l : List Int} (h : l.length ≤ 1000) : Pl1 (lotD l) := by
  refine ⟨⟨_, rfl⟩, fun y hy => ?_, by simpa [lotD, itemsD] using h, lot_mf l⟩
  simp only [lotD, itemsD, List.mem_map] at hy
  obtain ⟨i, _, rfl⟩ := hy
  exact ⟨_, rfl⟩
theorem all_int {m : Int} {xs : List Dt} (h : xs.all (inR m) = true) : xs = (xs.map intOf).map .int := by
  rw [List.map_map]
  refine (List.map_id xs).symm.trans (List.map_congr_left fun x hx => ?_)
  have := List.all_eq_true.mp h x hx
  cases x <;> simp [inR] at this <;> rfl
def VisLot : List Dt → Dt → Prop := fun ds d => ∃ m x, ds = [.int m, x] ∧ Pl1 x ∧ d = .bl (lotB m x)
theorem items_mf {x y : Dt} (h : x.mf = true) (hy : y ∈ itemsD x) : y.mf = true := by
  cases x <;> simp only [itemsD, List.not_mem_nil] at hy
  · simp only [Dt.mf, mfs_all, List.all_eq_true] at h
    exact h y hy
  · simp only [Dt.mf, mfs_all, List.all_eq_true] at h
    exact h y hy
theorem rng0 (n : Nat) : rng 0 ((n : Int)).toNat = (List.range n).map fun (k : Nat) => Dt.int (0 + (k : Int)) := by simp [rng]
theorem atI_ints {l : List Int} {k : Nat} (h : k < l.length) : atI (l.map Dt.int) (0 + (k : Int)) = some (.int (l.getD k 0)) := by
  have hk : (0 + (k : Int)).toNat < (l.map Dt.int).length := by rw [List.length_map]; omega
  rw [atI_get (by omega) hk]
  simp [List.getD_eq_getElem?_getD, List.getElem?_eq_getElem h]
end
end Law

/-! W11: cuts and sides. -/
namespace Law
open PySem PySem.Spec PyProof.Rows L2 DL
local macro_rules | `(tactic| walk_at "sd") => `(tactic| first | assumption | decide | exact Or.inr (by decide) | exact Or.inl (by decide) | exact ⟨by decide, by decide⟩ | exact ⟨by decide, by decide, by decide⟩ | omega | exact ⟨by omega, by omega⟩)
local macro_rules | `(tactic| walk_at "lz") => `(tactic| first | exact pen_len | (rw [sizeLine_eq]; simp; done) | (rw [sizeLine_eq]; simp; omega))
section
variable {P : Program} {w : World} {K : PySem.W.Frag} {mg : Str → Option Value} {base : Heap}
local macro_rules | `(tactic| walk_at "mf") => `(tactic| (simp only [mfs, mff, int_mf, pr_mf, lot_mf, ties_mf, web_mf, Dt.mf, Bool.and_true, Bool.true_and, Bool.and_self]))
local macro_rules | `(tactic| walk_at "lz") => `(tactic| first | exact pen_len | (rw [sizeLine_eq]; simp; done) | (rw [sizeLine_eq]; simp; omega) | (rw [sizeLine_eq]; omega))
def crossB (ts : List (Int × Int)) (s : List Int) (k : Nat) : Bool := s.contains (ts.getD k (0, 0)).1 != s.contains (ts.getD k (0, 0)).2
def cutI (ts : List (Int × Int)) (s : List Int) : List Int := ((List.range ts.length).filter (crossB ts s)).map fun (k : Nat) => 0 + (k : Int)
theorem atI_ties {l : List (Int × Int)} {k : Nat} (h : k < l.length) : atI (l.map prDt) (0 + (k : Int)) = some (prDt (l.getD k (0, 0))) := by
  have hk : (0 + (k : Int)).toNat < (l.map prDt).length := by rw [List.length_map]; omega
  rw [atI_get (by omega) hk]
  simp [List.getD_eq_getElem?_getD, List.getElem?_eq_getElem h]
theorem cut_map (ts : List (Int × Int)) (s : List Int) : (((List.range ts.length).filter (crossB ts s)).map fun (k : Nat) => Dt.int (0 + (k : Int))) = (cutI ts s).map .int := by
  rw [cutI, List.map_map]
  rfl
def VcutBy (CW : Addr) : List Dt → Dt → Prop := fun ds d => ∃ n ts s, ds = [webD CW n ts, lotD s] ∧ ts.length ≤ 40 ∧ d = lotD (cutI ts s)
def Vlcut : List Dt → Dt → Prop := fun ds d => ∃ ts s, ds = [tiesD ts, lotD s] ∧ ts.length ≤ 40 ∧ d = lotD (cutI ts s)
/-! ### sides -/
def bitB (num : Int) (k : Nat) : Bool := Builtin.bitAnd (num / 2 ^ k) 1 == 1
def bitsI (m : Nat) (off num : Int) : List Int := ((List.range m).filter (bitB num)).map fun (k : Nat) => 0 + (k : Int) + off
theorem lots_mf (l : List (List Int)) : (Dt.lst (l.map lotD)).mf = true := mf_lst lot_mf l
def sidesI (n : Int) : List (List Int) := (List.range (2 ^ (n - 1).toNat - 1)).map fun (i : Nat) => bitsI (n - 1).toNat 1 (1 + (i : Int))
def Vsides : List Dt → Dt → Prop := fun ds d => ∃ n : Int, ds = [.int n] ∧ 1 ≤ n ∧ n ≤ 12 ∧ d = .lst ((sidesI n).map lotD)
theorem bits_map1 (m : Nat) (num : Int) : (((List.range m).filter (bitB num)).map fun (k : Nat) => Dt.int (0 + (k : Int) + 1)) = (bitsI m 1 num).map .int := by
  rw [bitsI, List.map_map]
  rfl
theorem bits_map0 (m : Nat) (num : Int) : (((List.range m).filter (bitB num)).map fun (k : Nat) => Dt.int (0 + (k : Int))) = (bitsI m 0 num).map .int := by
  rw [bitsI, List.map_map]
  exact List.map_congr_left fun k _ => by simp
theorem pow_le12 {m : Nat} (h : m ≤ 12) : 2 ^ m ≤ 4096 := Nat.le_trans (Nat.pow_le_pow_right (by omega) h) (by decide)
theorem shl1 (m : Nat) : (1 : Int) * 2 ^ m = ((2 ^ m : Nat) : Int) := by simp
def lotsI (n : Int) : List (List Int) := (List.range (2 ^ n.toNat)).map fun (i : Nat) => bitsI n.toNat 0 (0 + (i : Int))
def Vlots : List Dt → Dt → Prop := fun ds d => ∃ n : Int, ds = [.int n] ∧ 1 ≤ n ∧ n ≤ 12 ∧ d = .lst ((lotsI n).map lotD)
end
end Law

/-! W20: ties of known webs. -/
namespace Law
open PySem PySem.Spec PyProof.Rows L2 DL
local macro_rules | `(tactic| walk_at "sd") => `(tactic| first | assumption | decide | exact Or.inr (by decide) | exact Or.inl (by decide) | exact ⟨by decide, by decide⟩ | exact ⟨by decide, by decide, by decide⟩ | omega | exact ⟨by omega, by omega⟩)
local macro_rules | `(tactic| walk_at "lz") => `(tactic| first | exact pen_len | (rw [sizeLine_eq]; simp; done) | (rw [sizeLine_eq]; simp; omega))
section
variable {P : Program} {w : World} {K : PySem.W.Frag} {mg : Str → Option Value} {base : Heap}
local macro_rules | `(tactic| walk_at "lz") => `(tactic| first | exact pen_len | (rw [sizeLine_eq]; simp; done) | (rw [sizeLine_eq]; simp; omega) | (rw [sizeLine_eq]; omega))
theorem rng1 (lo : Int) (n : Nat) : rng lo n = (List.range n).map fun (k : Nat) => Dt.int (lo + (k : Int)) := rfl
theorem flat_len {α β : Type} {f : α → List β} {c : Nat} : ∀ {l : List α}, (∀ x ∈ l, (f x).length ≤ c) → (l.flatMap f).length ≤ l.length * c
  | [], _ => by simp
  | x :: r, h => by
    have h1 := h x List.mem_cons_self
    have h2 := flat_len (l := r) fun y hy => h y (List.mem_cons_of_mem _ hy)
    rw [List.flatMap_cons, List.length_append, List.length_cons, Nat.succ_mul]
    omega
def tiesOf (n : Int) (f : Nat → Int × Int) : List (Int × Int) := (List.range n.toNat).map f
theorem tiesOf_map (n : Int) (f : Nat → Int × Int) : ((List.range n.toNat).map fun k => prDt (f k)) = (tiesOf n f).map prDt := by rw [tiesOf, List.map_map]; rfl
theorem tiesOf_len (n : Int) (f : Nat → Int × Int) : (tiesOf n f).length = n.toNat := by simp [tiesOf]
def ringI (n : Int) : List (Int × Int) := srtP (tiesOf (n - 1) (fun (k : Nat) => (0 + (k : Int), 0 + (k : Int) + 1)) ++ [(0, n - 1)])
theorem ring_len {n : Int} (h1 : 1 ≤ n) : (ringI n).length = n.toNat := by
  rw [ringI, (srtP_perm _).length_eq, List.length_append, tiesOf_len]
  simp
  omega
def Vring : List Dt → Dt → Prop := fun ds d => ∃ n : Int, ds = [.int n] ∧ 1 ≤ n ∧ n ≤ 12 ∧ d = tiesD (ringI n)
def wheelI (n : Int) : List (Int × Int) := srtP (ringI n ++ tiesOf n (fun (k : Nat) => (0 + (k : Int), n)))
def Vwheel : List Dt → Dt → Prop := fun ds d => ∃ n : Int, ds = [.int n] ∧ 1 ≤ n ∧ n ≤ 12 ∧ d = tiesD (wheelI n)
def fullP (n : Int) (k : Nat) : List (Int × Int) := (List.range k).flatMap fun (i : Nat) => tiesOf (n - (0 + (i : Int) + 1)) fun (j : Nat) => (0 + (i : Int), 0 + (i : Int) + 1 + (j : Int))
def Vfull : List Dt → Dt → Prop := fun ds d => ∃ n : Int, ds = [.int n] ∧ 1 ≤ n ∧ n ≤ 12 ∧ d = tiesD (fullP n n.toNat)
theorem full_len {n : Int} {k : Nat} (h : n ≤ 12) : (fullP n k).length ≤ k * 12 := by
  have := flat_len (f := fun (i : Nat) => tiesOf (n - (0 + (i : Int) + 1)) fun (j : Nat) => (0 + (i : Int), 0 + (i : Int) + 1 + (j : Int))) (l := List.range k) (c := 12) fun x _ => by rw [tiesOf_len]; omega
  rwa [List.length_range] at this
def twoP (a b : Int) (k : Nat) : List (Int × Int) := (List.range k).flatMap fun (i : Nat) => tiesOf b fun (j : Nat) => (0 + (i : Int), a + (0 + (j : Int)))
def Vtwo : List Dt → Dt → Prop := fun ds d => ∃ a b : Int, ds = [.int a, .int b] ∧ 1 ≤ a ∧ a ≤ 12 ∧ 1 ≤ b ∧ b ≤ 12 ∧ d = tiesD (twoP a b a.toNat)
theorem two_len {a b : Int} {k : Nat} (h : b ≤ 12) : (twoP a b k).length ≤ k * 12 := by
  have := flat_len (f := fun (i : Nat) => tiesOf b fun (j : Nat) => (0 + (i : Int), a + (0 + (j : Int)))) (l := List.range k) (c := 12) fun x _ => by rw [tiesOf_len]; omega
  rwa [List.length_range] at this
def gridS (a b : Int) (i : Nat) : List (Int × Int) := tiesOf (b - 1) (fun (j : Nat) => ((0 + (i : Int)) * b + (0 + (j : Int)), (0 + (i : Int)) * b + (0 + (j : Int)) + 1)) ++ tiesOf (if (0 + (i : Int)) < a - 1 then b else 0) (fun (j : Nat) => ((0 + (i : Int)) * b + (0 + (j : Int)), (0 + (i : Int)) * b + b + (0 + (j : Int))))
def gridP (a b : Int) (k : Nat) : List (Int × Int) := (List.range k).flatMap (gridS a b)
def Vgrid : List Dt → Dt → Prop := fun ds d => ∃ a b : Int, ds = [.int a, .int b] ∧ 1 ≤ a ∧ a ≤ 12 ∧ 1 ≤ b ∧ b ≤ 12 ∧ d = tiesD (srtP (gridP a b a.toNat))
theorem grid_len {a b : Int} {k : Nat} (h : b ≤ 12) : (gridP a b k).length ≤ k * 24 := by
  have := flat_len (f := gridS a b) (l := List.range k) (c := 24) fun x _ => by
    rw [gridS, List.length_append, tiesOf_len, tiesOf_len]
    split <;> omega
  rwa [List.length_range] at this
end
end Law

/-! W60: webs made of any ties; numbers between. -/
namespace Law
open PySem PySem.Spec PyProof.Rows L2 DL
local macro_rules | `(tactic| walk_at "sd") => `(tactic| first | assumption | decide | exact Or.inr (by decide) | exact Or.inl (by decide) | exact ⟨by decide, by decide⟩ | exact ⟨by decide, by decide, by decide⟩ | omega | exact ⟨by omega, by omega⟩)
local macro_rules | `(tactic| walk_at "lz") => `(tactic| first | exact pen_len | (rw [sizeLine_eq]; simp; done) | (rw [sizeLine_eq]; simp; omega))
section
variable {P : Program} {w : World} {K : PySem.W.Frag} {mg : Str → Option Value} {base : Heap}
local macro_rules | `(tactic| walk_at "lz") => `(tactic| first | exact pen_len | (rw [sizeLine_eq]; simp; done) | (rw [sizeLine_eq]; simp; omega) | (rw [sizeLine_eq]; omega))
theorem mfs2 {a b : Dt} (h : a.mf = true) (h2 : b.mf = true) : mfs [a, b] = true := by simp [mfs, h, h2]
theorem mfs1 {a : Dt} (h : a.mf = true) : mfs [a] = true := by simp [mfs, h]
theorem mfs3 {a b c : Dt} (h : a.mf = true) (h2 : b.mf = true) (h3 : c.mf = true) : mfs [a, b, c] = true := by simp [mfs, h, h2, h3]
theorem mfs4 {a b c d : Dt} (h : a.mf = true) (h2 : b.mf = true) (h3 : c.mf = true) (h4 : d.mf = true) : mfs [a, b, c, d] = true := by simp [mfs, h, h2, h3, h4]
theorem ties_lmf (l : List (Int × Int)) : (Dt.lst (l.map prDt)).mf = true := mf_lst pr_mf l
/-- ties that make a web -/
def okT (n : Int) (ts : List (Int × Int)) : Bool := Nat.ble ts.length 40 && ts.all (tieOk n)
theorem okT_iff {n : Int} {ts : List (Int × Int)} : okT n ts = true ↔ ts.length ≤ 40 ∧ ∀ p ∈ ts, tieOk n p = true := by
  rw [okT, Bool.and_eq_true, Nat.ble_eq, List.all_eq_true]
theorem okT_perm {n : Int} {ts us : List (Int × Int)} (h : ts.Perm us) (k : okT n ts = true) : okT n us = true := by
  rw [okT_iff] at k ⊢
  exact ⟨by rw [← h.length_eq]; exact k.1, fun p hp => k.2 p (h.mem_iff.mpr hp)⟩
theorem okT_srt {n : Int} {ts : List (Int × Int)} (k : okT n ts = true) : okT n (srtP ts) = true := okT_perm (srtP_perm ts).symm k
theorem tie_iff {n : Int} {p : Int × Int} : tieOk n p = true ↔ 0 ≤ p.1 ∧ p.1 < p.2 ∧ p.2 < n := by simp [tieOk]
abbrev WebZ (P : Program) (w : World) (K : PySem.W.Frag) (mg : Str → Option Value) (base : Heap) (C : Addr) : Prop := ClsZ P w K mg base 4 C ["size", "ties"] (rWebI C)
theorem dE_webS {X : Cx} {J : JX} {C : Addr} {a b : Expr} {ρ : Env'} {μ : Mu} {pos p : Pos} {Q : Dt → Mu → Prop} (z : WebZ X.prog X.w X.K X.mg X.base C) (gW : X.mg "Web" = some (.ref C)) (hr : Room 5 X.A) (hgd : X.A.guards = some [])
    (h : dE X J a ρ μ fun x μ1 => dE X J b ρ μ1 fun y μ2 => ∃ n ts, x = .int n ∧ y = tiesD ts ∧ 1 ≤ n ∧ n ≤ 12 ∧ okT n ts = true ∧ Q (webD C n (srtP ts)) μ2)
    (hg : Gl X "Web" := by rfl) (he : starEach [a, b] X.env = (false, eval a X.env) :: starEach [b] X.env := by rfl) (he2 : starEach [b] X.env = (false, eval b X.env) :: starEach [] X.env := by rfl) (hpl : (backTo pos (starEach [b] X.env)).any (·.1) = false := by rfl) :
    dE X J (.Call (.Name "Web" p) [a, b] [] pos) ρ μ Q :=
  dE_newZ z hr hgd gW (dA_cons (dE.imp h fun x μ1 z1 => dA_cons (dE.imp z1 fun y μ2 ⟨n, ts, e1, e2, lo, hi, ok, q⟩ => dA_nil (by
    subst e1 e2
    obtain ⟨len, all⟩ := okT_iff.mp ok
    exact ⟨mfs2 rfl (ties_mf _), n, tiesD ts, ts, rfl, lo, hi, tiesIn_tup len all, rfl, rfl, _, rfl, by simp [mff, ties_mf, Dt.mf], _, rfl, rfl, by simp [mff, ties_mf, Dt.mf], q⟩)) he2) he) hg (by decide) he hpl
/-! ### numbers between -/
def Vbetween (CN : Addr) : List Dt → Res → Prop := fun ds r => ∃ (what : Str) (x : Dt) (lo hi : Int), ds = [.str what, x, .int lo, .int hi] ∧ (∃ T, tyS x = some T) ∧ x.mf = true ∧
  ((∃ i, x = .int i ∧ lo ≤ i ∧ i ≤ hi ∧ r = .inl .non) ∨ ((∀ i, x = .int i → i < lo ∨ hi < i) ∧ r = .inr (CN, erF ["what", "number"] [.str what, x])))
abbrev sBetween : Stmt := tp 14
theorem scBetween : FnScope ["what", "number", "low", "high"] ["what", "number", "low", "high"] (defScope sBetween) := ⟨rfl, rfl, rfl, by decide +kernel, rfl, by decide +kernel, by decide +kernel⟩
abbrev nmBetween : List Str := ["what", "number", "low", "high"]
theorem ndBetween : (nmBetween : List Str).Nodup := by decide +kernel
theorem okBetween {CN : Addr} {f : Addr} {fd : FuncData} (F : Fun K "need_between" "need_between" sBetween f fd) (Er : ErK P w K mg base CN ["what", "number"]) (gN : mg "BadNumber" = some (.ref CN)) (f_whole : DefP P w K mg base 1 "is_whole" ["value"] (rP (V1 fun x => .bl (wholeD x)))) : FnG P w K mg base 3 f fd ["what", "number", "low", "high"] (rR (Vbetween CN)) := by
  refine FnG.of F scBetween (rR_len fun ds r ⟨_, _, _, _, e, _⟩ => by rw [e]; rfl) fun cdv A outer s H E ds μ Q J hr hg ⟨e2, z⟩ => ?_
  subst e2
  rcases z with ⟨d, ⟨what, x, lo, hi, e, ⟨T, hT⟩, mx, ⟨i, rfl, h1, h2, ed⟩ | ⟨_, ed⟩⟩, q⟩ | ⟨C, fs, ⟨what, x, lo, hi, e, ⟨T, hT⟩, mx, ⟨_, _, _, _, ed⟩ | ⟨no, ed⟩⟩, j⟩
  · subst e
    cases ed
    refine dSs_cons <| dS_if <| dT_not <| dT_val <| dE_go f_whole (hr.mono (by decide)) hg <| dA_cons <| dE_var 1 rfl rfl <| dA_nil <| mk_fn (mfs1 rfl) rfl ⟨.int i, "int", rfl, rfl, rfl⟩ <| mk_B <| dSs_nil ?_
    refine dSs_cons <| dS_if <| dT_bool <| dW_or <| dT_bool <| dW_and <| dT_cmp od_notN <| dE_var 2 rfl rfl <| dE_non ⟨rfl, (fun v z => by cases z), mk_B <| iteY rfl <| dW_and1 <| dT_cmp od_lt <| dE_var 1 rfl rfl <| dE_var 2 rfl rfl <| mk_I0 <| mk_B ?_⟩
    rw [decide_eq_false (show ¬ (i < lo) by omega)]
    refine dW_or1 <| dT_bool <| dW_and <| dT_cmp od_notN <| dE_var 3 rfl rfl <| dE_non ⟨rfl, (fun v z => by cases z), mk_B <| iteY rfl <| dW_and1 <| dT_cmp od_gt <| dE_var 1 rfl rfl <| dE_var 3 rfl rfl <| mk_I0 <| mk_B ?_⟩
    rw [decide_eq_false (show ¬ (hi < i) by omega)]
    exact dSs_nil <| dSs_nil <| q _
  · cases ed
  · cases ed
  · subst e
    cases ed
    cases hw : wholeD x with
    | false =>
      refine dSs_cons <| dS_if <| dT_not <| dT_val <| dE_go f_whole (hr.mono (by decide)) hg <| dA_cons <| dE_var 1 rfl rfl <| dA_nil <| mk_fn (mfs1 mx) rfl ⟨x, T, rfl, hT, rfl⟩ <| mk_B ?_
      rw [hw]
      exact dSs_cons <| dS_raiseE rfl Er hr gN (by simp) <| dA_cons <| dE_var 0 rfl rfl <| dA_cons <| dE_var 1 rfl rfl <| dA_nil ⟨by simp [erF, mff, mx, Dt.mf], j _⟩
    | true =>
      obtain ⟨i, rfl⟩ : ∃ i, x = .int i := by cases x <;> simp [wholeD] at hw; exact ⟨_, rfl⟩
      refine dSs_cons <| dS_if <| dT_not <| dT_val <| dE_go f_whole (hr.mono (by decide)) hg <| dA_cons <| dE_var 1 rfl rfl <| dA_nil <| mk_fn (mfs1 rfl) rfl ⟨.int i, "int", rfl, rfl, rfl⟩ <| mk_B <| dSs_nil ?_
      refine dSs_cons <| dS_if <| dT_bool <| dW_or <| dT_bool <| dW_and <| dT_cmp od_notN <| dE_var 2 rfl rfl <| dE_non ⟨rfl, (fun v z => by cases z), mk_B <| iteY rfl <| dW_and1 <| dT_cmp od_lt <| dE_var 1 rfl rfl <| dE_var 2 rfl rfl <| mk_I0 <| mk_B ?_⟩
      have fin : ∀ {D : DEnds}, dSs (cxOf (L2.CX P w) P w K mg base nmBetween "need_between" (defScope sBetween) f cdv A outer s H E) J [(match ((defBody sBetween)[1]? : Option Stmt) with | some (.If _ [r] _ _) => r | _ => sBetween)] [some (.str what), some (.int i), some (.int lo), some (.int hi)] [] D := fun {D} =>
        dSs_cons <| dS_raiseE rfl Er hr gN (by simp) <| dA_cons <| dE_var 0 rfl rfl <| dA_cons <| dE_var 1 rfl rfl <| dA_nil ⟨by simp [erF, mff, Dt.mf], j _⟩
      by_cases h1 : i < lo
      · rw [decide_eq_true h1]
        exact fin
      · rw [decide_eq_false h1]
        refine dW_or1 <| dT_bool <| dW_and <| dT_cmp od_notN <| dE_var 3 rfl rfl <| dE_non ⟨rfl, (fun v z => by cases z), mk_B <| iteY rfl <| dW_and1 <| dT_cmp od_gt <| dE_var 1 rfl rfl <| dE_var 3 rfl rfl <| mk_I0 <| mk_B ?_⟩
        rw [decide_eq_true (show hi < i by have := no i rfl; omega)]
        exact fin
def Vfew4 : List Dt → Dt → Prop := fun ds d => ∃ (xs : List Dt) (what : Str), ds = [.lst xs, .str what] ∧ xs.length ≤ 400 ∧ mfs xs = true ∧ d = .tup xs
abbrev sFew4 : Stmt := tp 25
theorem scFew4 : FnScope ["lots", "what"] ["lots", "what"] (defScope sFew4) := ⟨rfl, rfl, rfl, by decide +kernel, rfl, by decide +kernel, by decide +kernel⟩
abbrev nmFew4 : List Str := ["lots", "what"]
theorem ndFew4 : (nmFew4 : List Str).Nodup := by decide +kernel
theorem okFew4 {t4 : Tok} {f : Addr} {fd : FuncData} (F : Fun K "few" "few" sFew4 f fd) (B : Bi mg) (g4 : mg "MOST_LOTS" = some (.int 400 t4)) : FnG P w K mg base 1 f fd ["lots", "what"] (rP Vfew4) := by
  refine FnG.of F scFew4 (rP_len fun ds d ⟨_, _, e, _⟩ => by rw [e]; rfl) fun cdv A outer s H E ds μ Q J hr hg ⟨d, ⟨xs, what, e, hl, mx, ed⟩, e2, q⟩ => ?_
  subst e ed e2
  refine dSs_cons <| dS_if <| dT_cmp od_gt <| dE_callB (hv := Boot.«len») cd_len B.len <| dA_cons <| dE_var 0 rfl rfl <| dA_nil ⟨_, xs.length, rfl, by simp [lenM, seqM], dE_globI g4 <| mk_I0 <| mk_B <| iteN (decide_eq_false (by omega)) <| dSs_nil ?_⟩
  exact dSs_cons <| dS_ret <| dE_callTy (hv := Boot.«tuple») cd_tuple B.tuple <| dA_cons <| dE_var 0 rfl rfl <| dA_nil ⟨_, _, rfl, rfl, q _⟩
end
end Law

/-! W61: webs that have a name. -/
namespace Law
open PySem PySem.Spec PyProof.Rows L2 DL
local macro_rules | `(tactic| walk_at "sd") => `(tactic| first | assumption | decide | exact Or.inr (by decide) | exact Or.inl (by decide) | exact ⟨by decide, by decide⟩ | exact ⟨by decide, by decide, by decide⟩ | omega | exact ⟨by omega, by omega⟩)
local macro_rules | `(tactic| walk_at "lz") => `(tactic| first | exact pen_len | (rw [sizeLine_eq]; simp; done) | (rw [sizeLine_eq]; simp; omega))
section
variable {P : Program} {w : World} {K : PySem.W.Frag} {mg : Str → Option Value} {base : Heap}
local macro_rules | `(tactic| walk_at "lz") => `(tactic| first | exact pen_len | (rw [sizeLine_eq]; simp; done) | (rw [sizeLine_eq]; simp; omega) | (rw [sizeLine_eq]; omega))
theorem fin_of {f : Int → Bool} {lo : Int} {m : Nat} (h : ((List.range m).all fun k => f (lo + (k : Int))) = true) {n : Int} (h1 : lo ≤ n) (h2 : n < lo + m) : f n = true := by
  have a := List.all_eq_true.mp h (n - lo).toNat (List.mem_range.mpr (by omega))
  have e : lo + (((n - lo).toNat : Nat) : Int) = n := by omega
  rwa [e] at a
/-! ### rings -/
def rgT (n s : Int) : List (Int × Int) := tiesOf (n - 1) (fun (k : Nat) => (s + (0 + (k : Int)), s + (0 + (k : Int)) + 1)) ++ [(s, s + n - 1)]
theorem rgT_len {n s : Int} (h : 1 ≤ n) : (rgT n s).length = n.toNat := by
  rw [rgT, List.length_append, tiesOf_len]
  simp
  omega
def VrgT : List Dt → Dt → Prop := fun ds d => ∃ n s : Int, ds = [.int n, .int s] ∧ 1 ≤ n ∧ n ≤ 12 ∧ d = .lst ((rgT n s).map prDt)
abbrev sRingT : Stmt := tp 33
theorem scRingT : FnScope ["size", "start", "ties", "i"] ["size", "start"] (defScope sRingT) := ⟨rfl, rfl, rfl, by decide +kernel, rfl, by decide +kernel, by decide +kernel⟩
abbrev nmRingT : List Str := ["size", "start", "ties", "i"]
theorem ndRingT : (nmRingT : List Str).Nodup := by decide +kernel
theorem okRingT {f : Addr} {fd : FuncData} (F : Fun K "ring_ties" "ring_ties" sRingT f fd) (B : Bi mg) : FnG P w K mg base 1 f fd ["size", "start"] (rP VrgT) := by
  refine FnG.of F scRingT (rP_len fun ds d ⟨n, s, e, _⟩ => by rw [e]; rfl) fun cdv A outer s H E ds μ Q J hr hg ⟨d, ⟨n, s0, e, h1, h12, ed⟩, e2, q⟩ => ?_
  subst e ed e2
  refine dSs_cons <| dS_setLcF 2 [("i", 3)] (fun k : Nat => .int (0 + (k : Int))) (fun _ => true) (fun k : Nat => prDt (s0 + (0 + (k : Int)), s0 + (0 + (k : Int)) + 1)) rfl ndRingT rfl rfl (blkOk_by (by show blkC (nmRingT : List Str) (defScope sRingT) _ _ = true; decide +kernel)) rfl <|
    dI_range1 B.range <| dA_cons <| dE_bin od_sub <| dE_var 0 rfl rfl <| dE_int <| mk_I0 <| dA_nil ⟨_, rfl, by omega, by omega, trivial, List.range (n - 1).toNat, rfl, by walk_at "lz", fun k hk s1 H1 C1 cl1 fp1 => dGv_name 3 ndRingT rfl ⟨rfl, fun s2 H2 C2 cl2 fp2 => dTs_nil ⟨rfl, rfl, fun _ s3 H3 C3 cl3 fp3 => dE_tup <| dA_cons <| dE_bin od_add <| dE_var 1 rfl rfl <| dE_var 3 rfl rfl <| mk_I0 <| dA_cons <| dE_bin od_add <| dE_bin od_add <| dE_var 1 rfl rfl <| dE_var 3 rfl rfl <| mk_I0 <| dE_int <| mk_I0 <| dA_nil ⟨by walk_at "lz", rfl, rfl⟩⟩⟩, ?_⟩
  rw [List.filter_eq_self.mpr fun _ _ => rfl, tiesOf_map (n - 1) fun (k : Nat) => (s0 + (0 + (k : Int)), s0 + (0 + (k : Int)) + 1)]
  have hl := tiesOf_len (n - 1) fun (k : Nat) => (s0 + (0 + (k : Int)), s0 + (0 + (k : Int)) + 1)
  show dSs _ _ _ [some (.int n), some (.int s0), some (.lst ((tiesOf (n - 1) fun (k : Nat) => (s0 + (0 + (k : Int)), s0 + (0 + (k : Int)) + 1)).map prDt)), none] [] _
  refine dSs_cons <| dS_ret <| dE_bin od_catL <| dE_var 2 rfl rfl <| dE_lst <| dA_cons <| dE_tup <| dA_cons <| dE_var 1 rfl rfl <| dA_cons <| dE_bin od_sub <| dE_bin od_add <| dE_var 1 rfl rfl <| dE_var 0 rfl rfl <| mk_I0 <| dE_int <| mk_I0 <| dA_nil ⟨by walk_at "lz", dA_nil ⟨by walk_at "lz", _, _, rfl, rfl, by rw [sizeLine_eq, List.length_map, hl]; simp; omega, ?_⟩⟩
  have e : (tiesOf (n - 1) fun (k : Nat) => (s0 + (0 + (k : Int)), s0 + (0 + (k : Int)) + 1)).map prDt ++ [.tup [.int s0, .int (s0 + n - 1)]] = (rgT n s0).map prDt := by rw [rgT, List.map_append]; rfl
  rw [e]
  exact q _
/-! ### one number -/
def Vone (CW CN : Addr) (what : Str) (lo hi : Int) (N : Int → Int) (T : Int → List (Int × Int)) : List Dt → Res → Prop := fun ds r => ∃ x, ds = [x] ∧ (∃ T, tyS x = some T) ∧ x.mf = true ∧
  ((∃ n, x = .int n ∧ lo ≤ n ∧ n ≤ hi ∧ r = .inl (webD CW (N n) (srtP (T n)))) ∨ ((∀ i, x = .int i → i < lo ∨ hi < i) ∧ r = .inr (CN, erF ["what", "number"] [.str what, x])))
theorem ring_ok {n : Int} (h1 : 3 ≤ n) (h2 : n ≤ 12) : okT n (rgT n 0) = true := fin_of (f := fun n => okT n (rgT n 0)) (lo := 3) (m := 10) (by decide +kernel) h1 (by omega)
abbrev sRingW : Stmt := tp 34
theorem scRingW : FnScope ["size"] ["size"] (defScope sRingW) := ⟨rfl, rfl, rfl, by decide +kernel, rfl, by decide +kernel, by decide +kernel⟩
abbrev nmRingW : List Str := ["size"]
theorem ndRingW : (nmRingW : List Str).Nodup := by decide +kernel
theorem okRingW {CW CN : Addr} {t12 : Tok} {f : Addr} {fd : FuncData} (F : Fun K "ring" "ring" sRingW f fd) (B : Bi mg) (W : WebK K mg CW) (Z : WebZ P w K mg base CW) (g12 : mg "MOST_SIZE" = some (.int 12 t12)) (f_bet : DefP P w K mg base 3 "need_between" ["what", "number", "low", "high"] (rR (Vbetween CN))) (f_rt : DefP P w K mg base 1 "ring_ties" ["size", "start"] (rP VrgT)) : FnG P w K mg base 6 f fd ["size"] (rR (Vone CW CN "size" 3 12 (fun n => n) fun n => rgT n 0)) := by
  refine FnG.of F scRingW (rR_len fun ds r ⟨_, e, _⟩ => by rw [e]; rfl) fun cdv A outer s H E ds μ Q J hr hg ⟨e2, z⟩ => ?_
  subst e2
  rcases z with ⟨d, ⟨x, e, ⟨T, hT⟩, mx, ⟨n, rfl, h1, h2, ed⟩ | ⟨_, ed⟩⟩, q⟩ | ⟨C, fs, ⟨x, e, ⟨T, hT⟩, mx, ⟨_, _, _, _, ed⟩ | ⟨no, ed⟩⟩, j⟩
  · subst e
    cases ed
    refine dSs_cons <| dS_expr <| dE_go f_bet (hr.mono (by decide)) hg <| dA_cons <| dE_str <| dA_cons <| dE_var 0 rfl rfl <| dA_cons <| dE_int <| dA_cons <| dE_globI g12 <| dA_nil <| mk_fr rfl rfl ⟨_, _, _, _, rfl, ⟨_, rfl⟩, rfl, .inl ⟨n, rfl, h1, h2, rfl⟩⟩ ?_
    exact dSs_cons <| dS_ret <| dE_webS Z W.g hr hg <| dE_var 0 rfl rfl <| dE_callTy (hv := Boot.«tuple») cd_tuple B.tuple <| dA_cons <| dE_go f_rt (hr.mono (by decide)) hg <| dA_cons <| dE_var 0 rfl rfl <| dA_cons <| dE_int <| dA_nil <| mk_fn rfl (ties_lmf _) ⟨n, 0, rfl, by omega, h2, rfl⟩ <| dA_nil ⟨_, _, rfl, rfl, n, rgT n 0, rfl, rfl, by omega, h2, ring_ok h1 h2, q _⟩
  · cases ed
  · cases ed
  · subst e
    cases ed
    exact dSs_cons <| dS_expr <| dE_go f_bet (hr.mono (by decide)) hg <| dA_cons <| dE_str <| dA_cons <| dE_var 0 rfl rfl <| dA_cons <| dE_int <| dA_cons <| dE_globI g12 <| dA_nil <| mk_fx (mfs4 rfl mx rfl rfl) (by simp [erF, mff, mx, Dt.mf]) ⟨_, _, _, _, rfl, ⟨T, hT⟩, mx, .inr ⟨no, rfl⟩⟩ (j _)
def whT (n : Int) : List (Int × Int) := rgT n 0 ++ tiesOf n (fun (k : Nat) => (0 + (k : Int), n))
theorem wheel_ok {n : Int} (h1 : 3 ≤ n) (h2 : n ≤ 11) : okT (n + 1) (whT n) = true := fin_of (f := fun n => okT (n + 1) (whT n)) (lo := 3) (m := 9) (by decide +kernel) h1 (by omega)
abbrev sWheelW : Stmt := tp 35
theorem scWheelW : FnScope ["spokes", "i"] ["spokes"] (defScope sWheelW) := ⟨rfl, rfl, rfl, by decide +kernel, rfl, by decide +kernel, by decide +kernel⟩
abbrev nmWheelW : List Str := ["spokes", "i"]
theorem ndWheelW : (nmWheelW : List Str).Nodup := by decide +kernel
theorem okWheelW {CW CN : Addr} {t12 : Tok} {f : Addr} {fd : FuncData} (F : Fun K "wheel" "wheel" sWheelW f fd) (B : Bi mg) (W : WebK K mg CW) (Z : WebZ P w K mg base CW) (g12 : mg "MOST_SIZE" = some (.int 12 t12)) (f_bet : DefP P w K mg base 3 "need_between" ["what", "number", "low", "high"] (rR (Vbetween CN))) (f_rt : DefP P w K mg base 1 "ring_ties" ["size", "start"] (rP VrgT)) : FnG P w K mg base 6 f fd ["spokes"] (rR (Vone CW CN "spokes" 3 11 (fun n => n + 1) whT)) := by
  refine FnG.of F scWheelW (rR_len fun ds r ⟨_, e, _⟩ => by rw [e]; rfl) fun cdv A outer s H E ds μ Q J hr hg ⟨e2, z⟩ => ?_
  subst e2
  rcases z with ⟨d, ⟨x, e, ⟨T, hT⟩, mx, ⟨n, rfl, h1, h2, ed⟩ | ⟨_, ed⟩⟩, q⟩ | ⟨C, fs, ⟨x, e, ⟨T, hT⟩, mx, ⟨_, _, _, _, ed⟩ | ⟨no, ed⟩⟩, j⟩
  · subst e
    cases ed
    have hl := rgT_len (n := n) (s := 0) (by omega)
    refine dSs_cons <| dS_expr <| dE_go f_bet (hr.mono (by decide)) hg <| dA_cons <| dE_str <| dA_cons <| dE_var 0 rfl rfl <| dA_cons <| dE_int <| dA_cons <| dE_bin od_sub <| dE_globI g12 <| dE_int <| mk_I0 <| dA_nil <| mk_fr rfl rfl ⟨_, _, _, _, rfl, ⟨_, rfl⟩, rfl, .inl ⟨n, rfl, h1, h2, rfl⟩⟩ ?_
    refine dSs_cons <| dS_ret <| dE_webS Z W.g hr hg <| dE_bin od_add <| dE_var 0 rfl rfl <| dE_int <| mk_I0 <| dE_callTy (hv := Boot.«tuple») cd_tuple B.tuple <| dA_cons <| dE_bin od_catL <| dE_go f_rt (hr.mono (by decide)) hg <| dA_cons <| dE_var 0 rfl rfl <| dA_cons <| dE_int <| dA_nil <| mk_fn rfl (ties_lmf _) ⟨n, 0, rfl, by omega, by omega, rfl⟩ ?_
    refine dE_lcG [("i", 1)] (fun k : Nat => .int (0 + (k : Int))) (fun k : Nat => prDt (0 + (k : Int), n)) rfl ndWheelW (blkOk_by (by show blkC (nmWheelW : List Str) (defScope sWheelW) _ _ = true; decide +kernel)) <| dI_range1 B.range <| dA_cons <| dE_var 0 rfl rfl <| dA_nil ⟨_, rfl, by omega, by omega, trivial, List.range n.toNat, rfl, by walk_at "lz", fun k hk s1 H1 C1 cl1 fp1 => dGv_name 1 ndWheelW rfl ⟨rfl, fun s2 H2 C2 cl2 fp2 => dE_tup <| dA_cons <| dE_var 1 rfl rfl <| dA_cons <| dE_var 0 rfl rfl <| dA_nil ⟨by walk_at "lz", rfl, rfl⟩⟩, _, _, rfl, rfl, by rw [sizeLine_eq, List.length_map, List.length_map, List.length_range, hl]; omega, ?_⟩
    have e : (rgT n 0).map prDt ++ ((List.range n.toNat).map fun (k : Nat) => prDt (0 + (k : Int), n)) = (whT n).map prDt := by rw [whT, List.map_append, tiesOf_map]
    rw [e]
    exact dA_nil ⟨_, _, rfl, rfl, n + 1, whT n, rfl, rfl, by omega, by omega, wheel_ok h1 h2, q _⟩
  · cases ed
  · cases ed
  · subst e
    cases ed
    exact dSs_cons <| dS_expr <| dE_go f_bet (hr.mono (by decide)) hg <| dA_cons <| dE_str <| dA_cons <| dE_var 0 rfl rfl <| dA_cons <| dE_int <| dA_cons <| dE_bin od_sub <| dE_globI g12 <| dE_int <| mk_I0 <| dA_nil <| mk_fx (mfs4 rfl mx rfl rfl) (by simp [erF, mff, mx, Dt.mf]) ⟨_, _, _, _, rfl, ⟨T, hT⟩, mx, .inr ⟨no, rfl⟩⟩ (j _)
def prT (n : Int) : List (Int × Int) := rgT n 0 ++ rgT n n ++ tiesOf n (fun (k : Nat) => (0 + (k : Int), n + (0 + (k : Int))))
theorem prism_ok {n : Int} (h1 : 3 ≤ n) (h2 : n ≤ 6) : okT (2 * n) (prT n) = true := fin_of (f := fun n => okT (2 * n) (prT n)) (lo := 3) (m := 4) (by decide +kernel) h1 (by omega)
abbrev sPrismW : Stmt := tp 37
theorem scPrismW : FnScope ["sides", "ties", "i"] ["sides"] (defScope sPrismW) := ⟨rfl, rfl, rfl, by decide +kernel, rfl, by decide +kernel, by decide +kernel⟩
abbrev nmPrismW : List Str := ["sides", "ties", "i"]
theorem ndPrismW : (nmPrismW : List Str).Nodup := by decide +kernel
theorem okPrismW {CW CN : Addr} {f : Addr} {fd : FuncData} (F : Fun K "prism" "prism" sPrismW f fd) (B : Bi mg) (W : WebK K mg CW) (Z : WebZ P w K mg base CW) (f_bet : DefP P w K mg base 3 "need_between" ["what", "number", "low", "high"] (rR (Vbetween CN))) (f_rt : DefP P w K mg base 1 "ring_ties" ["size", "start"] (rP VrgT)) : FnG P w K mg base 6 f fd ["sides"] (rR (Vone CW CN "sides" 3 6 (fun n => 2 * n) prT)) := by
  refine FnG.of F scPrismW (rR_len fun ds r ⟨_, e, _⟩ => by rw [e]; rfl) fun cdv A outer s H E ds μ Q J hr hg ⟨e2, z⟩ => ?_
  subst e2
  rcases z with ⟨d, ⟨x, e, ⟨T, hT⟩, mx, ⟨n, rfl, h1, h2, ed⟩ | ⟨_, ed⟩⟩, q⟩ | ⟨C, fs, ⟨x, e, ⟨T, hT⟩, mx, ⟨_, _, _, _, ed⟩ | ⟨no, ed⟩⟩, j⟩
  · subst e
    cases ed
    have hl := rgT_len (n := n) (s := 0) (by omega)
    have hl2 := rgT_len (n := n) (s := n) (by omega)
    refine dSs_cons <| dS_expr <| dE_go f_bet (hr.mono (by decide)) hg <| dA_cons <| dE_str <| dA_cons <| dE_var 0 rfl rfl <| dA_cons <| dE_int <| dA_cons <| dE_int <| dA_nil <| mk_fr rfl rfl ⟨_, _, _, _, rfl, ⟨_, rfl⟩, rfl, .inl ⟨n, rfl, h1, h2, rfl⟩⟩ ?_
    refine dSs_cons <| dS_set 1 ndPrismW rfl <| dE_bin od_catL <| dE_bin od_catL <| dE_go f_rt (hr.mono (by decide)) hg <| dA_cons <| dE_var 0 rfl rfl <| dA_cons <| dE_int <| dA_nil <| mk_fn rfl (ties_lmf _) ⟨n, 0, rfl, by omega, by omega, rfl⟩ <| dE_go f_rt (hr.mono (by decide)) hg <| dA_cons <| dE_var 0 rfl rfl <| dA_cons <| dE_var 0 rfl rfl <| dA_nil <| mk_fn rfl (ties_lmf _) ⟨n, n, rfl, by omega, by omega, rfl⟩ ⟨_, _, rfl, rfl, by rw [sizeLine_eq, List.length_map, List.length_map, hl, hl2]; omega, ?_⟩
    refine dE_lcG [("i", 2)] (fun k : Nat => .int (0 + (k : Int))) (fun k : Nat => prDt (0 + (k : Int), n + (0 + (k : Int)))) rfl ndPrismW (blkOk_by (by show blkC (nmPrismW : List Str) (defScope sPrismW) _ _ = true; decide +kernel)) <| dI_range1 B.range <| dA_cons <| dE_var 0 rfl rfl <| dA_nil ⟨_, rfl, by omega, by omega, trivial, List.range n.toNat, rfl, by walk_at "lz", fun k hk s1 H1 C1 cl1 fp1 => dGv_name 2 ndPrismW rfl ⟨rfl, fun s2 H2 C2 cl2 fp2 => dE_tup <| dA_cons <| dE_var 2 rfl rfl <| dA_cons <| dE_bin od_add <| dE_var 0 rfl rfl <| dE_var 2 rfl rfl <| mk_I0 <| dA_nil ⟨by walk_at "lz", rfl, rfl⟩⟩, _, _, rfl, rfl, by rw [sizeLine_eq, List.length_append, List.length_map, List.length_map, List.length_map, List.length_range, hl, hl2]; omega, ?_⟩
    have e : (rgT n 0).map prDt ++ (rgT n n).map prDt ++ ((List.range n.toNat).map fun (k : Nat) => prDt (0 + (k : Int), n + (0 + (k : Int)))) = (prT n).map prDt := by rw [prT, List.map_append, List.map_append, tiesOf_map n fun (k : Nat) => (0 + (k : Int), n + (0 + (k : Int)))]
    rw [e]
    show dSs _ _ _ [some (.int n), some (.lst ((prT n).map prDt)), none] [] _
    exact dSs_cons <| dS_ret <| dE_webS Z W.g hr hg <| dE_bin od_mul <| dE_int <| dE_var 0 rfl rfl <| mk_I (C := CMul) (.inl ⟨by decide, by decide⟩) <| dE_callTy (hv := Boot.«tuple») cd_tuple B.tuple <| dA_cons <| dE_var 1 rfl rfl <| dA_nil ⟨_, _, rfl, rfl, 2 * n, prT n, rfl, rfl, by omega, by omega, prism_ok h1 h2, q _⟩
  · cases ed
  · cases ed
  · subst e
    cases ed
    exact dSs_cons <| dS_expr <| dE_go f_bet (hr.mono (by decide)) hg <| dA_cons <| dE_str <| dA_cons <| dE_var 0 rfl rfl <| dA_cons <| dE_int <| dA_cons <| dE_int <| dA_nil <| mk_fx (mfs4 rfl mx rfl rfl) (by simp [erF, mff, mx, Dt.mf]) ⟨_, _, _, _, rfl, ⟨T, hT⟩, mx, .inr ⟨no, rfl⟩⟩ (j _)
/-! ### the web of eight -/
def egT : List (Int × Int) := rgT 8 0 ++ tiesOf 4 (fun (k : Nat) => (0 + (k : Int), 0 + (k : Int) + 4))
theorem eight_ok : okT 8 egT = true := by decide +kernel
def Vconst (CW : Addr) (n : Int) (T : List (Int × Int)) : List Dt → Dt → Prop := fun ds d => ds = [] ∧ d = webD CW n (srtP T)
abbrev sEightW : Stmt := tp 36
theorem scEightW : FnScope ["i"] [] (defScope sEightW) := ⟨rfl, rfl, rfl, by decide +kernel, rfl, by decide +kernel, by decide +kernel⟩
abbrev nmEightW : List Str := ["i"]
theorem ndEightW : (nmEightW : List Str).Nodup := by decide +kernel
theorem okEightW {CW : Addr} {f : Addr} {fd : FuncData} (F : Fun K "eight_web" "eight_web" sEightW f fd) (B : Bi mg) (W : WebK K mg CW) (Z : WebZ P w K mg base CW) (f_rt : DefP P w K mg base 1 "ring_ties" ["size", "start"] (rP VrgT)) : FnG P w K mg base 6 f fd [] (rP (Vconst CW 8 egT)) := by
  refine FnG.of F scEightW (rP_len fun ds d ⟨e, _⟩ => by rw [e]; rfl) fun cdv A outer s H E ds μ Q J hr hg ⟨d, ⟨e, ed⟩, e2, q⟩ => ?_
  subst e ed e2
  have hl := rgT_len (n := 8) (s := 0) (by omega)
  refine dSs_cons <| dS_ret <| dE_webS Z W.g hr hg <| dE_int <| dE_callTy (hv := Boot.«tuple») cd_tuple B.tuple <| dA_cons <| dE_bin od_catL <| dE_go f_rt (hr.mono (by decide)) hg <| dA_cons <| dE_int <| dA_cons <| dE_int <| dA_nil <| mk_fn rfl (ties_lmf _) ⟨8, 0, rfl, by omega, by omega, rfl⟩ ?_
  refine dE_lcG [("i", 0)] (fun k : Nat => .int (0 + (k : Int))) (fun k : Nat => prDt (0 + (k : Int), 0 + (k : Int) + 4)) rfl ndEightW (blkOk_by (by show blkC (nmEightW : List Str) (defScope sEightW) _ _ = true; decide +kernel)) <| dI_range1 B.range <| dA_cons <| dE_int <| dA_nil ⟨_, rfl, by omega, by omega, trivial, List.range (4 : Int).toNat, rfl, by walk_at "lz", fun k hk s1 H1 C1 cl1 fp1 => dGv_name 0 ndEightW rfl ⟨rfl, fun s2 H2 C2 cl2 fp2 => dE_tup <| dA_cons <| dE_var 0 rfl rfl <| dA_cons <| dE_bin od_add <| dE_var 0 rfl rfl <| dE_int <| mk_I0 <| dA_nil ⟨by walk_at "lz", rfl, rfl⟩⟩, _, _, rfl, rfl, by rw [sizeLine_eq, List.length_map, List.length_map, List.length_range, hl]; decide, ?_⟩
  have e : (rgT 8 0).map prDt ++ ((List.range (4 : Int).toNat).map fun (k : Nat) => prDt (0 + (k : Int), 0 + (k : Int) + 4)) = egT.map prDt := by rw [egT, List.map_append, tiesOf_map 4 fun (k : Nat) => (0 + (k : Int), 0 + (k : Int) + 4)]
  rw [e]
  exact dA_nil ⟨_, _, rfl, rfl, 8, egT, rfl, rfl, by decide, by decide, eight_ok, q _⟩
/-! ### all tied -/
def fromB (n : Nat) : Nat → Nat → List (Nat × Nat) → Bool
  | i, j, [] => decide (i < j) && (decide (j < n) && decide (CB.cbNext n i j = none))
  | i, j, p :: L => decide (i < j) && (decide (j < n) && (decide (CB.cbNext n i j = some [p.1, p.2]) && fromB n p.1 p.2 L))
theorem from_of {n : Nat} : ∀ {L : List (Nat × Nat)} {i j : Nat}, fromB n i j L = true → CB.From n i j L
  | [], i, j, h => by
    simp only [fromB, Bool.and_eq_true, decide_eq_true_eq] at h
    exact .last h.1 h.2.1 h.2.2
  | p :: L, i, j, h => by
    simp only [fromB, Bool.and_eq_true, decide_eq_true_eq] at h
    exact .step h.1 h.2.1 h.2.2.1 (from_of h.2.2.2)
def pairsN (n : Nat) : List (Nat × Nat) := (List.range n).flatMap fun i => (List.range (n - (i + 1))).map fun j => (i, i + 1 + j)
def all2B (n : Nat) : Bool := match pairsN n with
  | [] => decide (n < 2)
  | p :: L => decide (p = (0, 1)) && (decide (2 ≤ n) && fromB n 0 1 L)
theorem all2_of {n : Nat} (h : all2B n = true) : CB.All2 n (pairsN n) := by
  unfold all2B at h
  split at h
  · rename_i e
    rw [e]
    exact .few (of_decide_eq_true h)
  · rename_i p L e
    simp only [Bool.and_eq_true, decide_eq_true_eq] at h
    rw [e, h.1]
    exact .some h.2.1 (from_of h.2.2)
def atT (n : Int) : List (Int × Int) := (pairsN n.toNat).map fun p => ((p.1 : Int), (p.2 : Int))
theorem tied_ok {n : Int} (h1 : 1 ≤ n) (h2 : n ≤ 9) : okT n (atT n) = true ∧ all2B n.toNat = true := by
  have := fin_of (f := fun n => okT n (atT n) && all2B n.toNat) (lo := 1) (m := 9) (by decide +kernel) h1 (by omega)
  rwa [Bool.and_eq_true] at this
theorem atT_len {n : Int} (h1 : 1 ≤ n) (h2 : n ≤ 9) : (pairsN n.toNat).length ≤ 40 := by
  have := (okT_iff.mp (tied_ok h1 h2).1).1
  rwa [atT, List.length_map] at this
abbrev sAllTied : Stmt := tp 31
theorem scAllTied : FnScope ["size"] ["size"] (defScope sAllTied) := ⟨rfl, rfl, rfl, by decide +kernel, rfl, by decide +kernel, by decide +kernel⟩
abbrev nmAllTied : List Str := ["size"]
theorem ndAllTied : (nmAllTied : List Str).Nodup := by decide +kernel
theorem okAllTied {CW CN : Addr} {f : Addr} {fd : FuncData} (F : Fun K "all_tied" "all_tied" sAllTied f fd) (B : Bi mg) (W : WebK K mg CW) (Z : WebZ P w K mg base CW) (gC : mg "combinations" = some (.type CB.TC)) (f_bet : DefP P w K mg base 3 "need_between" ["what", "number", "low", "high"] (rR (Vbetween CN))) : FnG P w K mg base 6 f fd ["size"] (rR (Vone CW CN "size" 1 9 (fun n => n) atT)) := by
  refine FnG.of F scAllTied (rR_len fun ds r ⟨_, e, _⟩ => by rw [e]; rfl) fun cdv A outer s H E ds μ Q J hr hg ⟨e2, z⟩ => ?_
  subst e2
  rcases z with ⟨d, ⟨x, e, ⟨T, hT⟩, mx, ⟨n, rfl, h1, h2, ed⟩ | ⟨_, ed⟩⟩, q⟩ | ⟨C, fs, ⟨x, e, ⟨T, hT⟩, mx, ⟨_, _, _, _, ed⟩ | ⟨no, ed⟩⟩, j⟩
  · subst e
    cases ed
    refine dSs_cons <| dS_expr <| dE_go f_bet (hr.mono (by decide)) hg <| dA_cons <| dE_str <| dA_cons <| dE_var 0 rfl rfl <| dA_cons <| dE_int <| dA_cons <| dE_int <| dA_nil <| mk_fr rfl rfl ⟨_, _, _, _, rfl, ⟨_, rfl⟩, rfl, .inl ⟨n, rfl, h1, h2, rfl⟩⟩ ?_
    refine dSs_cons <| dS_ret <| dE_webS Z W.g hr hg <| dE_var 0 rfl rfl <| dE_tupComb rfl B.tuple gC B.range <| dE_var 0 rfl rfl ⟨n, pairsN n.toNat, rfl, by omega, by omega, all2_of (tied_ok h1 h2).2, by have := atT_len h1 h2; omega, ?_⟩
    have e : Dt.tup ((pairsN n.toNat).map c2D) = tiesD (atT n) := by rw [tiesD, atT, List.map_map]; rfl
    rw [e]
    exact ⟨n, atT n, rfl, rfl, h1, by omega, (tied_ok h1 h2).1, q _⟩
  · cases ed
  · cases ed
  · subst e
    cases ed
    exact dSs_cons <| dS_expr <| dE_go f_bet (hr.mono (by decide)) hg <| dA_cons <| dE_str <| dA_cons <| dE_var 0 rfl rfl <| dA_cons <| dE_int <| dA_cons <| dE_int <| dA_nil <| mk_fx (mfs4 rfl mx rfl rfl) (by simp [erF, mff, mx, Dt.mf]) ⟨_, _, _, _, rfl, ⟨T, hT⟩, mx, .inr ⟨no, rfl⟩⟩ (j _)
end
end Law

/-! W62: two sides, grids, Petersen's web. -/
namespace Law
open PySem PySem.Spec PyProof.Rows L2 DL
local macro_rules | `(tactic| walk_at "sd") => `(tactic| first | assumption | decide | exact Or.inr (by decide) | exact Or.inl (by decide) | exact ⟨by decide, by decide⟩ | exact ⟨by decide, by decide, by decide⟩ | omega | exact ⟨by omega, by omega⟩)
local macro_rules | `(tactic| walk_at "lz") => `(tactic| first | exact pen_len | (rw [sizeLine_eq]; simp; done) | (rw [sizeLine_eq]; simp; omega))
section
variable {P : Program} {w : World} {K : PySem.W.Frag} {mg : Str → Option Value} {base : Heap}
local macro_rules | `(tactic| walk_at "lz") => `(tactic| first | exact pen_len | (rw [sizeLine_eq]; simp; done) | (rw [sizeLine_eq]; simp; omega) | (rw [sizeLine_eq]; omega))
theorem fin2_of {f : Int → Int → Bool} {lo : Int} {m : Nat} (h : ((List.range m).all fun k => (List.range m).all fun l => f (lo + (k : Int)) (lo + (l : Int))) = true) {a b : Int} (h1 : lo ≤ a) (h2 : a < lo + m) (h3 : lo ≤ b) (h4 : b < lo + m) : f a b = true := by
  have := fin_of (f := fun a => (List.range m).all fun l => f a (lo + (l : Int))) h h1 h2
  exact fin_of (f := f a) this h3 h4
/-! ### two sides -/
theorem two_ok {a b : Int} (h1 : 1 ≤ a) (h2 : a ≤ 6) (h3 : 1 ≤ b) (h4 : b ≤ 6) : okT (a + b) (twoP a b a.toNat) = true := fin2_of (f := fun a b => okT (a + b) (twoP a b a.toNat)) (lo := 1) (m := 6) (by decide +kernel) h1 (by omega) h3 (by omega)
def Vtwo2 (CW CN : Addr) : List Dt → Res → Prop := fun ds r => ∃ x y, ds = [x, y] ∧ (∃ T, tyS x = some T) ∧ x.mf = true ∧ (∃ T, tyS y = some T) ∧ y.mf = true ∧
  ((∃ a b, x = .int a ∧ y = .int b ∧ 1 ≤ a ∧ a ≤ 6 ∧ 1 ≤ b ∧ b ≤ 6 ∧ r = .inl (webD CW (a + b) (srtP (twoP a b a.toNat)))) ∨ ((∀ i, x = .int i → i < 1 ∨ 6 < i) ∧ r = .inr (CN, erF ["what", "number"] [.str "a", x])) ∨
    ((∃ a, x = .int a ∧ 1 ≤ a ∧ a ≤ 6) ∧ (∀ i, y = .int i → i < 1 ∨ 6 < i) ∧ r = .inr (CN, erF ["what", "number"] [.str "b", y])))
abbrev sTwoSides : Stmt := tp 32
theorem scTwoSides : FnScope ["a", "b", "ties", "i", "j"] ["a", "b"] (defScope sTwoSides) := ⟨rfl, rfl, rfl, by decide +kernel, rfl, by decide +kernel, by decide +kernel⟩
abbrev nmTwoSides : List Str := ["a", "b", "ties", "i", "j"]
theorem ndTwoSides : (nmTwoSides : List Str).Nodup := by decide +kernel
theorem okTwoSides {CW CN : Addr} {f : Addr} {fd : FuncData} (F : Fun K "two_sides" "two_sides" sTwoSides f fd) (B : Bi mg) (W : WebK K mg CW) (Z : WebZ P w K mg base CW) (f_bet : DefP P w K mg base 3 "need_between" ["what", "number", "low", "high"] (rR (Vbetween CN))) : FnG P w K mg base 6 f fd ["a", "b"] (rR (Vtwo2 CW CN)) := by
  refine FnG.of F scTwoSides (rR_len fun ds r ⟨_, _, e, _⟩ => by rw [e]; rfl) fun cdv A outer s H E ds μ Q J hr hg ⟨e2, z⟩ => ?_
  subst e2
  rcases z with ⟨d, ⟨x, y, e, ⟨T, hT⟩, mx, ⟨T', hT'⟩, my, ⟨a, b, rfl, rfl, h1, h2, h3, h4, ed⟩ | ⟨_, ed⟩ | ⟨_, _, ed⟩⟩, q⟩ | ⟨C, fs, ⟨x, y, e, ⟨T, hT⟩, mx, ⟨T', hT'⟩, my, ⟨_, _, _, _, _, _, _, _, ed⟩ | ⟨no, ed⟩ | ⟨⟨a, rfl, h1, h2⟩, no, ed⟩⟩, j⟩
  · subst e
    cases ed
    refine dSs_cons <| dS_expr <| dE_go f_bet (hr.mono (by decide)) hg <| dA_cons <| dE_str <| dA_cons <| dE_var 0 rfl rfl <| dA_cons <| dE_int <| dA_cons <| dE_int <| dA_nil <| mk_fr rfl rfl ⟨_, _, _, _, rfl, ⟨_, rfl⟩, rfl, .inl ⟨a, rfl, h1, h2, rfl⟩⟩ ?_
    refine dSs_cons <| dS_expr <| dE_go f_bet (hr.mono (by decide)) hg <| dA_cons <| dE_str <| dA_cons <| dE_var 1 rfl rfl <| dA_cons <| dE_int <| dA_cons <| dE_int <| dA_nil <| mk_fr rfl rfl ⟨_, _, _, _, rfl, ⟨_, rfl⟩, rfl, .inl ⟨b, rfl, h3, h4, rfl⟩⟩ ?_
    refine dSs_cons <| dS_set 2 ndTwoSides rfl <| dE_lst <| dA_nil ⟨by walk_at "lz", ?_⟩
    show dSs _ _ _ [some (.int a), some (.int b), some (.lst ((twoP a b 0).map prDt)), none, none] [] _
    refine dSs_cons <| dS_for (passes_of rfl) rfl <| dI_range1 B.range <| dA_cons <| dE_var 0 rfl rfl <| dA_nil ⟨_, rfl, by omega, by omega, fun i ρ' μ' => i ≤ a.toNat ∧ μ' = [] ∧ ∃ x y, ρ' = [some (.int a), some (.int b), some (.lst ((twoP a b i).map prDt)), x, y], ⟨by omega, rfl, _, _, rfl⟩, fun _ _ _ _ => trivial, ?_, ?_⟩
    · rintro i z ρ' μ' hx ⟨hi, rfl, x, y, rfl⟩
      obtain ⟨hi2, rfl⟩ := rng_get hx
      have hf := two_len (a := a) (b := b) (k := i) (by omega)
      refine dG_name 3 ndTwoSides rfl ?_
      refine dSs_cons <| dS_set 2 ndTwoSides rfl <| dE_bin od_catL <| dE_var 2 rfl rfl <| dE_lcG [("j", 4)] (fun j : Nat => .int (0 + (j : Int))) (fun j : Nat => prDt (0 + (i : Int), a + (0 + (j : Int)))) rfl ndTwoSides (blkOk_by (by show blkC (nmTwoSides : List Str) (defScope sTwoSides) _ _ = true; decide +kernel)) <|
        dI_range1 B.range <| dA_cons <| dE_var 1 rfl rfl <| dA_nil ⟨_, rfl, by omega, by omega, trivial, List.range b.toNat, rfl, by walk_at "lz", fun k hk s1 H1 C1 cl1 fp1 => dGv_name 4 ndTwoSides rfl ⟨rfl, fun s2 H2 C2 cl2 fp2 => dE_tup <| dA_cons <| dE_var 3 rfl rfl <| dA_cons <| dE_bin od_add <| dE_var 0 rfl rfl <| dE_var 4 rfl rfl <| mk_I0 <| dA_nil ⟨by walk_at "lz", rfl, rfl⟩⟩, _, _, rfl, rfl, by rw [sizeLine_eq, List.length_map, List.length_map, List.length_range]; omega, ?_⟩
      rw [tiesOf_map, ← List.map_append]
      have : twoP a b i ++ tiesOf b (fun (j : Nat) => (0 + (i : Int), a + (0 + (j : Int)))) = twoP a b (i + 1) := by
        rw [twoP, twoP, List.range_succ, List.flatMap_append, List.flatMap_cons, List.flatMap_nil, List.append_nil]
      rw [this]
      exact dSs_nil ⟨by omega, rfl, _, _, rfl⟩
    · rintro ρ' μ' ⟨_, rfl, x, y, rfl⟩
      rw [rng_length]
      exact dSs_cons <| dS_ret <| dE_webS Z W.g hr hg <| dE_bin od_add <| dE_var 0 rfl rfl <| dE_var 1 rfl rfl <| mk_I0 <| dE_callTy (hv := Boot.«tuple») cd_tuple B.tuple <| dA_cons <| dE_var 2 rfl rfl <| dA_nil ⟨_, _, rfl, rfl, a + b, twoP a b a.toNat, rfl, rfl, by omega, by omega, two_ok h1 h2 h3 h4, q _⟩
  · cases ed
  · cases ed
  · cases ed
  · subst e
    cases ed
    exact dSs_cons <| dS_expr <| dE_go f_bet (hr.mono (by decide)) hg <| dA_cons <| dE_str <| dA_cons <| dE_var 0 rfl rfl <| dA_cons <| dE_int <| dA_cons <| dE_int <| dA_nil <| mk_fx (mfs4 rfl mx rfl rfl) (by simp [erF, mff, mx, Dt.mf]) ⟨_, _, _, _, rfl, ⟨T, hT⟩, mx, .inr ⟨no, rfl⟩⟩ (j _)
  · subst e
    cases ed
    refine dSs_cons <| dS_expr <| dE_go f_bet (hr.mono (by decide)) hg <| dA_cons <| dE_str <| dA_cons <| dE_var 0 rfl rfl <| dA_cons <| dE_int <| dA_cons <| dE_int <| dA_nil <| mk_fr rfl rfl ⟨_, _, _, _, rfl, ⟨_, rfl⟩, rfl, .inl ⟨a, rfl, h1, h2, rfl⟩⟩ ?_
    exact dSs_cons <| dS_expr <| dE_go f_bet (hr.mono (by decide)) hg <| dA_cons <| dE_str <| dA_cons <| dE_var 1 rfl rfl <| dA_cons <| dE_int <| dA_cons <| dE_int <| dA_nil <| mk_fx (mfs4 rfl my rfl rfl) (by simp [erF, mff, my, Dt.mf]) ⟨_, _, _, _, rfl, ⟨T', hT'⟩, my, .inr ⟨no, rfl⟩⟩ (j _)
/-! ### grids -/
def hzP (a b : Int) (k : Nat) : List (Int × Int) := (List.range k).flatMap fun (i : Nat) => tiesOf (b - 1) fun (j : Nat) => ((0 + (i : Int)) * b + (0 + (j : Int)), (0 + (i : Int)) * b + (0 + (j : Int)) + 1)
def vtP (a b : Int) (k : Nat) : List (Int × Int) := (List.range k).flatMap fun (i : Nat) => tiesOf b fun (j : Nat) => ((0 + (i : Int)) * b + (0 + (j : Int)), (0 + (i : Int) + 1) * b + (0 + (j : Int)))
theorem hz_len {a b : Int} {k : Nat} (h : b ≤ 12) : (hzP a b k).length ≤ k * 12 := by
  have := flat_len (f := fun (i : Nat) => tiesOf (b - 1) fun (j : Nat) => ((0 + (i : Int)) * b + (0 + (j : Int)), (0 + (i : Int)) * b + (0 + (j : Int)) + 1)) (l := List.range k) (c := 12) fun x _ => by rw [tiesOf_len]; omega
  rwa [List.length_range] at this
theorem vt_len {a b : Int} {k : Nat} (h : b ≤ 12) : (vtP a b k).length ≤ k * 12 := by
  have := flat_len (f := fun (i : Nat) => tiesOf b fun (j : Nat) => ((0 + (i : Int)) * b + (0 + (j : Int)), (0 + (i : Int) + 1) * b + (0 + (j : Int)))) (l := List.range k) (c := 12) fun x _ => by rw [tiesOf_len]; omega
  rwa [List.length_range] at this
def gdT (a b : Int) : List (Int × Int) := hzP a b a.toNat ++ vtP a b (a - 1).toNat
theorem gd_ok {a b : Int} (h1 : 1 ≤ a) (h2 : 1 ≤ b) (h3 : a * b ≤ 12) (ha : a ≤ 12) (hb : b ≤ 12) : okT (a * b) (gdT a b) = true := by
  have := fin2_of (f := fun a b => !decide (a * b ≤ 12) || okT (a * b) (gdT a b)) (lo := 1) (m := 12) (by decide +kernel) h1 (by omega) h2 (by omega)
  rwa [decide_eq_true h3] at this
def Vgrid2 (CW CN CM : Addr) : List Dt → Res → Prop := fun ds r => ∃ x y, ds = [x, y] ∧ (∃ T, tyS x = some T) ∧ x.mf = true ∧ (∃ T, tyS y = some T) ∧ y.mf = true ∧
  ((∃ a b, x = .int a ∧ y = .int b ∧ 1 ≤ a ∧ a ≤ 12 ∧ 1 ≤ b ∧ b ≤ 12 ∧ a * b ≤ 12 ∧ r = .inl (webD CW (a * b) (srtP (gdT a b)))) ∨ ((∀ i, x = .int i → i < 1) ∧ r = .inr (CN, erF ["what", "number"] [.str "a", x])) ∨
    ((∃ a, x = .int a ∧ 1 ≤ a) ∧ (∀ i, y = .int i → i < 1) ∧ r = .inr (CN, erF ["what", "number"] [.str "b", y])) ∨
    (∃ a b, x = .int a ∧ y = .int b ∧ 1 ≤ a ∧ a ≤ 1000 ∧ 1 ≤ b ∧ b ≤ 1000 ∧ 12 < a * b ∧ r = .inr (CM, erF ["what", "many", "limit"] [.str "size", .int (a * b), .int 12])))
abbrev sGridW : Stmt := tp 38
theorem scGridW : FnScope ["a", "b", "what", "number", "ties", "i", "j"] ["a", "b"] (defScope sGridW) := ⟨rfl, rfl, rfl, by decide +kernel, rfl, by decide +kernel, by decide +kernel⟩
abbrev nmGridW : List Str := ["a", "b", "what", "number", "ties", "i", "j"]
theorem ndGridW : (nmGridW : List Str).Nodup := by decide +kernel
abbrev gridIf : List Stmt := match ((defBody sGridW : List Stmt)[0]? : Option Stmt) with
  | some (Stmt.For _ _ b _ _) => b
  | _ => []
theorem grid_in {f c : Addr} {A : Around} {outer : List Env} {s : Shared} {H : Hp} {E : XK} {J : JX} {D : DEnds} {cdv : Value} {a : Int} {x y u v5 v6 v7 : Option Dt} (hr : Room 5 (cxOf (L2.CX P w) P w K mg base nmGridW "grid" (defScope sGridW) f cdv A outer s H E).A) (hg : (cxOf (L2.CX P w) P w K mg base nmGridW "grid" (defScope sGridW) f cdv A outer s H E).A.guards = some [])
    (f_whole : DefP P w K mg base 1 "is_whole" ["value"] (rP (V1 fun x => .bl (wholeD x)))) (h1 : 1 ≤ a) (q : D.nx [x, y, u, some (.int a), v5, v6, v7] []) :
    dSs (cxOf (L2.CX P w) P w K mg base nmGridW "grid" (defScope sGridW) f cdv A outer s H E) J gridIf [x, y, u, some (.int a), v5, v6, v7] [] D := by
  refine dSs_cons <| dS_if <| dT_bool <| dW_or <| dT_not <| dT_val <| dE_go f_whole (hr.mono (by decide)) hg <| dA_cons <| dE_var 3 rfl rfl <| dA_nil <| mk_fn (mfs1 rfl) rfl ⟨.int a, "int", rfl, rfl, rfl⟩ <| mk_B ?_
  refine dW_or1 <| dT_cmp od_lt <| dE_var 3 rfl rfl <| dE_int <| mk_I0 <| mk_B ?_
  rw [decide_eq_false (show ¬ (a < 1) by omega)]
  exact dSs_nil <| dSs_nil q
theorem grid_out {CN f c : Addr} {A : Around} {outer : List Env} {s : Shared} {H : Hp} {E : XK} {J : JX} {D : DEnds} {cdv : Value} {z : Dt} {what : Str} {x y v5 v6 v7 : Option Dt} (hr : Room 5 (cxOf (L2.CX P w) P w K mg base nmGridW "grid" (defScope sGridW) f cdv A outer s H E).A) (hg : (cxOf (L2.CX P w) P w K mg base nmGridW "grid" (defScope sGridW) f cdv A outer s H E).A.guards = some [])
    (Er : ErK P w K mg base CN ["what", "number"]) (gN : mg "BadNumber" = some (.ref CN)) (f_whole : DefP P w K mg base 1 "is_whole" ["value"] (rP (V1 fun x => .bl (wholeD x)))) {T : String} (hT : tyS z = some T) (mz : z.mf = true) (no : ∀ i, z = .int i → i < 1) (j : J CN (erF ["what", "number"] [.str what, z]) []) :
    dSs (cxOf (L2.CX P w) P w K mg base nmGridW "grid" (defScope sGridW) f cdv A outer s H E) J gridIf [x, y, some (.str what), some z, v5, v6, v7] [] D := by
  refine dSs_cons <| dS_if <| dT_bool <| dW_or <| dT_not <| dT_val <| dE_go f_whole (hr.mono (by decide)) hg <| dA_cons <| dE_var 3 rfl rfl <| dA_nil <| mk_fn (mfs1 mz) rfl ⟨z, T, rfl, hT, rfl⟩ <| mk_B ?_
  cases hw : wholeD z with
  | false => exact dSs_cons <| dS_raiseE rfl Er (hr.mono (by decide)) gN (by simp) <| dA_cons <| dE_var 2 rfl rfl <| dA_cons <| dE_var 3 rfl rfl <| dA_nil ⟨by simp [erF, mff, mz, Dt.mf], j⟩
  | true =>
    obtain ⟨i, rfl⟩ : ∃ i, z = .int i := by cases z <;> simp [wholeD] at hw; exact ⟨_, rfl⟩
    refine dW_or1 <| dT_cmp od_lt <| dE_var 3 rfl rfl <| dE_int <| mk_I0 <| mk_B ?_
    rw [decide_eq_true (no i rfl)]
    exact dSs_cons <| dS_raiseE rfl Er (hr.mono (by decide)) gN (by simp) <| dA_cons <| dE_var 2 rfl rfl <| dA_cons <| dE_var 3 rfl rfl <| dA_nil ⟨by simp [erF, mff, Dt.mf], j⟩
theorem okGridW {CW CN CM : Addr} {t12 : Tok} {f : Addr} {fd : FuncData} (F : Fun K "grid" "grid" sGridW f fd) (B : Bi mg) (W : WebK K mg CW) (Z : WebZ P w K mg base CW) (g12 : mg "MOST_SIZE" = some (.int 12 t12)) (Er : ErK P w K mg base CN ["what", "number"]) (gN : mg "BadNumber" = some (.ref CN)) (Em : ErK P w K mg base CM ["what", "many", "limit"]) (gM : mg "TooMany" = some (.ref CM))
    (f_whole : DefP P w K mg base 1 "is_whole" ["value"] (rP (V1 fun x => .bl (wholeD x)))) : FnG P w K mg base 6 f fd ["a", "b"] (rR (Vgrid2 CW CN CM)) := by
  refine FnG.of F scGridW (rR_len fun ds r ⟨_, _, e, _⟩ => by rw [e]; rfl) fun cdv A outer s H E ds μ Q J hr hg ⟨e2, z⟩ => ?_
  subst e2
  have two : ∀ {D : DEnds} {rest : List Stmt} (a b : Int), 1 ≤ a → 1 ≤ b → (∀ w1 w2, dSs (cxOf (L2.CX P w) P w K mg base nmGridW "grid" (defScope sGridW) f cdv A outer s H E) J ((defBody sGridW).drop 1) [some (.int a), some (.int b), w1, w2, none, none, none] [] D) →
      dSs (cxOf (L2.CX P w) P w K mg base nmGridW "grid" (defScope sGridW) f cdv A outer s H E) J (defBody sGridW) [some (.int a), some (.int b), none, none, none, none, none] [] D := fun {D rest} a b ha hb hrest => by
    refine dSs_cons <| dS_for (passes_of rfl) rfl <| dI_seq <| dE_tup <| dA_cons <| dE_tup <| dA_cons <| dE_str <| dA_cons <| dE_var 0 rfl rfl <| dA_nil ⟨by walk_at "lz", dA_cons <| dE_tup <| dA_cons <| dE_str <| dA_cons <| dE_var 1 rfl rfl <| dA_nil ⟨by walk_at "lz", dA_nil ⟨by walk_at "lz", _, rfl, fun i ρ' μ' => μ' = [] ∧ ∃ w1 w2, ρ' = [some (.int a), some (.int b), w1, w2, none, none, none], ⟨rfl, _, _, rfl⟩, fun _ _ _ _ => rfl, ?_, ?_⟩⟩⟩
    · rintro i z ρ' μ' hx ⟨rfl, w1, w2, rfl⟩
      match i, hx with
      | 0, hx =>
        cases hx
        refine dG_tup rfl rfl <| dGs_cons <| dG_name 2 ndGridW rfl <| dGs_cons <| dG_name 3 ndGridW rfl <| dGs_nil ?_
        exact grid_in (c := 0) hr hg f_whole ha ⟨rfl, _, _, rfl⟩
      | 1, hx =>
        cases hx
        refine dG_tup rfl rfl <| dGs_cons <| dG_name 2 ndGridW rfl <| dGs_cons <| dG_name 3 ndGridW rfl <| dGs_nil ?_
        exact grid_in (c := 0) hr hg f_whole hb ⟨rfl, _, _, rfl⟩
    · rintro ρ' μ' ⟨rfl, w1, w2, rfl⟩
      exact hrest w1 w2
  rcases z with ⟨d, ⟨x, y, e, ⟨T, hT⟩, mx, ⟨T', hT'⟩, my, ⟨a, b, rfl, rfl, h1, h2, h3, h4, h5, ed⟩ | ⟨_, ed⟩ | ⟨_, _, ed⟩ | ⟨_, _, _, _, _, _, _, _, _, ed⟩⟩, q⟩ | ⟨C, fs, ⟨x, y, e, ⟨T, hT⟩, mx, ⟨T', hT'⟩, my, ⟨_, _, _, _, _, _, _, _, _, ed⟩ | ⟨no, ed⟩ | ⟨⟨a, rfl, h1⟩, no, ed⟩ | ⟨a, b, rfl, rfl, h1, h2, h3, h4, h5, ed⟩⟩, j⟩
  · subst e
    cases ed
    refine two (rest := []) a b h1 h3 fun w1 w2 => ?_
    have cm : ∀ i : Int, CMul i b := fun i => .inr ⟨by omega, by omega⟩
    refine dSs_cons <| dS_if <| dT_cmp od_gt <| dE_bin od_mul <| dE_var 0 rfl rfl <| dE_var 1 rfl rfl <| mk_I (C := CMul) (cm a) <| dE_globI g12 <| mk_I0 <| mk_B <| iteN (decide_eq_false (by omega)) <| dSs_nil ?_
    refine dSs_cons <| dS_set 4 ndGridW rfl <| dE_lst <| dA_nil ⟨by walk_at "lz", ?_⟩
    show dSs _ _ _ [some (.int a), some (.int b), w1, w2, some (.lst ((hzP a b 0).map prDt)), none, none] [] _
    refine dSs_cons <| dS_for (passes_of rfl) rfl <| dI_range1 B.range <| dA_cons <| dE_var 0 rfl rfl <| dA_nil ⟨_, rfl, by omega, by omega, fun i ρ' μ' => i ≤ a.toNat ∧ μ' = [] ∧ ∃ x, ρ' = [some (.int a), some (.int b), w1, w2, some (.lst ((hzP a b i).map prDt)), x, none], ⟨by omega, rfl, _, rfl⟩, fun _ _ _ _ => trivial, ?_, ?_⟩
    · rintro i z ρ' μ' hx ⟨hi, rfl, x, rfl⟩
      obtain ⟨hi2, rfl⟩ := rng_get hx
      have hf := hz_len (a := a) (b := b) (k := i) h4
      refine dG_name 5 ndGridW rfl ?_
      refine dSs_cons <| dS_set 4 ndGridW rfl <| dE_bin od_catL <| dE_var 4 rfl rfl <| dE_lcG [("j", 6)] (fun j : Nat => .int (0 + (j : Int))) (fun j : Nat => prDt ((0 + (i : Int)) * b + (0 + (j : Int)), (0 + (i : Int)) * b + (0 + (j : Int)) + 1)) rfl ndGridW (blkOk_by (by show blkC (nmGridW : List Str) (defScope sGridW) _ _ = true; decide +kernel)) <|
        dI_range1 B.range <| dA_cons <| dE_bin od_sub <| dE_var 1 rfl rfl <| dE_int <| mk_I0 <| dA_nil ⟨_, rfl, by omega, by omega, trivial, List.range (b - 1).toNat, rfl, by walk_at "lz", fun k hk s1 H1 C1 cl1 fp1 => dGv_name 6 ndGridW rfl ⟨rfl, fun s2 H2 C2 cl2 fp2 => dE_tup <| dA_cons <| dE_bin od_add <| dE_bin od_mul <| dE_var 5 rfl rfl <| dE_var 1 rfl rfl <| mk_I (C := CMul) (cm _) <| dE_var 6 rfl rfl <| mk_I0 <| dA_cons <| dE_bin od_add <| dE_bin od_add <| dE_bin od_mul <| dE_var 5 rfl rfl <| dE_var 1 rfl rfl <| mk_I (C := CMul) (cm _) <| dE_var 6 rfl rfl <| mk_I0 <| dE_int <| mk_I0 <| dA_nil ⟨by walk_at "lz", rfl, rfl⟩⟩, _, _, rfl, rfl, by rw [sizeLine_eq, List.length_map, List.length_map, List.length_range]; omega, ?_⟩
      rw [tiesOf_map (b - 1) (fun (j : Nat) => ((0 + (i : Int)) * b + (0 + (j : Int)), (0 + (i : Int)) * b + (0 + (j : Int)) + 1)), ← List.map_append]
      have : hzP a b i ++ tiesOf (b - 1) (fun (j : Nat) => ((0 + (i : Int)) * b + (0 + (j : Int)), (0 + (i : Int)) * b + (0 + (j : Int)) + 1)) = hzP a b (i + 1) := by
        rw [hzP, hzP, List.range_succ, List.flatMap_append, List.flatMap_cons, List.flatMap_nil, List.append_nil]
      rw [this]
      exact dSs_nil ⟨by omega, rfl, _, rfl⟩
    · rintro ρ' μ' ⟨_, rfl, x, rfl⟩
      rw [rng_length]
      have hh := hz_len (a := a) (b := b) (k := a.toNat) h4
      have e0 : (hzP a b a.toNat).map prDt = ((hzP a b a.toNat) ++ vtP a b 0).map prDt := by simp [vtP]
      rw [e0]
      refine dSs_cons <| dS_for (passes_of rfl) rfl <| dI_range1 B.range <| dA_cons <| dE_bin od_sub <| dE_var 0 rfl rfl <| dE_int <| mk_I0 <| dA_nil ⟨_, rfl, by omega, by omega, fun i ρ' μ' => i ≤ (a - 1).toNat ∧ μ' = [] ∧ ∃ x, ρ' = [some (.int a), some (.int b), w1, w2, some (.lst ((hzP a b a.toNat ++ vtP a b i).map prDt)), x, none], ⟨by omega, rfl, _, rfl⟩, fun _ _ _ _ => trivial, ?_, ?_⟩
      · rintro i z ρ' μ' hx ⟨hi, rfl, x, rfl⟩
        obtain ⟨hi2, rfl⟩ := rng_get hx
        have hf := vt_len (a := a) (b := b) (k := i) h4
        refine dG_name 5 ndGridW rfl ?_
        refine dSs_cons <| dS_set 4 ndGridW rfl <| dE_bin od_catL <| dE_var 4 rfl rfl <| dE_lcG [("j", 6)] (fun j : Nat => .int (0 + (j : Int))) (fun j : Nat => prDt ((0 + (i : Int)) * b + (0 + (j : Int)), (0 + (i : Int) + 1) * b + (0 + (j : Int)))) rfl ndGridW (blkOk_by (by show blkC (nmGridW : List Str) (defScope sGridW) _ _ = true; decide +kernel)) <|
          dI_range1 B.range <| dA_cons <| dE_var 1 rfl rfl <| dA_nil ⟨_, rfl, by omega, by omega, trivial, List.range b.toNat, rfl, by walk_at "lz", fun k hk s1 H1 C1 cl1 fp1 => dGv_name 6 ndGridW rfl ⟨rfl, fun s2 H2 C2 cl2 fp2 => dE_tup <| dA_cons <| dE_bin od_add <| dE_bin od_mul <| dE_var 5 rfl rfl <| dE_var 1 rfl rfl <| mk_I (C := CMul) (cm _) <| dE_var 6 rfl rfl <| mk_I0 <| dA_cons <| dE_bin od_add <| dE_bin od_mul <| dE_bin od_add <| dE_var 5 rfl rfl <| dE_int <| mk_I0 <| dE_var 1 rfl rfl <| mk_I (C := CMul) (cm _) <| dE_var 6 rfl rfl <| mk_I0 <| dA_nil ⟨by walk_at "lz", rfl, rfl⟩⟩, _, _, rfl, rfl, by rw [sizeLine_eq, List.length_map, List.length_map, List.length_range, List.length_append]; omega, ?_⟩
        rw [tiesOf_map b (fun (j : Nat) => ((0 + (i : Int)) * b + (0 + (j : Int)), (0 + (i : Int) + 1) * b + (0 + (j : Int)))), ← List.map_append]
        have : hzP a b a.toNat ++ vtP a b i ++ tiesOf b (fun (j : Nat) => ((0 + (i : Int)) * b + (0 + (j : Int)), (0 + (i : Int) + 1) * b + (0 + (j : Int)))) = hzP a b a.toNat ++ vtP a b (i + 1) := by
          rw [List.append_assoc]
          congr 1
          rw [vtP, vtP, List.range_succ, List.flatMap_append, List.flatMap_cons, List.flatMap_nil, List.append_nil]
        rw [this]
        exact dSs_nil ⟨by omega, rfl, _, rfl⟩
      · rintro ρ' μ' ⟨_, rfl, x, rfl⟩
        rw [rng_length]
        exact dSs_cons <| dS_ret <| dE_webS Z W.g hr hg <| dE_bin od_mul <| dE_var 0 rfl rfl <| dE_var 1 rfl rfl <| mk_I (C := CMul) (cm a) <| dE_callTy (hv := Boot.«tuple») cd_tuple B.tuple <| dA_cons <| dE_var 4 rfl rfl <| dA_nil ⟨_, _, rfl, rfl, a * b, gdT a b, rfl, rfl, by have := Int.mul_pos (show 0 < a by omega) (show 0 < b by omega); omega, h5, gd_ok h1 h3 h5 h2 h4, q _⟩
  · cases ed
  · cases ed
  · cases ed
  · cases ed
  · subst e
    cases ed
    refine dSs_cons <| dS_for (passes_of rfl) rfl <| dI_seq <| dE_tup <| dA_cons <| dE_tup <| dA_cons <| dE_str <| dA_cons <| dE_var 0 rfl rfl <| dA_nil ⟨by walk_at "lz", dA_cons <| dE_tup <| dA_cons <| dE_str <| dA_cons <| dE_var 1 rfl rfl <| dA_nil ⟨by walk_at "lz", dA_nil ⟨by walk_at "lz", _, rfl, fun i ρ' μ' => i = 0 ∧ μ' = [] ∧ ρ' = [some x, some y, none, none, none, none, none], ⟨rfl, rfl, rfl⟩, fun _ _ _ _ => rfl, ?_, ?_⟩⟩⟩
    · rintro i z ρ' μ' hx ⟨rfl, rfl, rfl⟩
      cases hx
      refine dG_tup rfl rfl <| dGs_cons <| dG_name 2 ndGridW rfl <| dGs_cons <| dG_name 3 ndGridW rfl <| dGs_nil ?_
      exact grid_out (c := 0) (what := "a") hr hg Er gN f_whole hT mx no (j _)
    · rintro ρ' μ' ⟨z, _⟩
      cases z
  · subst e
    cases ed
    refine dSs_cons <| dS_for (passes_of rfl) rfl <| dI_seq <| dE_tup <| dA_cons <| dE_tup <| dA_cons <| dE_str <| dA_cons <| dE_var 0 rfl rfl <| dA_nil ⟨by walk_at "lz", dA_cons <| dE_tup <| dA_cons <| dE_str <| dA_cons <| dE_var 1 rfl rfl <| dA_nil ⟨by walk_at "lz", dA_nil ⟨by walk_at "lz", _, rfl, fun i ρ' μ' => i < 2 ∧ μ' = [] ∧ ∃ w1 w2, ρ' = [some (.int a), some y, w1, w2, none, none, none], ⟨by decide, rfl, _, _, rfl⟩, fun _ _ _ _ => rfl, ?_, ?_⟩⟩⟩
    · rintro i z ρ' μ' hx ⟨hi, rfl, w1, w2, rfl⟩
      match i, hx, hi with
      | 0, hx, _ =>
        cases hx
        refine dG_tup rfl rfl <| dGs_cons <| dG_name 2 ndGridW rfl <| dGs_cons <| dG_name 3 ndGridW rfl <| dGs_nil ?_
        exact grid_in (c := 0) hr hg f_whole h1 ⟨by decide, rfl, _, _, rfl⟩
      | 1, hx, _ =>
        cases hx
        refine dG_tup rfl rfl <| dGs_cons <| dG_name 2 ndGridW rfl <| dGs_cons <| dG_name 3 ndGridW rfl <| dGs_nil ?_
        exact grid_out (c := 0) (what := "b") hr hg Er gN f_whole hT' my no (j _)
    · rintro ρ' μ' ⟨z, _⟩
      exact absurd z (by simp)
  · subst e
    cases ed
    refine two (rest := []) a b h1 h3 fun w1 w2 => ?_
    have cm : CMul a b := .inr ⟨by omega, by omega⟩
    refine dSs_cons <| dS_if <| dT_cmp od_gt <| dE_bin od_mul <| dE_var 0 rfl rfl <| dE_var 1 rfl rfl <| mk_I (C := CMul) cm <| dE_globI g12 <| mk_I0 <| mk_B <| iteY (decide_eq_true h5) ?_
    exact dSs_cons <| dS_raiseE rfl Em (hr.mono (by decide)) gM (by simp) <| dA_cons <| dE_str <| dA_cons <| dE_bin od_mul <| dE_var 0 rfl rfl <| dE_var 1 rfl rfl <| mk_I (C := CMul) cm <| dA_cons <| dE_globI g12 <| dA_nil ⟨rfl, j _⟩
/-! ### Petersen's web -/
def stT : List (Int × Int) := [(5, 7), (6, 8), (7, 9), (5, 8), (6, 9)]
def ptT : List (Int × Int) := rgT 5 0 ++ tiesOf 5 (fun (k : Nat) => (0 + (k : Int), 0 + (k : Int) + 5)) ++ stT
theorem pt_ok : okT 10 ptT = true := by decide +kernel
theorem st_eq : ((List.range (5 : Int).toNat).map fun (k : Nat) => Dt.tup ((srtI [0 + (k : Int) + 5, (0 + (k : Int) + 2) % 5 + 5]).map .int)) = stT.map prDt := by rfl
abbrev sPeterW : Stmt := tp 39
theorem scPeterW : FnScope ["ties", "i"] [] (defScope sPeterW) := ⟨rfl, rfl, rfl, by decide +kernel, rfl, by decide +kernel, by decide +kernel⟩
abbrev nmPeterW : List Str := ["ties", "i"]
theorem ndPeterW : (nmPeterW : List Str).Nodup := by decide +kernel
theorem okPeterW {CW : Addr} {f : Addr} {fd : FuncData} (F : Fun K "petersen_web" "petersen_web" sPeterW f fd) (B : Bi mg) (W : WebK K mg CW) (Z : WebZ P w K mg base CW) (f_rt : DefP P w K mg base 1 "ring_ties" ["size", "start"] (rP VrgT)) : FnG P w K mg base 6 f fd [] (rP (Vconst CW 10 ptT)) := by
  refine FnG.of F scPeterW (rP_len fun ds d ⟨e, _⟩ => by rw [e]; rfl) fun cdv A outer s H E ds μ Q J hr hg ⟨d, ⟨e, ed⟩, e2, q⟩ => ?_
  subst e ed e2
  have hl := rgT_len (n := 5) (s := 0) (by omega)
  have hl2 : (stT.map prDt).length = 5 := rfl
  refine dSs_cons <| dS_set 0 ndPeterW rfl <| dE_bin od_catL <| dE_go f_rt (hr.mono (by decide)) hg <| dA_cons <| dE_int <| dA_cons <| dE_int <| dA_nil <| mk_fn rfl (ties_lmf _) ⟨5, 0, rfl, by omega, by omega, rfl⟩ ?_
  refine dE_lcG [("i", 1)] (fun k : Nat => .int (0 + (k : Int))) (fun k : Nat => prDt (0 + (k : Int), 0 + (k : Int) + 5)) rfl ndPeterW (blkOk_by (by show blkC (nmPeterW : List Str) (defScope sPeterW) _ _ = true; decide +kernel)) <| dI_range1 B.range <| dA_cons <| dE_int <| dA_nil ⟨_, rfl, by omega, by omega, trivial, List.range (5 : Int).toNat, rfl, by walk_at "lz", fun k hk s1 H1 C1 cl1 fp1 => dGv_name 1 ndPeterW rfl ⟨rfl, fun s2 H2 C2 cl2 fp2 => dE_tup <| dA_cons <| dE_var 1 rfl rfl <| dA_cons <| dE_bin od_add <| dE_var 1 rfl rfl <| dE_int <| mk_I0 <| dA_nil ⟨by walk_at "lz", rfl, rfl⟩⟩, _, _, rfl, rfl, by rw [sizeLine_eq, List.length_map, List.length_map, List.length_range, hl]; decide, ?_⟩
  have e : (rgT 5 0).map prDt ++ ((List.range (5 : Int).toNat).map fun (k : Nat) => prDt (0 + (k : Int), 0 + (k : Int) + 5)) = (rgT 5 0 ++ tiesOf 5 (fun (k : Nat) => (0 + (k : Int), 0 + (k : Int) + 5))).map prDt := by rw [List.map_append, tiesOf_map 5 fun (k : Nat) => (0 + (k : Int), 0 + (k : Int) + 5)]
  rw [e]
  show dSs _ _ _ [some (.lst ((rgT 5 0 ++ tiesOf 5 (fun (k : Nat) => (0 + (k : Int), 0 + (k : Int) + 5))).map prDt)), none] [] _
  refine dSs_cons <| dS_set 0 ndPeterW rfl <| dE_bin od_catL <| dE_var 0 rfl rfl <| dE_lcG [("i", 1)] (fun k : Nat => .int (0 + (k : Int))) (fun k : Nat => .tup ((srtI [0 + (k : Int) + 5, (0 + (k : Int) + 2) % 5 + 5]).map .int)) rfl ndPeterW (blkOk_by (by show blkC (nmPeterW : List Str) (defScope sPeterW) _ _ = true; decide +kernel)) <| dI_range1 B.range <| dA_cons <| dE_int <| dA_nil ⟨_, rfl, by omega, by omega, trivial, List.range (5 : Int).toNat, rfl, by walk_at "lz", fun k hk s1 H1 C1 cl1 fp1 => dGv_name 1 ndPeterW rfl ⟨rfl, fun s2 H2 C2 cl2 fp2 => dE_callTy (hv := Boot.«tuple») cd_tuple B.tuple <| dA_cons <| dE_callB (hv := Boot.«sorted») cd_sortedI B.sorted <| dA_cons <| dE_lst <| dA_cons <| dE_bin od_add <| dE_var 1 rfl rfl <| dE_int <| mk_I0 <| dA_cons <| dE_bin od_add <| dE_bin od_mod <| dE_bin od_add <| dE_var 1 rfl rfl <| dE_int <| mk_I0 <| dE_int <| mk_mod (by decide) <| dE_int <| mk_I0 <| dA_nil ⟨by walk_at "lz", dA_nil ⟨_, [_, _], rfl, rfl, (fun _ z => by cases z), dA_nil ⟨_, _, rfl, rfl, rfl, rfl⟩⟩⟩⟩, _, _, rfl, rfl, by rw [sizeLine_eq, List.length_map, List.length_map, List.length_range, List.length_append, hl, tiesOf_len]; decide, ?_⟩
  rw [st_eq, ← List.map_append]
  show dSs _ _ _ [some (.lst (ptT.map prDt)), none] [] _
  exact dSs_cons <| dS_ret <| dE_webS Z W.g hr hg <| dE_int <| dE_callTy (hv := Boot.«tuple») cd_tuple B.tuple <| dA_cons <| dE_var 0 rfl rfl <| dA_nil ⟨_, _, rfl, rfl, 10, ptT, rfl, rfl, by decide, by decide, pt_ok, q _⟩
end
end Law

/-! W63: ways on a place, a forest, counts. -/
namespace Law
open PySem PySem.Spec PyProof.Rows L2 DL
local macro_rules | `(tactic| walk_at "sd") => `(tactic| first | assumption | decide | exact Or.inr (by decide) | exact Or.inl (by decide) | exact ⟨by decide, by decide⟩ | exact ⟨by decide, by decide, by decide⟩ | omega | exact ⟨by omega, by omega⟩)
local macro_rules | `(tactic| walk_at "lz") => `(tactic| first | exact pen_len | (rw [sizeLine_eq]; simp; done) | (rw [sizeLine_eq]; simp; omega))
section
variable {P : Program} {w : World} {K : PySem.W.Frag} {mg : Str → Option Value} {base : Heap}
local macro_rules | `(tactic| walk_at "lz") => `(tactic| first | exact pen_len | (rw [sizeLine_eq]; simp; done) | (rw [sizeLine_eq]; simp; omega) | (rw [sizeLine_eq]; omega))
/-! ### ways on a place -/
def wyS (ts : List (Int × Int)) (p : Int) (k : Nat) : List (Int × Int) :=
  if [(ts.getD k (0, 0)).1, (ts.getD k (0, 0)).2].contains p = true then [(0 + (k : Int), if (p == (ts.getD k (0, 0)).1) = true then (ts.getD k (0, 0)).2 else (ts.getD k (0, 0)).1)] else []
def wyF (ts : List (Int × Int)) (p : Int) (m : Nat) : List (Int × Int) := (List.range m).flatMap (wyS ts p)
theorem wyS_len (ts : List (Int × Int)) (p : Int) (k : Nat) : (wyS ts p k).length ≤ 1 := by unfold wyS; split <;> simp
theorem wyF_len (ts : List (Int × Int)) (p : Int) (m : Nat) : (wyF ts p m).length ≤ m := by
  have := flat_len (f := wyS ts p) (l := List.range m) (c := 1) fun x _ => wyS_len ts p x
  rw [List.length_range] at this
  rw [wyF]
  omega
theorem wyF_succ (ts : List (Int × Int)) (p : Int) (m : Nat) : wyF ts p (m + 1) = wyF ts p m ++ wyS ts p m := by
  rw [wyF, wyF, List.range_succ, List.flatMap_append, List.flatMap_cons, List.flatMap_nil, List.append_nil]
def Vways (CW : Addr) : List Dt → Dt → Prop := fun ds d => ∃ n ts p, ds = [webD CW n ts, .int p] ∧ ts.length ≤ 40 ∧ d = .lst ((wyF ts p ts.length).map prDt)
abbrev sWaysOn : Stmt := tp 23
theorem scWaysOn : FnScope ["web", "place", "out", "number", "i", "j"] ["web", "place"] (defScope sWaysOn) := ⟨rfl, rfl, rfl, by decide +kernel, rfl, by decide +kernel, by decide +kernel⟩
abbrev nmWaysOn : List Str := ["web", "place", "out", "number", "i", "j"]
theorem ndWaysOn : (nmWaysOn : List Str).Nodup := by decide +kernel
theorem okWaysOn {CW : Addr} {f : Addr} {fd : FuncData} (F : Fun K "ways_on" "ways_on" sWaysOn f fd) (B : Bi mg) (W : WebK K mg CW) : FnG P w K mg base 1 f fd ["web", "place"] (rP (Vways CW)) := by
  refine FnG.of F scWaysOn (rP_len fun ds d ⟨_, _, _, e, _⟩ => by rw [e]; rfl) fun cdv A outer s H E ds μ Q J hr hg ⟨d, ⟨n, ts, p, e, hl, ed⟩, e2, q⟩ => ?_
  subst e ed e2
  refine dSs_cons <| dS_set 2 ndWaysOn rfl <| dE_lstM <| dA_nil ⟨by walk_at "lz", ?_⟩
  show dSs _ _ _ [some (webD CW n ts), some (.int p), some (.mut 0), none, none, none] [.lst ((wyF ts p 0).map prDt)] _
  refine dSs_cons <| dS_for (passes_of rfl) rfl <| dI_range1 B.range <| dA_cons <| dE_callB (hv := Boot.«len») cd_len B.len <| dA_cons <| dE_fld W.own.cl (W.free _ (by simp)) <| dE_var 0 rfl rfl ⟨_, tiesD ts, rfl, rfl, dA_nil ⟨_, ts.length, rfl, by simp [lenM, seqM, tiesD], dA_nil ⟨_, rfl, by omega, by omega, fun i ρ' μ' => i ≤ ts.length ∧ μ' = [.lst ((wyF ts p i).map prDt)] ∧ ∃ x y z, ρ' = [some (webD CW n ts), some (.int p), some (.mut 0), x, y, z], ⟨by omega, rfl, _, _, _, rfl⟩, fun _ _ _ _ => trivial, ?_, ?_⟩⟩⟩
  · rintro i z ρ' μ' hx ⟨hi, rfl, x, y, z', rfl⟩
    obtain ⟨hi2, rfl⟩ := rng_get hx
    have hi3 : i < ts.length := by omega
    have hwl := wyF_len ts p i
    refine dG_name 3 ndWaysOn rfl ?_
    refine dSs_cons <| dS_asg <| dE_idx <| dE_fld W.own.cl (W.free _ (by simp)) <| dE_var 0 rfl rfl ⟨_, tiesD ts, rfl, rfl, dE_var 3 rfl rfl ⟨_, _, _, rfl, rfl, atI_ties hi3, dG_tup rfl rfl <| dGs_cons <| dG_name 4 ndWaysOn rfl <| dGs_cons <| dG_name 5 ndWaysOn rfl <| dGs_nil ?_⟩⟩
    have key := wyF_succ ts p i
    unfold wyS at key
    generalize ts.getD i (0, 0) = t at key
    generalize wyF ts p i = acc at key hwl
    show dSs _ _ _ [some (webD CW n ts), some (.int p), some (.mut 0), some (.int (0 + (i : Int))), some (.int t.1), some (.int t.2)] [.lst (acc.map prDt)] _
    refine dSs_cons <| dS_if <| dT_cmp od_inI <| dE_var 1 rfl rfl <| dE_tup <| dA_cons <| dE_var 4 rfl rfl <| dA_cons <| dE_var 5 rfl rfl <| dA_nil ⟨by walk_at "lz", p, [t.1, t.2], rfl, rfl, mk_B ?_⟩
    refine iteB (fun hc => ?_) (fun hc => dSs_nil <| dSs_nil ⟨by omega, ?_, _, _, _, rfl⟩)
    · refine dSs_cons <| dS_expr <| dE_lm PySem.F.slot_list_append PySem.F.type_list_append md_append <| dE_var 2 rfl rfl ⟨⟨⟨_, rfl⟩, fun _ z => by cases z⟩, dA_cons <| dE_tup <| dA_cons <| dE_var 3 rfl rfl <| dA_cons <| dE.imp (Q := fun d μ1 => d = .int (if (p == t.1) = true then t.2 else t.1) ∧ μ1 = [.lst (acc.map prDt)]) ?_ fun d μ1 ⟨e1, e2⟩ => ?_⟩
      · refine dE_ifExp <| dT_cmp od_eqF <| dE_var 1 rfl rfl <| dE_var 4 rfl rfl ⟨_, rfl, mk_B ?_⟩
        refine iteB (fun h => dE_var 5 rfl rfl ⟨?_, rfl⟩) (fun h => dE_var 4 rfl rfl ⟨?_, rfl⟩)
        · rw [if_pos h]
        · rw [if_neg (by rw [h]; decide)]
      · subst e1 e2
        rw [if_pos hc] at key
        refine dA_nil ⟨by walk_at "lz", dA_nil ⟨0, _, _, rfl, rfl, rfl, by rw [sizeLine_eq, List.length_map]; omega, dSs_nil <| dSs_nil ⟨by omega, ?_, _, _, _, rfl⟩⟩⟩
        rw [key, List.map_append]
        rfl
    · rw [key, if_neg (by rw [hc]; decide), List.append_nil]
  · rintro ρ' μ' ⟨_, rfl, x, y, z, rfl⟩
    rw [rng_length, Int.toNat_natCast]
    refine dS_freeze 2 0 ((wyF ts p ts.length).map prDt) rfl rfl ?_
    exact dSs_cons <| dS_ret <| dE_var 2 rfl rfl <| q _
/-! ### the first forest -/
def fsS (ts : List (Int × Int)) (st : List Int × List Int) (k : Nat) : List Int × List Int :=
  if (st.2.getD (ts.getD k (0, 0)).1.toNat 0 == st.2.getD (ts.getD k (0, 0)).2.toNat 0) = true then st
  else (st.1 ++ [0 + (k : Int)], st.2.map fun h => if (h == (srtI [st.2.getD (ts.getD k (0, 0)).1.toNat 0, st.2.getD (ts.getD k (0, 0)).2.toNat 0]).getD 1 0) = true then (srtI [st.2.getD (ts.getD k (0, 0)).1.toNat 0, st.2.getD (ts.getD k (0, 0)).2.toNat 0]).getD 0 0 else h)
def fs0 (n : Int) : List Int × List Int := ([], (List.range n.toNat).map fun (k : Nat) => 0 + (k : Int))
def fsF (n : Int) (ts : List (Int × Int)) (m : Nat) : List Int × List Int := (List.range m).foldl (fsS ts) (fs0 n)
theorem fsF_succ (n : Int) (ts : List (Int × Int)) (m : Nat) : fsF n ts (m + 1) = fsS ts (fsF n ts m) m := by
  rw [fsF, List.range_succ, List.foldl_append]
  rfl
theorem fsF_len (n : Int) (ts : List (Int × Int)) : ∀ m, (fsF n ts m).1.length ≤ m ∧ (fsF n ts m).2.length = n.toNat
  | 0 => by simp [fsF, fs0]
  | m + 1 => by
    obtain ⟨h1, h2⟩ := fsF_len n ts m
    rw [fsF_succ]
    unfold fsS
    split
    · exact ⟨by omega, h2⟩
    · exact ⟨by rw [List.length_append]; simp; omega, by rw [List.length_map]; exact h2⟩
theorem srtI_two (a b : Int) : srtI [a, b] = [(srtI [a, b]).getD 0 0, (srtI [a, b]).getD 1 0] := by
  have h := (srtI_perm [a, b]).length_eq
  match srtI [a, b], h with
  | [x, y], _ => rfl
def frI (n : Int) (ts : List (Int × Int)) : List Int := (fsF n ts ts.length).1
theorem frI_len (n : Int) (ts : List (Int × Int)) : (frI n ts).length ≤ ts.length := (fsF_len n ts ts.length).1
def Vforest (CW : Addr) : List Dt → Dt → Prop := fun ds d => ∃ n ts, ds = [webD CW n ts] ∧ 1 ≤ n ∧ n ≤ 12 ∧ okT n ts = true ∧ d = lotD (frI n ts)
theorem rng_ints (n : Int) : rng 0 n.toNat = ((List.range n.toNat).map fun (k : Nat) => 0 + (k : Int)).map .int := by rw [List.map_map]; rfl
abbrev sForestBy : Stmt := tp 27
theorem scForestBy : FnScope ["web", "out", "homes", "number", "i", "j", "low", "high", "home"] ["web"] (defScope sForestBy) := ⟨rfl, rfl, rfl, by decide +kernel, rfl, by decide +kernel, by decide +kernel⟩
abbrev nmForestBy : List Str := ["web", "out", "homes", "number", "i", "j", "low", "high", "home"]
theorem ndForestBy : (nmForestBy : List Str).Nodup := by decide +kernel
theorem okForestBy {CW : Addr} {f : Addr} {fd : FuncData} (F : Fun K "forest_by" "forest_by" sForestBy f fd) (B : Bi mg) (W : WebK K mg CW) : FnG P w K mg base 1 f fd ["web"] (rP (Vforest CW)) := by
  refine FnG.of F scForestBy (rP_len fun ds d ⟨_, _, e, _⟩ => by rw [e]; rfl) fun cdv A outer s H E ds μ Q J hr hg ⟨d, ⟨n, ts, e, n1, n2, ok, ed⟩, e2, q⟩ => ?_
  subst e ed e2
  obtain ⟨hl, hall⟩ := okT_iff.mp ok
  refine dSs_cons <| dS_par 1 2 rfl ndForestBy rfl rfl <| dA_cons <| dE_lstM <| dA_nil ⟨by walk_at "lz", dA_cons <| dE_listRg1 rfl B.list B.range <| dE_fld W.own.cl (W.free _ (by simp)) <| dE_var 0 rfl rfl ⟨_, .int n, rfl, rfl, n, rfl, by omega, by omega, dA_nil ⟨_, _, rfl, ?_⟩⟩⟩
  rw [rng_ints]
  show dSs _ _ _ [some (webD CW n ts), some (.mut 0), some (.lst ((fsF n ts 0).2.map .int)), none, none, none, none, none, none] [.lst ((fsF n ts 0).1.map .int)] _
  refine dSs_cons <| dS_for (passes_of rfl) rfl <| dI_range1 B.range <| dA_cons <| dE_callB (hv := Boot.«len») cd_len B.len <| dA_cons <| dE_fld W.own.cl (W.free _ (by simp)) <| dE_var 0 rfl rfl ⟨_, tiesD ts, rfl, rfl, dA_nil ⟨_, ts.length, rfl, by simp [lenM, seqM, tiesD], dA_nil ⟨_, rfl, by omega, by omega, fun i ρ' μ' => i ≤ ts.length ∧ μ' = [.lst ((fsF n ts i).1.map .int)] ∧ ∃ v3 v4 v5 v6 v7, ρ' = [some (webD CW n ts), some (.mut 0), some (.lst ((fsF n ts i).2.map .int)), v3, v4, v5, v6, v7, none], ⟨by omega, rfl, _, _, _, _, _, rfl⟩, fun _ _ _ _ => trivial, ?_, ?_⟩⟩⟩
  · rintro i z ρ' μ' hx ⟨hi, rfl, v3, v4, v5, v6, v7, rfl⟩
    obtain ⟨hi2, rfl⟩ := rng_get hx
    have hi3 : i < ts.length := by omega
    obtain ⟨l1, l2⟩ := fsF_len n ts i
    have tk : tieOk n (ts.getD i (0, 0)) = true := hall _ (by rw [List.getD_eq_getElem?_getD, List.getElem?_eq_getElem hi3]; exact List.getElem_mem hi3)
    rw [tie_iff] at tk
    refine dG_name 3 ndForestBy rfl ?_
    refine dSs_cons <| dS_asg <| dE_idx <| dE_fld W.own.cl (W.free _ (by simp)) <| dE_var 0 rfl rfl ⟨_, tiesD ts, rfl, rfl, dE_var 3 rfl rfl ⟨_, _, _, rfl, rfl, atI_ties hi3, dG_tup rfl rfl <| dGs_cons <| dG_name 4 ndForestBy rfl <| dGs_cons <| dG_name 5 ndForestBy rfl <| dGs_nil ?_⟩⟩
    have key := fsF_succ n ts i
    unfold fsS at key
    generalize ts.getD i (0, 0) = t at key tk
    generalize fsF n ts i = st at key l1 l2
    obtain ⟨out, hm⟩ := st
    have l1 : out.length ≤ i := l1
    have l2 : hm.length = n.toNat := l2
    show dSs _ _ _ [some (webD CW n ts), some (.mut 0), some (.lst (hm.map .int)), some (.int (0 + (i : Int))), some (.int t.1), some (.int t.2), v6, v7, none] [.lst (out.map .int)] _
    have i1 : atI (hm.map Dt.int) t.1 = some (.int (hm.getD t.1.toNat 0)) := by
      have hk : t.1.toNat < (hm.map Dt.int).length := by rw [List.length_map]; show _ < hm.length; omega
      have hk2 : t.1.toNat < hm.length := by omega
      rw [atI_get tk.1 hk]
      simp [List.getD_eq_getElem?_getD, List.getElem?_eq_getElem hk2]
    have i2 : atI (hm.map Dt.int) t.2 = some (.int (hm.getD t.2.toNat 0)) := by
      have hk : t.2.toNat < (hm.map Dt.int).length := by rw [List.length_map]; show _ < hm.length; omega
      have hk2 : t.2.toNat < hm.length := by omega
      rw [atI_get (by omega) hk]
      simp [List.getD_eq_getElem?_getD, List.getElem?_eq_getElem hk2]
    generalize hm.getD t.1.toNat 0 = a at i1 key
    generalize hm.getD t.2.toNat 0 = b at i2 key
    refine dSs_cons <| dS_if <| dT_cmp od_neF <| dE_idx <| dE_var 2 rfl rfl <| dE_var 4 rfl rfl ⟨_, _, _, rfl, rfl, i1, dE_idx <| dE_var 2 rfl rfl <| dE_var 5 rfl rfl ⟨_, _, _, rfl, rfl, i2, _, rfl, mk_B ?_⟩⟩
    cases hab : (a == b) with
    | true =>
      rw [if_pos hab] at key
      refine iteN rfl <| dSs_nil <| dSs_nil ⟨by omega, ?_, some (.int (0 + (i : Int))), some (.int t.1), some (.int t.2), v6, v7, ?_⟩
      · rw [key]
      · rw [key]
    | false =>
      rw [if_neg (by rw [hab]; decide)] at key
      refine iteY rfl ?_
      refine dSs_cons <| dS_expr <| dE_lm PySem.F.slot_list_append PySem.F.type_list_append md_append <| dE_var 1 rfl rfl ⟨⟨⟨_, rfl⟩, fun _ z => by cases z⟩, dA_cons <| dE_var 3 rfl rfl <| dA_nil ⟨0, _, _, rfl, rfl, rfl, by rw [sizeLine_eq, List.length_map]; show out.length < _; omega, ?_⟩⟩
      have e1 : out.map Dt.int ++ [.int (0 + (i : Int))] = (out ++ [0 + (i : Int)]).map .int := by rw [List.map_append]; rfl
      show dSs _ _ _ _ [.lst (out.map Dt.int ++ [.int (0 + (i : Int))])] _
      rw [e1]
      refine dSs_cons <| dS_asg <| dE_callB (hv := Boot.«sorted») cd_sortedI B.sorted <| dA_cons <| dE_lst <| dA_cons <| dE_idx <| dE_var 2 rfl rfl <| dE_var 4 rfl rfl ⟨_, _, _, rfl, rfl, i1, dA_cons <| dE_idx <| dE_var 2 rfl rfl <| dE_var 5 rfl rfl ⟨_, _, _, rfl, rfl, i2, dA_nil ⟨by walk_at "lz", dA_nil ⟨_, [a, b], rfl, rfl, (fun _ z => by cases z), ?_⟩⟩⟩⟩
      have e2 := srtI_two a b
      generalize (srtI [a, b]).getD 0 0 = lo at e2 key
      generalize (srtI [a, b]).getD 1 0 = hi' at e2 key
      rw [e2]
      refine dG_lst rfl ⟨⟨_, rfl⟩, fun _ z => by cases z⟩ rfl rfl <| dGs_cons <| dG_name 6 ndForestBy rfl <| dGs_cons <| dG_name 7 ndForestBy rfl <| dGs_nil ?_
      show dSs _ _ _ [some (webD CW n ts), some (.mut 0), some (.lst (hm.map .int)), some (.int (0 + (i : Int))), some (.int t.1), some (.int t.2), some (.int lo), some (.int hi'), none] [.lst ((out ++ [0 + (i : Int)]).map .int)] _
      refine dSs_cons <| dS_setLcF 2 [("home", 8)] Dt.int (fun _ => true) (fun h : Int => .int (if (h == hi') = true then lo else h)) rfl ndForestBy rfl rfl (blkOk_by (by show blkC (nmForestBy : List Str) (defScope sForestBy) _ _ = true; decide +kernel)) rfl <| dI_seq <| dE_var 2 rfl rfl ⟨_, rfl, rfl, hm, rfl, by rw [sizeLine_eq]; show hm.length ≤ _; omega, fun y hy s1 H1 C1 cl1 fp1 => dGv_name 8 ndForestBy rfl ⟨rfl, fun s2 H2 C2 cl2 fp2 => dTs_nil ⟨rfl, rfl, fun _ s3 H3 C3 cl3 fp3 => dE_ifExp <| dT_cmp od_eqF <| dE_var 8 rfl rfl <| dE_var 7 rfl rfl ⟨_, rfl, mk_B ?_⟩⟩⟩, ?_⟩
      · refine iteB (fun h => dE_var 6 rfl rfl ⟨?_, rfl⟩) (fun h => dE_var 8 rfl rfl ⟨?_, rfl⟩)
        · rw [if_pos h]
        · rw [if_neg (by rw [h]; decide)]
      · have e3 : (hm.filter (fun _ => true)).map (fun h : Int => Dt.int (if (h == hi') = true then lo else h)) = (hm.map fun h => if (h == hi') = true then lo else h).map .int := by
          rw [List.filter_eq_self.mpr (fun _ _ => rfl), List.map_map]
          rfl
        rw [e3]
        refine dSs_nil <| dSs_nil ⟨by omega, ?_, some (.int (0 + (i : Int))), some (.int t.1), some (.int t.2), some (.int lo), some (.int hi'), ?_⟩
        · rw [key]
        · rw [key]
          rfl
  · rintro ρ' μ' ⟨_, rfl, v3, v4, v5, v6, v7, rfl⟩
    rw [rng_length, Int.toNat_natCast]
    exact dSs_cons <| dS_ret <| dE_callTy (hv := Boot.«tuple») cd_tuple B.tuple <| dA_cons <| dE_var 1 rfl rfl <| dA_nil ⟨_, _, rfl, rfl, q _⟩
/-! ### counts -/
def Veven (CW : Addr) : List Dt → Dt → Prop := fun ds d => ∃ n ts, ds = [webD CW n ts] ∧ 1 ≤ n ∧ n ≤ 12 ∧ okT n ts = true ∧ d = .int (1 * 2 ^ (((ts.length : Nat) : Int) - ((frI n ts).length : Nat)).toNat)
abbrev sManyEven : Stmt := tp 28
theorem scManyEven : FnScope ["web"] ["web"] (defScope sManyEven) := ⟨rfl, rfl, rfl, by decide +kernel, rfl, by decide +kernel, by decide +kernel⟩
abbrev nmManyEven : List Str := ["web"]
theorem ndManyEven : (nmManyEven : List Str).Nodup := by decide +kernel
theorem okManyEven {CW CU : Addr} {f : Addr} {fd : FuncData} (F : Fun K "many_even" "many_even" sManyEven f fd) (B : Bi mg) (W : WebK K mg CW) (f_need : DefP P w K mg base 3 "need_web" ["web"] (rR (VneedW CW CU))) (f_for : DefP P w K mg base 1 "forest_by" ["web"] (rP (Vforest CW))) : FnG P w K mg base 4 f fd ["web"] (rP (Veven CW)) := by
  refine FnG.of F scManyEven (rP_len fun ds d ⟨_, _, e, _⟩ => by rw [e]; rfl) fun cdv A outer s H E ds μ Q J hr hg ⟨d, ⟨n, ts, e, n1, n2, ok, ed⟩, e2, q⟩ => ?_
  subst e ed e2
  obtain ⟨hl, hall⟩ := okT_iff.mp ok
  have hf := frI_len n ts
  refine dSs_cons <| dS_expr <| dE_go f_need (hr.mono (by decide)) hg <| dA_cons <| dE_var 0 rfl rfl <| dA_nil <| mk_fr (mfs1 (web_mf ..)) rfl ⟨_, rfl, .inl ⟨⟨_, rfl⟩, rfl⟩⟩ ?_
  exact dSs_cons <| dS_ret <| dE_bin od_shl <| dE_int <| dE_bin od_sub <| dE_callB (hv := Boot.«len») cd_len B.len <| dA_cons <| dE_fld W.own.cl (W.free _ (by simp)) <| dE_var 0 rfl rfl ⟨_, tiesD ts, rfl, rfl, dA_nil ⟨_, ts.length, rfl, by simp [lenM, seqM, tiesD],
    dE_callB (hv := Boot.«len») cd_len B.len <| dA_cons <| dE_go f_for (hr.mono (by decide)) hg <| dA_cons <| dE_var 0 rfl rfl <| dA_nil <| mk_fn (mfs1 (web_mf ..)) (lot_mf _) ⟨n, ts, rfl, n1, n2, ok, rfl⟩ <| dA_nil ⟨_, (frI n ts).length, rfl, by simp [lenM, seqM, lotD], mk_I0 <| mk_I (C := CPow) ⟨by omega, by omega, by decide⟩ (q _)⟩⟩⟩
def Vcuts (CW : Addr) : List Dt → Dt → Prop := fun ds d => ∃ n ts, ds = [webD CW n ts] ∧ 1 ≤ n ∧ n ≤ 12 ∧ okT n ts = true ∧ d = .int (1 * 2 ^ (((frI n ts).length : Nat) : Int).toNat)
abbrev sManyCuts : Stmt := tp 29
theorem scManyCuts : FnScope ["web"] ["web"] (defScope sManyCuts) := ⟨rfl, rfl, rfl, by decide +kernel, rfl, by decide +kernel, by decide +kernel⟩
abbrev nmManyCuts : List Str := ["web"]
theorem ndManyCuts : (nmManyCuts : List Str).Nodup := by decide +kernel
theorem okManyCuts {CW CU : Addr} {f : Addr} {fd : FuncData} (F : Fun K "many_cuts" "many_cuts" sManyCuts f fd) (B : Bi mg) (W : WebK K mg CW) (f_need : DefP P w K mg base 3 "need_web" ["web"] (rR (VneedW CW CU))) (f_for : DefP P w K mg base 1 "forest_by" ["web"] (rP (Vforest CW))) : FnG P w K mg base 4 f fd ["web"] (rP (Vcuts CW)) := by
  refine FnG.of F scManyCuts (rP_len fun ds d ⟨_, _, e, _⟩ => by rw [e]; rfl) fun cdv A outer s H E ds μ Q J hr hg ⟨d, ⟨n, ts, e, n1, n2, ok, ed⟩, e2, q⟩ => ?_
  subst e ed e2
  obtain ⟨hl, hall⟩ := okT_iff.mp ok
  have hf := frI_len n ts
  refine dSs_cons <| dS_expr <| dE_go f_need (hr.mono (by decide)) hg <| dA_cons <| dE_var 0 rfl rfl <| dA_nil <| mk_fr (mfs1 (web_mf ..)) rfl ⟨_, rfl, .inl ⟨⟨_, rfl⟩, rfl⟩⟩ ?_
  exact dSs_cons <| dS_ret <| dE_bin od_shl <| dE_int <|
    dE_callB (hv := Boot.«len») cd_len B.len <| dA_cons <| dE_go f_for (hr.mono (by decide)) hg <| dA_cons <| dE_var 0 rfl rfl <| dA_nil <| mk_fn (mfs1 (web_mf ..)) (lot_mf _) ⟨n, ts, rfl, n1, n2, ok, rfl⟩ <| dA_nil ⟨_, (frI n ts).length, rfl, by simp [lenM, seqM, lotD], mk_I (C := CPow) ⟨by omega, by omega, by decide⟩ (q _)⟩
end
end Law

/-! W64: all rounds. -/
namespace Law
open PySem PySem.Spec PyProof.Rows L2 DL
local macro_rules | `(tactic| walk_at "sd") => `(tactic| first | assumption | decide | exact Or.inr (by decide) | exact Or.inl (by decide) | exact ⟨by decide, by decide⟩ | exact ⟨by decide, by decide, by decide⟩ | omega | exact ⟨by omega, by omega⟩)
local macro_rules | `(tactic| walk_at "lz") => `(tactic| first | exact pen_len | (rw [sizeLine_eq]; simp; done) | (rw [sizeLine_eq]; simp; omega))
section
variable {P : Program} {w : World} {K : PySem.W.Frag} {mg : Str → Option Value} {base : Heap}
local macro_rules | `(tactic| walk_at "lz") => `(tactic| first | exact pen_len | (rw [sizeLine_eq]; simp; done) | (rw [sizeLine_eq]; simp; omega) | (rw [sizeLine_eq]; omega))
def rdS (start : Int) (lot row : List Int) (st : List (List Int) × List (List Int × List Int)) (w : Int × Int) : List (List Int) × List (List Int × List Int) :=
  if (w.2 == start && decide (lot.getD 0 0 < w.1)) = true then (st.1 ++ [srtI (lot ++ [w.1])], st.2)
  else if (decide (start < w.2) && !row.contains w.2) = true then (st.1, st.2 ++ [(lot ++ [w.1], row ++ [w.2])]) else st
def rdG (n : Int) (o : List (List Int)) (w : List (List Int × List Int)) (lot row : List Int) : Bool :=
  decide (0 < lot.length) && decide (lot.length < 1000) && decide (0 < row.length) && decide (row.length < 1000) && decide (o.length < 10000) && decide (w.length < 10000) && decide (0 ≤ row.getD (row.length - 1) 0) && decide (row.getD (row.length - 1) 0 < n)
def rdW (n : Int) (W : Nat → List (Int × Int)) (start : Int) : Nat → List (List Int) × List (List Int × List Int) → Option (List (List Int))
  | 0, _ => none
  | N + 1, st =>
    match st.2.getLast? with
    | none => some st.1
    | some (lot, row) =>
      if rdG n st.1 st.2 lot row = true then
        rdW n W start N ((W (row.getD (row.length - 1) 0).toNat).foldl (rdS start lot row) (st.1, st.2.dropLast))
      else none
def rd0 (start : Int) (w : List (Int × Int)) : List (List Int × List Int) := (w.filter fun t => decide (start < t.2)).map fun t => ([t.1], [start, t.2])
def rdTo (N : Nat) (n : Int) (W : Nat → List (Int × Int)) : Nat → Option (List (List Int))
  | 0 => some []
  | k + 1 => (rdTo N n W k).bind fun out => rdW n W (0 + (k : Int)) N (out, rd0 (0 + (k : Int)) (W k))
def wyN (ts : List (Int × Int)) (k : Nat) : List (Int × Int) := wyF ts (0 + (k : Int)) ts.length
def wyL (n : Int) (ts : List (Int × Int)) : List (List (Int × Int)) := (List.range n.toNat).map (wyN ts)
def wyG (n : Int) (ts : List (Int × Int)) (k : Nat) : List (Int × Int) := (wyL n ts).getD k []
def rdAll (n : Int) (ts : List (Int × Int)) : Option (List (List Int)) := rdTo 100000 n (wyG n ts) n.toNat
theorem rdTo_pre {N : Nat} {n : Int} {W : Nat → List (Int × Int)} : ∀ {k : Nat} {R : List (List Int)}, rdTo N n W k = some R → ∀ i, i ≤ k → ∃ o, rdTo N n W i = some o
  | 0, R, h, i, hi => by
    have : i = 0 := by omega
    subst this
    exact ⟨_, h⟩
  | k + 1, R, h, i, hi => by
    by_cases e : i = k + 1
    · subst e
      exact ⟨_, h⟩
    · rw [rdTo] at h
      cases hk : rdTo N n W k with
      | none => rw [hk] at h; cases h
      | some o => exact rdTo_pre hk i (by omega)
theorem rdTo_step {N : Nat} {n : Int} {W : Nat → List (Int × Int)} {k : Nat} {R o : List (List Int)} (h : rdTo N n W (k + 1) = some R) (ho : rdTo N n W k = some o) : rdW n W (0 + (k : Int)) N (o, rd0 (0 + (k : Int)) (W k)) = some R := by
  rw [rdTo, ho] at h
  exact h
theorem wyN_len (ts : List (Int × Int)) (k : Nat) : (wyN ts k).length ≤ ts.length := wyF_len ts _ _
theorem wyG_len (n : Int) (ts : List (Int × Int)) (k : Nat) : (wyG n ts k).length ≤ ts.length := by
  unfold wyG wyL
  rw [List.getD_eq_getElem?_getD, List.getElem?_map]
  cases (List.range n.toNat)[k]? with
  | none => simp
  | some x => exact wyN_len ts x
theorem rdS_len {start : Int} {lot row : List Int} {st : List (List Int) × List (List Int × List Int)} {w : Int × Int} : (rdS start lot row st w).1.length ≤ st.1.length + 1 ∧ (rdS start lot row st w).2.length ≤ st.2.length + 1 := by
  unfold rdS
  split
  · simp
  · split
    · simp
    · omega
theorem rdF_len {start : Int} {lot row : List Int} : ∀ (l : List (Int × Int)) (st : List (List Int) × List (List Int × List Int)), (l.foldl (rdS start lot row) st).1.length ≤ st.1.length + l.length ∧ (l.foldl (rdS start lot row) st).2.length ≤ st.2.length + l.length
  | [], st => by simp
  | w :: l, st => by
    obtain ⟨h1, h2⟩ := rdF_len (start := start) (lot := lot) (row := row) l (rdS start lot row st w)
    obtain ⟨h3, h4⟩ := rdS_len (start := start) (lot := lot) (row := row) (st := st) (w := w)
    rw [List.foldl_cons, List.length_cons]
    omega
theorem take_fold {α β : Type} {f : β → α → β} {z : β} {l : List α} {i : Nat} {x : α} (h : l[i]? = some x) : (l.take (i + 1)).foldl f z = f ((l.take i).foldl f z) x := by
  rw [List.take_succ, h, List.foldl_append]
  rfl
/-! ### the memory -/
def wtD (p : List Int × List Int) : Dt := .tup [lotD p.1, lotD p.2]
def muR (o : List (List Int)) (k : Nat) (w : List (List Int × List Int)) : Mu := .lst (o.map lotD) :: (List.replicate k Mo.gone ++ [.lst (w.map wtD)])
def muG (o : List (List Int)) (k : Nat) : Mu := .lst (o.map lotD) :: List.replicate k Mo.gone
theorem muR_1 {o : List (List Int)} {k : Nat} {w : List (List Int × List Int)} : (muR o k w)[k + 1]? = some (.lst (w.map wtD)) := by
  rw [muR, List.getElem?_cons_succ, List.getElem?_append_right (by simp)]
  simp
theorem muR_set {o : List (List Int)} {k : Nat} {w : List (List Int × List Int)} {m : Mo} : (muR o k w).set (k + 1) m = .lst (o.map lotD) :: (List.replicate k Mo.gone ++ [m]) := by
  rw [muR, List.set_cons_succ, List.set_append_right _ _ (by simp)]
  simp
theorem muR_s1 {o : List (List Int)} {k : Nat} {w w' : List (List Int × List Int)} : (muR o k w).set (k + 1) (.lst (w'.map wtD)) = muR o k w' := muR_set
theorem muR_gone {o : List (List Int)} {k : Nat} {w : List (List Int × List Int)} : (muR o k w).set (k + 1) .gone = muG o (k + 1) := by
  rw [muR_set, muG]
  exact congrArg _ (List.replicate_succ' ..).symm
theorem muR_a0 {o : List (List Int)} {k : Nat} {w : List (List Int × List Int)} {l : List Int} : (muR o k w).set 0 (.lst (o.map lotD ++ [lotD l])) = muR (o ++ [l]) k w := by
  rw [muR, muR, List.map_append]
  rfl
theorem muR_a1 {o : List (List Int)} {k : Nat} {w : List (List Int × List Int)} {l r : List Int} {x y : Int} : (muR o k w).set (k + 1) (.lst (w.map wtD ++ [.tup [.tup (l.map .int ++ [.int x]), .tup (r.map .int ++ [.int y])]])) = muR o k (w ++ [(l ++ [x], r ++ [y])]) := by
  have e : w.map wtD ++ [Dt.tup [.tup (l.map .int ++ [.int x]), .tup (r.map .int ++ [.int y])]] = (w ++ [(l ++ [x], r ++ [y])]).map wtD := by
    rw [List.map_append]
    show _ = _ ++ [Dt.tup [.tup ((l ++ [x]).map .int), .tup ((r ++ [y]).map .int)]]
    rw [List.map_append, List.map_append]
    rfl
  rw [e]
  exact muR_s1
theorem muG_len {o : List (List Int)} {k : Nat} : (muG o k).length = k + 1 := by simp [muG]
theorem muG_app {o : List (List Int)} {k : Nat} {w : List (List Int × List Int)} : muG o k ++ [.lst (w.map wtD)] = muR o k w := rfl
theorem atI_map {l : List Int} {x : Int} (h0 : 0 ≤ x) (h : x.toNat < l.length) : atI (l.map Dt.int) x = some (.int (l.getD x.toNat 0)) := by
  rw [atI_get h0 (by rw [List.length_map]; exact h)]
  simp [List.getD_eq_getElem?_getD, List.getElem?_eq_getElem h]
theorem atI_last {l : List Int} (h : 0 < l.length) : atI (l.map Dt.int) (-1) = some (.int (l.getD (l.length - 1) 0)) := by
  have h2 : l.length - 1 < l.length := by omega
  have e : ((-1 : Int) + (l.length : Nat)).toNat = l.length - 1 := by omega
  unfold atI ixN
  rw [if_neg (by decide), List.length_map, if_pos (by omega), e]
  simp [List.getD_eq_getElem?_getD, List.getElem?_eq_getElem h2]
theorem atI_ways {L : List (List (Int × Int))} {x : Int} (h0 : 0 ≤ x) (h : x.toNat < L.length) : atI (L.map fun w => Dt.lst (w.map prDt)) x = some (.lst ((L.getD x.toNat []).map prDt)) := by
  rw [atI_get h0 (by rw [List.length_map]; exact h)]
  simp [List.getD_eq_getElem?_getD, List.getElem?_eq_getElem h]
def VrdL (CW : Addr) : List Dt → Dt → Prop := fun ds d => ∃ n ts R, ds = [webD CW n ts] ∧ 1 ≤ n ∧ n ≤ 12 ∧ ts.length ≤ 40 ∧ rdAll n ts = some R ∧ (∀ p ∈ R, p ≠ []) ∧ d = .lst ((srtL R).map lotD)
abbrev sRoundL : Stmt := tp 24
theorem scRoundL : FnScope ["web", "out", "ways", "place", "start", "waiting", "number", "other", "lot", "row"] ["web"] (defScope sRoundL) := ⟨rfl, rfl, rfl, by decide +kernel, rfl, by decide +kernel, by decide +kernel⟩
abbrev nmRoundL : List Str := ["web", "out", "ways", "place", "start", "waiting", "number", "other", "lot", "row"]
theorem ndRoundL : (nmRoundL : List Str).Nodup := by decide +kernel
theorem okRoundL {CW : Addr} {f : Addr} {fd : FuncData} (F : Fun K "round_list" "round_list" sRoundL f fd) (B : Bi mg) (W : WebK K mg CW) (f_ways : DefP P w K mg base 1 "ways_on" ["web", "place"] (rP (Vways CW))) : FnG P w K mg base 2 f fd ["web"] (rP (VrdL CW)) := by
  refine FnG.of F scRoundL (rP_len fun ds d ⟨_, _, _, e, _⟩ => by rw [e]; rfl) fun cdv A outer s H E ds μ Q J hr hg ⟨d, ⟨n, ts, R, e, n1, n2, hl, hR, hne, ed⟩, e2, q⟩ => ?_
  subst e ed e2
  have wl : (wyL n ts).length = n.toNat := by rw [wyL, List.length_map, List.length_range]
  refine dSs_cons <| dS_par 1 2 rfl ndRoundL rfl rfl <| dA_cons <| dE_lstM <| dA_nil ⟨by walk_at "lz", dA_cons <| dE_lcG [("place", 3)] (fun k : Nat => .int (0 + (k : Int))) (fun k : Nat => .lst ((wyN ts k).map prDt)) rfl ndRoundL (blkOk_by (by show blkC (nmRoundL : List Str) (defScope sRoundL) _ _ = true; decide +kernel)) <|
    dI_range1 B.range <| dA_cons <| dE_fld W.own.cl (W.free _ (by simp)) <| dE_var 0 rfl rfl ⟨_, .int n, rfl, rfl, dA_nil ⟨_, rfl, by omega, by omega, trivial, List.range n.toNat, rfl, by walk_at "lz", fun k hk s1 H1 C1 cl1 fp1 => dGv_name 3 ndRoundL rfl ⟨rfl, fun s2 H2 C2 cl2 fp2 => dE_go f_ways (hr.mono (by decide)) hg <| dA_cons <| dE_var 0 rfl rfl <| dA_cons <| dE_var 3 rfl rfl <| dA_nil <| mk_fn (mfs2 (web_mf ..) (int_mf _)) (ties_lmf _) ⟨n, ts, _, rfl, hl, rfl⟩ ⟨rfl, rfl⟩⟩, dA_nil ⟨_, _, rfl, ?_⟩⟩⟩⟩
  have e0 : (List.range n.toNat).map (fun k : Nat => Dt.lst ((wyN ts k).map prDt)) = (wyL n ts).map fun w => Dt.lst (w.map prDt) := by rw [wyL, List.map_map]; rfl
  rw [e0]
  show dSs _ _ _ [some (webD CW n ts), some (.mut 0), some (.lst ((wyL n ts).map fun w => Dt.lst (w.map prDt))), none, none, none, none, none, none, none] (muG [] 0) _
  refine dSs_cons <| dS_for (passes_of rfl) rfl <| dI_range1 B.range <| dA_cons <| dE_fld W.own.cl (W.free _ (by simp)) <| dE_var 0 rfl rfl ⟨_, .int n, rfl, rfl, dA_nil ⟨_, rfl, by omega, by omega, fun i ρ' μ' => i ≤ n.toNat ∧ ∃ o, rdTo 100000 n (wyG n ts) i = some o ∧ μ' = muG o i ∧ ∃ v3 v4 v5 v6 v7 v8 v9, ρ' = [some (webD CW n ts), some (.mut 0), some (.lst ((wyL n ts).map fun w => Dt.lst (w.map prDt))), v3, v4, v5, v6, v7, v8, v9], ⟨by omega, _, rfl, rfl, _, _, _, _, _, _, _, rfl⟩, fun _ _ _ _ => trivial, ?_, ?_⟩⟩
  · rintro i z ρ' μ' hx ⟨hi, o, ho, rfl, v3, v4, v5, v6, v7, v8, v9, rfl⟩
    obtain ⟨hi2, rfl⟩ := rng_get hx
    have hi3 : i < n.toNat := by omega
    refine dG_name 4 ndRoundL rfl ?_
    obtain ⟨o', ho'⟩ := rdTo_pre hR (i + 1) (by omega)
    have hrun := rdTo_step ho' ho
    have wi := atI_ways (L := wyL n ts) (x := 0 + (i : Int)) (by omega) (by rw [wl]; omega)
    have ei : (0 + (i : Int)).toNat = i := by omega
    rw [ei] at wi
    have wgl := wyG_len n ts i
    have wi : atI ((wyL n ts).map fun w => Dt.lst (w.map prDt)) (0 + (i : Int)) = some (Dt.lst ((wyG n ts i).map prDt)) := wi
    refine dSs_cons <| dS_setLcMF 5 [("number", 6), ("other", 7)] prDt (fun t => decide (0 + (i : Int) < t.2)) (fun t => wtD ([t.1], [0 + (i : Int), t.2])) rfl ndRoundL rfl rfl (blkOk_by (by show blkC (nmRoundL : List Str) (defScope sRoundL) _ _ = true; decide +kernel)) rfl <| dI_seq <| dE_idx <| dE_var 2 rfl rfl <| dE_var 4 rfl rfl ⟨_, _, _, rfl, rfl, wi, _, rfl, rfl, wyG n ts i, rfl, by rw [sizeLine_eq]; omega, fun t ht s1 H1 C1 cl1 fp1 => dGv_tup rfl rfl <| dGsv_cons <| dGv_name 6 ndRoundL rfl <| dGsv_cons <| dGv_name 7 ndRoundL rfl <| dGsv_nil ⟨rfl, fun s2 H2 C2 cl2 fp2 => ?_⟩, ?_⟩
    · exact dTs_one <| dT_cmp od_gt <| dE_var 7 rfl rfl <| dE_var 4 rfl rfl <| mk_I0 <| mk_B ⟨rfl, rfl, fun _ s3 H3 C3 cl3 fp3 => dE_tup <| dA_cons <| dE_tup <| dA_cons <| dE_var 6 rfl rfl <| dA_nil ⟨by walk_at "lz", dA_cons <| dE_tup <| dA_cons <| dE_var 4 rfl rfl <| dA_cons <| dE_var 7 rfl rfl <| dA_nil ⟨by walk_at "lz", dA_nil ⟨by walk_at "lz", rfl, rfl⟩⟩⟩⟩
    · have e1 : ((wyG n ts i).filter fun t => decide (0 + (i : Int) < t.2)).map (fun t => wtD ([t.1], [0 + (i : Int), t.2])) = (rd0 (0 + (i : Int)) (wyG n ts i)).map wtD := by rw [rd0, List.map_map]; rfl
      rw [e1, muG_app, muG_len]
      clear e1 wi wgl
      generalize hst : 0 + (i : Int) = start at hrun
      show dSs _ _ _ [some (webD CW n ts), some (.mut 0), some (.lst ((wyL n ts).map fun w => Dt.lst (w.map prDt))), v3, some (.int start), some (.mut (i + 1)), v6, v7, v8, v9] _ _
      refine dSs_cons <| dS_while (passes_of rfl) (fun m ρ' μ' => ∃ oo ww, rdW n (wyG n ts) start m (oo, ww) = some o' ∧ μ' = muR oo i ww ∧ ∃ v6 v7 v8 v9, ρ' = [some (webD CW n ts), some (.mut 0), some (.lst ((wyL n ts).map fun w => Dt.lst (w.map prDt))), v3, some (.int start), some (.mut (i + 1)), v6, v7, v8, v9]) ⟨100000, _, _, hrun, rfl, _, _, _, _, rfl⟩ ?_
      rintro m ρ' μ' ⟨oo, ww, hw, rfl, v6, v7, v8, v9, rfl⟩
      refine dT_cmp od_gt <| dE_callB (hv := Boot.«len») cd_len B.len <| dA_cons <| dE_var 5 rfl rfl <| dA_nil ⟨_, ww.length, rfl, by simp [lenM, seqM, muR_1], dE_int <| mk_I0 <| mk_B ?_⟩
      match m, hw with
      | m + 1, hw =>
        rw [rdW] at hw
        cases hg2 : ww.getLast? with
        | none =>
          rw [List.getLast?_eq_none_iff] at hg2
          subst hg2
          cases hw
          refine iteN rfl ?_
          show dSs _ _ _ _ _ _
          refine dS_freeze 5 (i + 1) [] rfl muR_1 ?_
          rw [muR_gone]
          exact dSs_nil ⟨by omega, _, ho', rfl, _, _, _, _, _, _, _, rfl⟩
        | some lr =>
          obtain ⟨lot, row⟩ := lr
          rw [hg2] at hw
          simp only at hw
          have wpos : 0 < ww.length := by
            cases ww with
            | nil => cases hg2
            | cons _ _ => simp
          by_cases hc : rdG n oo ww lot row = true
          · rw [if_pos hc] at hw
            unfold rdG at hc
            simp only [Bool.and_eq_true, decide_eq_true_eq] at hc
            obtain ⟨⟨⟨⟨⟨⟨⟨c1, c2⟩, c3⟩, c4⟩, c5⟩, c6⟩, c7⟩, c8⟩ := hc
            refine iteY (decide_eq_true (by omega)) ?_
            refine dSs_cons <| dS_asg <| dE_lm0 PySem.F.slot_list_pop PySem.F.type_list_pop md_pop <| dE_var 5 rfl rfl ⟨⟨⟨ww.map wtD, by simp [seqM, muR_1]⟩, fun _ z => by cases z⟩, i + 1, _, wtD (lot, row), rfl, rfl, muR_1, ?_, ?_⟩
            · rw [List.length_map, List.getElem?_map, ← List.getLast?_eq_getElem?, hg2]
              rfl
            · rw [← List.map_dropLast, muR_s1]
              refine dG_tup rfl rfl <| dGs_cons <| dG_name 8 ndRoundL rfl <| dGs_cons <| dG_name 9 ndRoundL rfl <| dGs_nil ?_
              show dSs _ _ _ [some (webD CW n ts), some (.mut 0), some (.lst ((wyL n ts).map fun w => Dt.lst (w.map prDt))), v3, some (.int start), some (.mut (i + 1)), v6, v7, some (lotD lot), some (lotD row)] _ _
              have i0 := atI_map (l := lot) (x := 0) (by decide) c1
              have i1 := atI_last c3
              generalize row.getD (row.length - 1) 0 = x at c7 c8 hw i1
              have i2 : atI ((wyL n ts).map fun w => Dt.lst (w.map prDt)) x = some (Dt.lst ((wyG n ts x.toNat).map prDt)) := atI_ways c7 (by rw [wl]; omega)
              have gl := wyG_len n ts x.toNat
              generalize wyG n ts x.toNat = L at hw i2 gl
              have dl : ww.dropLast.length ≤ ww.length := by rw [List.length_dropLast]; omega
              generalize ww.dropLast = w0 at hw dl
              refine dSs_cons <| dS_for (passes_of rfl) rfl <| dI_seq <| dE_idx <| dE_var 2 rfl rfl <| dE_idx <| dE_var 9 rfl rfl <| dE_neg <| dE_int ⟨1, rfl, _, _, _, rfl, rfl, i1, _, _, _, rfl, rfl, i2, _, rfl, fun j ρ' μ' => j ≤ L.length ∧ ∃ st, (L.take j).foldl (rdS start lot row) (oo, w0) = st ∧ μ' = muR st.1 i st.2 ∧ ∃ v6 v7, ρ' = [some (webD CW n ts), some (.mut 0), some (.lst ((wyL n ts).map fun w => Dt.lst (w.map prDt))), v3, some (.int start), some (.mut (i + 1)), v6, v7, some (lotD lot), some (lotD row)], ⟨Nat.zero_le _, _, rfl, rfl, _, _, rfl⟩, fun _ _ _ _ => rfl, ?_, ?_⟩
              · rintro j z ρ' μ' hz ⟨hj, st, hst2, rfl, v6, v7, rfl⟩
                rw [List.getElem?_map] at hz
                cases hlj : L[j]? with
                | none => rw [hlj] at hz; cases hz
                | some t =>
                  rw [hlj] at hz
                  cases hz
                  have hj2 := (List.getElem?_eq_some_iff.mp hlj).1
                  have sl := rdF_len (start := start) (lot := lot) (row := row) (L.take j) (oo, w0)
                  rw [hst2, List.length_take] at sl
                  have hn := take_fold (f := rdS start lot row) (z := (oo, w0)) hlj
                  rw [hst2] at hn
                  unfold rdS at hn
                  obtain ⟨so, sw⟩ := st
                  obtain ⟨l1, l2⟩ := sl
                  have l1 : so.length ≤ oo.length + min j L.length := l1
                  have l2 : sw.length ≤ w0.length + min j L.length := l2
                  have l1 : so.length ≤ 12000 := by omega
                  have l2 : sw.length ≤ 12000 := by omega
                  refine dG_tup rfl rfl <| dGs_cons <| dG_name 6 ndRoundL rfl <| dGs_cons <| dG_name 7 ndRoundL rfl <| dGs_nil ?_
                  show dSs _ _ _ [some (webD CW n ts), some (.mut 0), some (.lst ((wyL n ts).map fun w => Dt.lst (w.map prDt))), v3, some (.int start), some (.mut (i + 1)), some (.int t.1), some (.int t.2), some (lotD lot), some (lotD row)] (muR so i sw) _
                  refine dSs_cons <| dS_if <| dT.imp (Q := fun k μ1 => k = (t.2 == start && decide (lot.getD 0 0 < t.1)) ∧ μ1 = muR so i sw) ?_ fun k μ1 ⟨k1, k2⟩ => ?_
                  · refine dT_bool <| dW_and <| dT_cmp od_eqF <| dE_var 7 rfl rfl <| dE_var 4 rfl rfl ⟨_, rfl, mk_B ?_⟩
                    refine iteB (fun h => dW_and1 <| dT_cmp od_gt <| dE_var 6 rfl rfl <| dE_idx <| dE_var 8 rfl rfl <| dE_int ⟨_, _, _, rfl, rfl, i0, mk_I0 <| mk_B ⟨?_, rfl⟩⟩) (fun h => ⟨?_, rfl⟩)
                    · rw [h]; rfl
                    · rw [h]; rfl
                  · subst k1 k2
                    refine iteB (fun h => ?_) (fun h => ?_)
                    · rw [if_pos h] at hn
                      refine dSs_cons <| dS_expr <| dE_lm PySem.F.slot_list_append PySem.F.type_list_append md_append <| dE_var 1 rfl rfl ⟨⟨⟨_, rfl⟩, fun _ z => by cases z⟩, dA_cons <| dE_callTy (hv := Boot.«tuple») cd_tuple B.tuple <| dA_cons <| dE_callB (hv := Boot.«sorted») cd_sortedIT B.sorted <| dA_cons <| dE_bin od_catT <| dE_var 8 rfl rfl <| dE_tup <| dA_cons <| dE_var 6 rfl rfl <| dA_nil ⟨by walk_at "lz", _, _, rfl, rfl, ?_, dA_nil ⟨lot ++ [t.1], ?_, ?_, dA_nil ⟨_, _, rfl, rfl, dA_nil ⟨0, _, _, rfl, rfl, rfl, ?_, ?_⟩⟩⟩⟩⟩
                      · rw [sizeLine_eq, List.length_map]; simp; omega
                      · rw [List.map_append]; rfl
                      · rw [sizeLine_eq, List.length_append]; simp; omega
                      · rw [sizeLine_eq, List.length_map]; omega
                      · refine dSs_nil <| dSs_nil ⟨by omega, _, hn, ?_, _, _, rfl⟩
                        exact muR_a0
                    · rw [if_neg (by rw [h]; decide)] at hn
                      refine dSs_cons <| dS_if <| dT.imp (Q := fun k μ1 => k = (decide (start < t.2) && !row.contains t.2) ∧ μ1 = muR so i sw) ?_ fun k μ1 ⟨k1, k2⟩ => ?_
                      · refine dT_bool <| dW_and <| dT_cmp od_gt <| dE_var 7 rfl rfl <| dE_var 4 rfl rfl <| mk_I0 <| mk_B ?_
                        refine iteB (fun h => dW_and1 <| dT_cmp od_ninI <| dE_var 7 rfl rfl <| dE_var 9 rfl rfl ⟨_, row, rfl, rfl, mk_B ⟨?_, rfl⟩⟩) (fun h => ⟨?_, rfl⟩)
                        · rw [h]; rfl
                        · rw [h]; rfl
                      · subst k1 k2
                        refine iteB (fun h => ?_) (fun h => ?_)
                        · rw [if_pos h] at hn
                          refine dSs_cons <| dS_expr <| dE_lm PySem.F.slot_list_append PySem.F.type_list_append md_append <| dE_var 5 rfl rfl ⟨⟨⟨sw.map wtD, by simp [seqM, muR_1]⟩, fun _ z => by cases z⟩, dA_cons <| dE_tup <| dA_cons <| dE_bin od_catT <| dE_var 8 rfl rfl <| dE_tup <| dA_cons <| dE_var 6 rfl rfl <| dA_nil ⟨by walk_at "lz", _, _, rfl, rfl, ?_, dA_cons <| dE_bin od_catT <| dE_var 9 rfl rfl <| dE_tup <| dA_cons <| dE_var 7 rfl rfl <| dA_nil ⟨by walk_at "lz", _, _, rfl, rfl, ?_, dA_nil ⟨by walk_at "lz", dA_nil ⟨i + 1, _, _, rfl, rfl, muR_1, ?_, ?_⟩⟩⟩⟩⟩
                          · rw [sizeLine_eq, List.length_map]; simp; omega
                          · rw [sizeLine_eq, List.length_map]; simp; omega
                          · rw [sizeLine_eq, List.length_map]; omega
                          · refine dSs_nil <| dSs_nil <| dSs_nil ⟨by omega, _, hn, ?_, _, _, rfl⟩
                            exact muR_a1
                        · rw [if_neg (by rw [h]; decide)] at hn
                          exact dSs_nil <| dSs_nil <| dSs_nil ⟨by omega, _, hn, rfl, _, _, rfl⟩
              · rintro ρ' μ' ⟨_, st, hst2, rfl, v6, v7, rfl⟩
                rw [List.length_map, List.take_length] at hst2
                subst hst2
                exact dSs_nil ⟨m, by omega, _, _, hw, rfl, _, _, _, _, rfl⟩
          · rw [if_neg hc] at hw
            cases hw
  · rintro ρ' μ' ⟨_, o, ho, rfl, v3, v4, v5, v6, v7, v8, v9, rfl⟩
    rw [rng_length] at ho ⊢
    have : some o = some R := ho.symm.trans hR
    cases this
    refine dS_freeze 1 0 (R.map lotD) rfl rfl ?_
    exact dSs_cons <| dS_ret <| dE_callB (hv := Boot.«sorted») cd_sortedL B.sorted <| dA_cons <| dE_var 1 rfl rfl <| dA_nil ⟨R, rfl, hne, q _⟩
end
end Law

/-! W65: rounds; the law's own webs. -/
namespace Law
open PySem PySem.Spec PyProof.Rows L2 DL
local macro_rules | `(tactic| walk_at "sd") => `(tactic| first | assumption | decide | exact Or.inr (by decide) | exact Or.inl (by decide) | exact ⟨by decide, by decide⟩ | exact ⟨by decide, by decide, by decide⟩ | omega | exact ⟨by omega, by omega⟩)
local macro_rules | `(tactic| walk_at "lz") => `(tactic| first | exact pen_len | (rw [sizeLine_eq]; simp; done) | (rw [sizeLine_eq]; simp; omega))
section
variable {P : Program} {w : World} {K : PySem.W.Frag} {mg : Str → Option Value} {base : Heap}
local macro_rules | `(tactic| walk_at "lz") => `(tactic| first | exact pen_len | (rw [sizeLine_eq]; simp; done) | (rw [sizeLine_eq]; simp; omega) | (rw [sizeLine_eq]; omega))
theorem lots_lmf (R : List (List Int)) : mfs (R.map lotD) = true := mfs_map lot_mf R
def Vrounds (CW : Addr) : List Dt → Dt → Prop := fun ds d => ∃ n ts R, ds = [webD CW n ts] ∧ 1 ≤ n ∧ n ≤ 12 ∧ ts.length ≤ 40 ∧ rdAll n ts = some R ∧ (∀ p ∈ R, p ≠ []) ∧ R.length ≤ 400 ∧ d = .tup ((srtL R).map lotD)
abbrev sRoundsW : Stmt := tp 26
theorem scRoundsW : FnScope ["web"] ["web"] (defScope sRoundsW) := ⟨rfl, rfl, rfl, by decide +kernel, rfl, by decide +kernel, by decide +kernel⟩
abbrev nmRoundsW : List Str := ["web"]
theorem ndRoundsW : (nmRoundsW : List Str).Nodup := by decide +kernel
theorem okRoundsW {CW CU : Addr} {f : Addr} {fd : FuncData} (F : Fun K "rounds" "rounds" sRoundsW f fd) (f_need : DefP P w K mg base 3 "need_web" ["web"] (rR (VneedW CW CU))) (f_few : DefP P w K mg base 1 "few" ["lots", "what"] (rP Vfew4)) (f_rl : DefP P w K mg base 2 "round_list" ["web"] (rP (VrdL CW))) : FnG P w K mg base 4 f fd ["web"] (rP (Vrounds CW)) := by
  refine FnG.of F scRoundsW (rP_len fun ds d ⟨_, _, _, e, _⟩ => by rw [e]; rfl) fun cdv A outer s H E ds μ Q J hr hg ⟨d, ⟨n, ts, R, e, n1, n2, hl, hR, hne, h4, ed⟩, e2, q⟩ => ?_
  subst e ed e2
  have hlen : (srtL R).length = R.length := (srtBy_perm R).length_eq
  refine dSs_cons <| dS_expr <| dE_go f_need (hr.mono (by decide)) hg <| dA_cons <| dE_var 0 rfl rfl <| dA_nil <| mk_fr (mfs1 (web_mf ..)) rfl ⟨_, rfl, .inl ⟨⟨_, rfl⟩, rfl⟩⟩ ?_
  exact dSs_cons <| dS_ret <| dE_go f_few (hr.mono (by decide)) hg <| dA_cons <| dE_go f_rl (hr.mono (by decide)) hg <| dA_cons <| dE_var 0 rfl rfl <| dA_nil <| mk_fn (mfs1 (web_mf ..)) (lots_mf _) ⟨n, ts, R, rfl, n1, n2, hl, hR, hne, rfl⟩ <| dA_cons <| dE_str <| dA_nil <| mk_fn (mfs2 (lots_mf _) rfl) (by show mfs _ = true; exact lots_lmf _) ⟨_, _, rfl, by rw [List.length_map, hlen]; exact h4, lots_lmf _, rfl⟩ (q _)
/-! ### the law's own -/
def rOddN : Spc := fun ds μ Q _ => ∃ (B : Nat) (lo hi : Int) (m : Mo), ds = [.mut 0, .int lo, .int hi] ∧ μ = [m] ∧ Pen B m ∧ B < 2 ^ 40 ∧ ∀ x ∈ ([.int (lo - 1), .int (hi + 1), .non, .bl true, .str "1"] : List Dt), ∀ m' r, Pen (B + 1) m' → Q x (m' :: r)
abbrev sOddN : Stmt := tp 44
theorem scOddN : FnScope ["pen", "low", "high"] ["pen", "low", "high"] (defScope sOddN) := ⟨rfl, rfl, rfl, by decide +kernel, rfl, by decide +kernel, by decide +kernel⟩
abbrev nmOddN : List Str := ["pen", "low", "high"]
theorem ndOddN : (nmOddN : List Str).Nodup := by decide +kernel
theorem okOddN {f : Addr} {fd : FuncData} (F : Fun K "_law_odd_number" "_law_odd_number" sOddN f fd) (f_pick : DefP P w K mg base 2 "_law_pick" ["pen", "some"] rPick) : FnG P w K mg base 3 f fd ["pen", "low", "high"] rOddN := by
  refine FnG.of F scOddN (fun ds μ Q J ⟨_, _, _, _, e, _⟩ => by rw [e]; rfl) fun cdv A outer s H E ds μ Q J hr hg ⟨b, lo, hi, m, e, e2, pen, hB, q⟩ => ?_
  subst e e2
  refine dSs_cons <| dS_ret <| dE_go f_pick (hr.mono (by decide)) hg <| dA_cons <| dE_var 0 rfl rfl <| dA_cons <| dE_lst <| dA_cons <| dE_bin od_sub <| dE_var 1 rfl rfl <| dE_int <| mk_I0 <| dA_cons <| dE_bin od_add <| dE_var 2 rfl rfl <| dE_int <| mk_I0 <| dA_cons <| dE_non <| dA_cons <| dE_bl <| dA_cons <| dE_str <| dA_nil ⟨by walk_at "lz", ?_⟩
  exact dA_nil <| mk_call1 rfl pen.ng pen.mf rfl ⟨b, [.int (lo - 1), .int (hi + 1), .non, .bl true, .str "1"], _, m, rfl, .inl rfl, rfl, pen, by omega, by simp, by simp, fun x hx m2 p2 => ⟨by
    simp only [List.mem_cons, List.not_mem_nil, or_false] at hx
    rcases hx with rfl | rfl | rfl | rfl | rfl <;> rfl, m2, rfl, p2.ng, p2.mf, q x hx m2 _ p2⟩⟩
def edS (f : List Int) (t : Int × Int) : List Int := (f.set t.1.toNat (f.getD t.1.toNat 0 + 1)).set t.2.toNat (f.getD t.2.toNat 0 + 1)
def edF (n : Int) (ts : List (Int × Int)) : List Int := ts.foldl edS (List.replicate n.toNat 0)
theorem edS_len {f : List Int} {t : Int × Int} : (edS f t).length = f.length := by simp [edS]
theorem edK_len (n : Int) (ts : List (Int × Int)) : (ts.foldl edS (List.replicate n.toNat 0)).length = n.toNat := by
  have : ∀ (l : List (Int × Int)) (f : List Int), (l.foldl edS f).length = f.length := fun l => by
    induction l with
    | nil => intro f; rfl
    | cons t r ih => intro f; rw [List.foldl_cons, ih, edS_len]
  rw [this, List.length_replicate]
def Vends : List Dt → Dt → Prop := fun ds d => ∃ n ts, ds = [.int n, tiesD ts] ∧ 1 ≤ n ∧ n ≤ 12 ∧ okT n ts = true ∧ d = .lst ((edF n ts).map .int)
abbrev sLEnds : Stmt := tp 47
theorem scLEnds : FnScope ["size", "ties", "found", "i", "j"] ["size", "ties"] (defScope sLEnds) := ⟨rfl, rfl, rfl, by decide +kernel, rfl, by decide +kernel, by decide +kernel⟩
abbrev nmLEnds : List Str := ["size", "ties", "found", "i", "j"]
theorem ndLEnds : (nmLEnds : List Str).Nodup := by decide +kernel
theorem okLEnds {f : Addr} {fd : FuncData} (F : Fun K "_law_ends" "_law_ends" sLEnds f fd) : FnG P w K mg base 1 f fd ["size", "ties"] (rP Vends) := by
  refine FnG.of F scLEnds (rP_len fun ds d ⟨_, _, e, _⟩ => by rw [e]; rfl) fun cdv A outer s H E ds μ Q J hr hg ⟨d, ⟨n, ts, e, n1, n2, ok, ed⟩, e2, q⟩ => ?_
  subst e ed e2
  obtain ⟨hl, hall⟩ := okT_iff.mp ok
  refine dSs_cons <| dS_set 2 ndLEnds rfl <| dE_bin od_repM <| dE_lstM <| dA_cons <| dE_int <| dA_nil ⟨by walk_at "lz", dE_var 0 rfl rfl ⟨0, n, [.int 0], rfl, rfl, rfl, by omega, by omega, by rw [sizeLine_eq]; simp; omega, ?_⟩⟩
  have e0 : (List.replicate n.toNat [Dt.int 0]).flatten = (List.replicate n.toNat (0 : Int)).map .int := by rw [List.flatten_replicate_singleton, List.map_replicate]
  rw [e0]
  show dSs _ _ _ [some (.int n), some (tiesD ts), some (.mut 1), none, none] [.lst [.int 0], .lst (((ts.take 0).foldl edS (List.replicate n.toNat 0)).map .int)] _
  refine dSs_cons <| dS_for (passes_of rfl) rfl <| dI_seq <| dE_var 1 rfl rfl ⟨ts.map prDt, rfl, fun j ρ' μ' => j ≤ ts.length ∧ μ' = [.lst [.int 0], .lst (((ts.take j).foldl edS (List.replicate n.toNat 0)).map .int)] ∧ ∃ x y, ρ' = [some (.int n), some (tiesD ts), some (.mut 1), x, y], ⟨Nat.zero_le _, rfl, _, _, rfl⟩, fun _ _ _ _ => rfl, ?_, ?_⟩
  · rintro j z ρ' μ' hz ⟨hj, rfl, x, y, rfl⟩
    rw [List.getElem?_map] at hz
    cases hlj : ts[j]? with
    | none => rw [hlj] at hz; cases hz
    | some t =>
      rw [hlj] at hz
      cases hz
      have hj2 := (List.getElem?_eq_some_iff.mp hlj).1
      have tk := tie_iff.mp (hall t (List.mem_of_getElem? hlj))
      have hn := take_fold (f := edS) (z := List.replicate n.toNat 0) hlj
      have fl := edK_len n (ts.take j)
      generalize (ts.take j).foldl edS (List.replicate n.toNat 0) = g at hn fl
      refine dG_tup rfl rfl <| dGs_cons <| dG_name 3 ndLEnds rfl <| dGs_cons <| dG_name 4 ndLEnds rfl <| dGs_nil ?_
      show dSs _ _ _ [some (.int n), some (tiesD ts), some (.mut 1), some (.int t.1), some (.int t.2)] [.lst [.int 0], .lst (g.map .int)] _
      have i1 := atI_map (l := g) (x := t.1) tk.1 (by omega)
      have i2 := atI_map (l := g) (x := t.2) (by omega) (by omega)
      have x1 : ixN (g.map Dt.int).length t.1 = some t.1.toNat := by
        rw [List.length_map, ixN, if_pos tk.1, if_pos (by omega)]
      have x2 : ixN ((g.map Dt.int).set t.1.toNat (.int (g.getD t.1.toNat 0 + 1))).length t.2 = some t.2.toNat := by
        rw [List.length_set, List.length_map, ixN, if_pos (by omega), if_pos (by omega)]
      refine dSs_cons <| dS_asg <| dE_tup <| dA_cons <| dE_bin od_add <| dE_idx <| dE_var 2 rfl rfl <| dE_var 3 rfl rfl ⟨_, _, _, rfl, rfl, i1, dE_int <| mk_I0 <| dA_cons <| dE_bin od_add <| dE_idx <| dE_var 2 rfl rfl <| dE_var 4 rfl rfl ⟨_, _, _, rfl, rfl, i2, dE_int <| mk_I0 <| dA_nil ⟨by walk_at "lz", ?_⟩⟩⟩
      refine dG_tup rfl rfl <| dGs_cons <| dG_item <| dE_var 2 rfl rfl <| dE_var 3 rfl rfl ⟨1, _, t.1, _, rfl, rfl, rfl, x1, dGs_cons <| dG_item <| dE_var 2 rfl rfl <| dE_var 4 rfl rfl ⟨1, _, t.2, _, rfl, rfl, rfl, x2, dGs_nil <| dSs_nil ⟨by omega, ?_, _, _, rfl⟩⟩⟩
      rw [hn, edS, List.map_set, List.map_set]
      rfl
  · rintro ρ' μ' ⟨_, rfl, x, y, rfl⟩
    rw [List.length_map, List.take_length]
    refine dS_freeze 2 1 ((edF n ts).map .int) rfl rfl ?_
    exact dSs_cons <| dS_ret <| dE_var 2 rfl rfl <| q _
def VtiedL : List Dt → Dt → Prop := fun ds d => ∃ n : Int, ds = [.int n] ∧ 1 ≤ n ∧ n ≤ 12 ∧ d = tiesD (fullP n n.toNat)
abbrev sLTied : Stmt := tp 48
theorem scLTied : FnScope ["size", "found", "i", "j"] ["size"] (defScope sLTied) := ⟨rfl, rfl, rfl, by decide +kernel, rfl, by decide +kernel, by decide +kernel⟩
abbrev nmLTied : List Str := ["size", "found", "i", "j"]
theorem ndLTied : (nmLTied : List Str).Nodup := by decide +kernel
theorem okLTied {f : Addr} {fd : FuncData} (F : Fun K "_law_tied" "_law_tied" sLTied f fd) (B : Bi mg) : FnG P w K mg base 1 f fd ["size"] (rP VtiedL) := by
  refine FnG.of F scLTied (rP_len fun ds d ⟨n, e, _⟩ => by rw [e]; rfl) fun cdv A outer s H E ds μ Q J hr hg ⟨d, ⟨n, e, h1, h12, ed⟩, e2, q⟩ => ?_
  subst e ed e2
  refine dSs_cons <| dS_set 1 ndLTied rfl <| dE_lst <| dA_nil ⟨by walk_at "lz", ?_⟩
  show dSs _ _ _ [some (.int n), some (.lst ((fullP n 0).map prDt)), none, none] [] _
  refine dSs_cons <| dS_for (passes_of rfl) rfl <| dI_range1 B.range <| dA_cons <| dE_var 0 rfl rfl <| dA_nil ⟨_, rfl, by omega, by omega, fun i ρ' μ' => i ≤ n.toNat ∧ μ' = [] ∧ ∃ x y, ρ' = [some (.int n), some (.lst ((fullP n i).map prDt)), x, y], ⟨by omega, rfl, _, _, rfl⟩, fun _ _ _ _ => trivial, ?_, ?_⟩
  · rintro i z ρ' μ' hx ⟨hi, rfl, x, y, rfl⟩
    obtain ⟨hi2, rfl⟩ := rng_get hx
    have hf := full_len (k := i) h12
    refine dG_name 2 ndLTied rfl ?_
    refine dSs_cons <| dS_set 1 ndLTied rfl <| dE_bin od_catL <| dE_var 1 rfl rfl <| dE_lcG [("j", 3)] (fun j : Nat => .int (0 + (i : Int) + 1 + (j : Int))) (fun j : Nat => prDt (0 + (i : Int), 0 + (i : Int) + 1 + (j : Int))) rfl ndLTied (blkOk_by (by show blkC (nmLTied : List Str) (defScope sLTied) _ _ = true; decide +kernel)) <|
      dI_range2 B.range <| dA_cons <| dE_bin od_add <| dE_var 2 rfl rfl <| dE_int <| mk_I0 <| dA_cons <| dE_var 0 rfl rfl <| dA_nil ⟨_, _, rfl, ⟨by omega, by omega, by omega, by omega⟩, trivial, List.range (n - (0 + (i : Int) + 1)).toNat, rfl, by walk_at "lz", fun k hk s1 H1 C1 cl1 fp1 => dGv_name 3 ndLTied rfl ⟨rfl, fun s2 H2 C2 cl2 fp2 => dE_tup <| dA_cons <| dE_var 2 rfl rfl <| dA_cons <| dE_var 3 rfl rfl <| dA_nil ⟨by walk_at "lz", rfl, rfl⟩⟩, _, _, rfl, rfl, by rw [sizeLine_eq, List.length_map, List.length_map, List.length_range]; omega, ?_⟩
    rw [tiesOf_map, ← List.map_append]
    have : fullP n i ++ tiesOf (n - (0 + (i : Int) + 1)) (fun (j : Nat) => (0 + (i : Int), 0 + (i : Int) + 1 + (j : Int))) = fullP n (i + 1) := by
      rw [fullP, fullP, List.range_succ, List.flatMap_append, List.flatMap_cons, List.flatMap_nil, List.append_nil]
    rw [this]
    exact dSs_nil ⟨by omega, rfl, _, _, rfl⟩
  · rintro ρ' μ' ⟨_, rfl, x, y, rfl⟩
    rw [rng_length]
    exact dSs_cons <| dS_ret <| dE_callTy (hv := Boot.«tuple») cd_tuple B.tuple <| dA_cons <| dE_var 1 rfl rfl <| dA_nil ⟨_, _, rfl, rfl, q _⟩
abbrev sLRing : Stmt := tp 49
theorem scLRing : FnScope ["size", "start", "i"] ["size", "start"] (defScope sLRing) := ⟨rfl, rfl, rfl, by decide +kernel, rfl, by decide +kernel, by decide +kernel⟩
abbrev nmLRing : List Str := ["size", "start", "i"]
theorem ndLRing : (nmLRing : List Str).Nodup := by decide +kernel
theorem okLRing {f : Addr} {fd : FuncData} (F : Fun K "_law_ring" "_law_ring" sLRing f fd) (B : Bi mg) : FnG P w K mg base 1 f fd ["size", "start"] (rP VrgT) := by
  refine FnG.of F scLRing (rP_len fun ds d ⟨n, s, e, _⟩ => by rw [e]; rfl) fun cdv A outer s H E ds μ Q J hr hg ⟨d, ⟨n, s0, e, h1, h12, ed⟩, e2, q⟩ => ?_
  subst e ed e2
  have hl := tiesOf_len (n - 1) fun (k : Nat) => (s0 + (0 + (k : Int)), s0 + (0 + (k : Int)) + 1)
  refine dSs_cons <| dS_ret <| dE_bin od_catL <| dE_lcG [("i", 2)] (fun k : Nat => .int (0 + (k : Int))) (fun k : Nat => prDt (s0 + (0 + (k : Int)), s0 + (0 + (k : Int)) + 1)) rfl ndLRing (blkOk_by (by show blkC (nmLRing : List Str) (defScope sLRing) _ _ = true; decide +kernel)) <|
    dI_range1 B.range <| dA_cons <| dE_bin od_sub <| dE_var 0 rfl rfl <| dE_int <| mk_I0 <| dA_nil ⟨_, rfl, by omega, by omega, trivial, List.range (n - 1).toNat, rfl, by walk_at "lz", fun k hk s1 H1 C1 cl1 fp1 => dGv_name 2 ndLRing rfl ⟨rfl, fun s2 H2 C2 cl2 fp2 => dE_tup <| dA_cons <| dE_bin od_add <| dE_var 1 rfl rfl <| dE_var 2 rfl rfl <| mk_I0 <| dA_cons <| dE_bin od_add <| dE_bin od_add <| dE_var 1 rfl rfl <| dE_var 2 rfl rfl <| mk_I0 <| dE_int <| mk_I0 <| dA_nil ⟨by walk_at "lz", rfl, rfl⟩⟩, ?_⟩
  rw [tiesOf_map (n - 1) fun (k : Nat) => (s0 + (0 + (k : Int)), s0 + (0 + (k : Int)) + 1)]
  refine dE_lst <| dA_cons <| dE_tup <| dA_cons <| dE_var 1 rfl rfl <| dA_cons <| dE_bin od_sub <| dE_bin od_add <| dE_var 1 rfl rfl <| dE_var 0 rfl rfl <| mk_I0 <| dE_int <| mk_I0 <| dA_nil ⟨by walk_at "lz", dA_nil ⟨by walk_at "lz", _, _, rfl, rfl, by rw [sizeLine_eq, List.length_map, hl]; simp; omega, ?_⟩⟩
  have e : (tiesOf (n - 1) fun (k : Nat) => (s0 + (0 + (k : Int)), s0 + (0 + (k : Int)) + 1)).map prDt ++ [.tup [.int s0, .int (s0 + n - 1)]] = (rgT n s0).map prDt := by rw [rgT, List.map_append]; rfl
  rw [e]
  exact q _
end
end Law

/-! W29: faults; what is due. -/
namespace Law
open PySem PySem.Spec PyProof.Rows L2 DL
local macro_rules | `(tactic| walk_at "sd") => `(tactic| first | assumption | decide | exact Or.inr (by decide) | exact Or.inl (by decide) | exact ⟨by decide, by decide⟩ | exact ⟨by decide, by decide, by decide⟩ | omega | exact ⟨by omega, by omega⟩)
local macro_rules | `(tactic| walk_at "lz") => `(tactic| first | exact pen_len | (rw [sizeLine_eq]; simp; done) | (rw [sizeLine_eq]; simp; omega))
section
variable {P : Program} {w : World} {K : PySem.W.Frag} {mg : Str → Option Value} {base : Heap}
local macro_rules | `(tactic| walk_at "lz") => `(tactic| first | exact pen_len | (rw [sizeLine_eq]; simp; done) | (rw [sizeLine_eq]; simp; omega))
abbrev sFault : Stmt := tp 45
theorem scFault : FnScope ["work", "fault"] ["work"] (defScope sFault) := ⟨rfl, rfl, rfl, by decide +kernel, rfl, by decide +kernel, by decide +kernel⟩
theorem okFault {k : Nat} {C7 : Fin 7 → Addr} {f : Addr} {fd : FuncData} (F : Fun K "_law_fault" "_law_fault" sFault f fd) (T : Er7 K mg C7) : FnG P w K mg base (k + 2) f fd ["work"] (rFault P w K mg base k C7) := by
  refine FnG.of F scFault (fun ds μ Q J ⟨L, cs, cds, Qd, Jd, e, _⟩ => by rw [e]; rfl) fun cdv A outer s H E ds μ Q J hr hg ⟨L, cs, cds, Qd, Jd, e, LD, hc, hq, hj⟩ => ?_
  subst e
  have hN : (["work", "fault"] : List Str).Nodup := by decide +kernel
  refine dSs_cons (dS_try hN rfl rfl fun pn xe hp => dSs_one (dS_expr (dE_act (i := 0) (k := k) rfl rfl LD.ok LD.nd LD.inj hc LD.mf LD.bind hr hg fun f c' A outer s H E hr2 hg2 => ?_)))
  refine dE_imp ((LD.body f c' A outer s H E hr2 hg2).imp fun d μ' z => ⟨z.1, dSs_cons (dS_ret (dE_non (hq d z.2)))⟩) fun C gs μ' z => ⟨z.1, ?_⟩
  obtain ⟨d, ⟨i, rfl, ys, rfl, py⟩, q⟩ := hj C gs z.1 z.2
  match i, py, q with
  | 0, .cons h0 .nil, q =>
    have ne : gs ≠ [] := fun z => by rw [z] at h0; cases h0
    exact ⟨nm7 0, _, some "fault", _, _, _, .ref (C7 0), true, rfl, ⟨rfl, by decide, .inl (T.g 0)⟩, T.exm 0 0, fun z => absurd z (by decide), fun _ a oe d pn hz hd dz => ⟨1, rfl, rfl, dSs_cons (dS_ret (dE_tup (dA_cons (dE_str (dA_cons (dE_fldC (T.xf 0) (T.no 0 "lot" (by decide +kernel)) hz hd (dE_var 1 rfl rfl ⟨_, _, rfl, h0, dz ne, dA_nil ⟨by walk_at "lz", q⟩⟩)))))))⟩⟩
  | 1, .cons h0 (.cons h1 .nil), q =>
    have ne : gs ≠ [] := fun z => by rw [z] at h0; cases h0
    exact ⟨nm7 0, _, some "fault", _, _, _, .ref (C7 0), false, rfl, ⟨rfl, by decide, .inl (T.g 0)⟩, T.exm 1 0, fun _ => ⟨nm7 1, _, some "fault", _, _, _, .ref (C7 1), true, rfl, ⟨rfl, by decide, .inl (T.g 1)⟩, T.exm 1 1, fun z => absurd z (by decide), fun _ a oe d pn hz hd dz => ⟨1, rfl, rfl, dSs_cons (dS_ret (dE_tup (dA_cons (dE_str (dA_cons (dE_fldC (T.xf 1) (T.no 1 "what" (by decide +kernel)) hz hd (dE_var 1 rfl rfl ⟨_, _, rfl, h0, dz ne, dA_cons (dE_fldC (T.xf 1) (T.no 1 "number" (by decide +kernel)) hz hd (dE_var 1 rfl rfl ⟨_, _, rfl, h1, dz ne, dA_nil ⟨by walk_at "lz", q⟩⟩))⟩)))))))⟩⟩, fun z => absurd z (by decide)⟩
  | 2, .cons h0 .nil, q =>
    have ne : gs ≠ [] := fun z => by rw [z] at h0; cases h0
    exact ⟨nm7 0, _, some "fault", _, _, _, .ref (C7 0), false, rfl, ⟨rfl, by decide, .inl (T.g 0)⟩, T.exm 2 0, fun _ => ⟨nm7 1, _, some "fault", _, _, _, .ref (C7 1), false, rfl, ⟨rfl, by decide, .inl (T.g 1)⟩, T.exm 2 1, fun _ => ⟨nm7 2, _, some "fault", _, _, _, .ref (C7 2), true, rfl, ⟨rfl, by decide, .inl (T.g 2)⟩, T.exm 2 2, fun z => absurd z (by decide), fun _ a oe d pn hz hd dz => ⟨1, rfl, rfl, dSs_cons (dS_ret (dE_tup (dA_cons (dE_str (dA_cons (dE_fldC (T.xf 2) (T.no 2 "row" (by decide +kernel)) hz hd (dE_var 1 rfl rfl ⟨_, _, rfl, h0, dz ne, dA_nil ⟨by walk_at "lz", q⟩⟩)))))))⟩⟩, fun z => absurd z (by decide)⟩, fun z => absurd z (by decide)⟩
  | 3, .cons h0 .nil, q =>
    have ne : gs ≠ [] := fun z => by rw [z] at h0; cases h0
    exact ⟨nm7 0, _, some "fault", _, _, _, .ref (C7 0), false, rfl, ⟨rfl, by decide, .inl (T.g 0)⟩, T.exm 3 0, fun _ => ⟨nm7 1, _, some "fault", _, _, _, .ref (C7 1), false, rfl, ⟨rfl, by decide, .inl (T.g 1)⟩, T.exm 3 1, fun _ => ⟨nm7 2, _, some "fault", _, _, _, .ref (C7 2), false, rfl, ⟨rfl, by decide, .inl (T.g 2)⟩, T.exm 3 2, fun _ => ⟨nm7 3, _, some "fault", _, _, _, .ref (C7 3), true, rfl, ⟨rfl, by decide, .inl (T.g 3)⟩, T.exm 3 3, fun z => absurd z (by decide), fun _ a oe d pn hz hd dz => ⟨1, rfl, rfl, dSs_cons (dS_ret (dE_tup (dA_cons (dE_str (dA_cons (dE_fldC (T.xf 3) (T.no 3 "table" (by decide +kernel)) hz hd (dE_var 1 rfl rfl ⟨_, _, rfl, h0, dz ne, dA_nil ⟨by walk_at "lz", q⟩⟩)))))))⟩⟩, fun z => absurd z (by decide)⟩, fun z => absurd z (by decide)⟩, fun z => absurd z (by decide)⟩
  | 4, .cons h0 (.cons h1 .nil), q =>
    have ne : gs ≠ [] := fun z => by rw [z] at h0; cases h0
    exact ⟨nm7 0, _, some "fault", _, _, _, .ref (C7 0), false, rfl, ⟨rfl, by decide, .inl (T.g 0)⟩, T.exm 4 0, fun _ => ⟨nm7 1, _, some "fault", _, _, _, .ref (C7 1), false, rfl, ⟨rfl, by decide, .inl (T.g 1)⟩, T.exm 4 1, fun _ => ⟨nm7 2, _, some "fault", _, _, _, .ref (C7 2), false, rfl, ⟨rfl, by decide, .inl (T.g 2)⟩, T.exm 4 2, fun _ => ⟨nm7 3, _, some "fault", _, _, _, .ref (C7 3), false, rfl, ⟨rfl, by decide, .inl (T.g 3)⟩, T.exm 4 3, fun _ => ⟨nm7 4, _, some "fault", _, _, _, .ref (C7 4), true, rfl, ⟨rfl, by decide, .inl (T.g 4)⟩, T.exm 4 4, fun z => absurd z (by decide), fun _ a oe d pn hz hd dz => ⟨1, rfl, rfl, dSs_cons (dS_ret (dE_tup (dA_cons (dE_str (dA_cons (dE_fldC (T.xf 4) (T.no 4 "what" (by decide +kernel)) hz hd (dE_var 1 rfl rfl ⟨_, _, rfl, h0, dz ne, dA_cons (dE_fldC (T.xf 4) (T.no 4 "value" (by decide +kernel)) hz hd (dE_var 1 rfl rfl ⟨_, _, rfl, h1, dz ne, dA_nil ⟨by walk_at "lz", q⟩⟩))⟩)))))))⟩⟩, fun z => absurd z (by decide)⟩, fun z => absurd z (by decide)⟩, fun z => absurd z (by decide)⟩, fun z => absurd z (by decide)⟩
  | 5, .cons h0 (.cons h1 (.cons h2 .nil)), q =>
    have ne : gs ≠ [] := fun z => by rw [z] at h0; cases h0
    exact ⟨nm7 0, _, some "fault", _, _, _, .ref (C7 0), false, rfl, ⟨rfl, by decide, .inl (T.g 0)⟩, T.exm 5 0, fun _ => ⟨nm7 1, _, some "fault", _, _, _, .ref (C7 1), false, rfl, ⟨rfl, by decide, .inl (T.g 1)⟩, T.exm 5 1, fun _ => ⟨nm7 2, _, some "fault", _, _, _, .ref (C7 2), false, rfl, ⟨rfl, by decide, .inl (T.g 2)⟩, T.exm 5 2, fun _ => ⟨nm7 3, _, some "fault", _, _, _, .ref (C7 3), false, rfl, ⟨rfl, by decide, .inl (T.g 3)⟩, T.exm 5 3, fun _ => ⟨nm7 4, _, some "fault", _, _, _, .ref (C7 4), false, rfl, ⟨rfl, by decide, .inl (T.g 4)⟩, T.exm 5 4, fun _ => ⟨nm7 5, _, some "fault", _, _, _, .ref (C7 5), true, rfl, ⟨rfl, by decide, .inl (T.g 5)⟩, T.exm 5 5, fun z => absurd z (by decide), fun _ a oe d pn hz hd dz => ⟨1, rfl, rfl, dSs_cons (dS_ret (dE_tup (dA_cons (dE_str (dA_cons (dE_fldC (T.xf 5) (T.no 5 "what" (by decide +kernel)) hz hd (dE_var 1 rfl rfl ⟨_, _, rfl, h0, dz ne, dA_cons (dE_fldC (T.xf 5) (T.no 5 "many" (by decide +kernel)) hz hd (dE_var 1 rfl rfl ⟨_, _, rfl, h1, dz ne, dA_cons (dE_fldC (T.xf 5) (T.no 5 "limit" (by decide +kernel)) hz hd (dE_var 1 rfl rfl ⟨_, _, rfl, h2, dz ne, dA_nil ⟨by walk_at "lz", q⟩⟩))⟩))⟩)))))))⟩⟩, fun z => absurd z (by decide)⟩, fun z => absurd z (by decide)⟩, fun z => absurd z (by decide)⟩, fun z => absurd z (by decide)⟩, fun z => absurd z (by decide)⟩
  | 6, .cons h0 .nil, q =>
    have ne : gs ≠ [] := fun z => by rw [z] at h0; cases h0
    exact ⟨nm7 0, _, some "fault", _, _, _, .ref (C7 0), false, rfl, ⟨rfl, by decide, .inl (T.g 0)⟩, T.exm 6 0, fun _ => ⟨nm7 1, _, some "fault", _, _, _, .ref (C7 1), false, rfl, ⟨rfl, by decide, .inl (T.g 1)⟩, T.exm 6 1, fun _ => ⟨nm7 2, _, some "fault", _, _, _, .ref (C7 2), false, rfl, ⟨rfl, by decide, .inl (T.g 2)⟩, T.exm 6 2, fun _ => ⟨nm7 3, _, some "fault", _, _, _, .ref (C7 3), false, rfl, ⟨rfl, by decide, .inl (T.g 3)⟩, T.exm 6 3, fun _ => ⟨nm7 4, _, some "fault", _, _, _, .ref (C7 4), false, rfl, ⟨rfl, by decide, .inl (T.g 4)⟩, T.exm 6 4, fun _ => ⟨nm7 5, _, some "fault", _, _, _, .ref (C7 5), false, rfl, ⟨rfl, by decide, .inl (T.g 5)⟩, T.exm 6 5, fun _ => ⟨nm7 6, _, some "fault", _, _, _, .ref (C7 6), true, rfl, ⟨rfl, by decide, .inl (T.g 6)⟩, T.exm 6 6, fun z => absurd z (by decide), fun _ a oe d pn hz hd dz => ⟨1, rfl, rfl, dSs_cons (dS_ret (dE_tup (dA_cons (dE_str (dA_cons (dE_fldC (T.xf 6) (T.no 6 "what" (by decide +kernel)) hz hd (dE_var 1 rfl rfl ⟨_, _, rfl, h0, dz ne, dA_nil ⟨by walk_at "lz", q⟩⟩)))))))⟩⟩, fun z => absurd z (by decide)⟩, fun z => absurd z (by decide)⟩, fun z => absurd z (by decide)⟩, fun z => absurd z (by decide)⟩, fun z => absurd z (by decide)⟩, fun z => absurd z (by decide)⟩
abbrev sDue : Stmt := tp 46
theorem scDue : FnScope ["tries", "work", "due"] ["tries"] (defScope sDue) := ⟨rfl, rfl, rfl, by decide +kernel, rfl, by decide +kernel, by decide +kernel⟩
theorem okDue {k : Nat} {C7 : Fin 7 → Addr} {f : Addr} {fd : FuncData} (F : Fun K "_law_are_due" "_law_are_due" sDue f fd) (f_fault : DefP P w K mg base (k + 2) "_law_fault" ["work"] (rFault P w K mg base k C7)) (n_all : mg "all" = none) (n_repr : mg "repr" = none) : FnG P w K mg base (k + 3) f fd ["tries"] (rDue P w K mg base k C7) := by
  refine FnG.of F scDue (fun ds μ Q J ⟨tries, e, _⟩ => by rw [e]; rfl) fun cdv A outer s H E ds μ Q J hr hg ⟨tries, e, hl, hall, q⟩ => ?_
  subst e
  have hN : (["tries", "work", "due"] : List Str).Nodup := by decide +kernel
  have hu9 : ∀ u : Nat, u + 16 * (k + 2) + 200 < cLine → u + 9 < cLine := fun u h => by omega
  refine dSs_cons (dS_ret (dE_callB (hv := Boot.«all») (cd_all rfl) n_all (dA_cons (dE_lc [("work", 1), ("due", 2)] rfl hN (blkOk_by (by show blkC (["tries", "work", "due"] : List Str) (defScope sDue) _ _ = true; decide +kernel)) (dI_seq (dE_var 0 rfl rfl ⟨_, rfl, ?_⟩))))))
  have step : ∀ {x : Dt} {y : Str} (i : Nat), tries[i]? = some x → ((List.replicate i true).map Dt.bl).length < sizeLine ∧ (List.replicate i true).map Dt.bl ++ [Dt.bl (y == y)] = (List.replicate (i + 1) true).map Dt.bl ∧ μ = μ := fun {x y} i hx => by
    have hi := (List.getElem?_eq_some_iff.mp hx).1
    refine ⟨?_, ?_, rfl⟩
    · rw [sizeLine_eq]; simp; omega
    · rw [List.replicate_succ']; simp
  refine ⟨fun i acc μ' => acc = (List.replicate i true).map Dt.bl ∧ μ' = μ, ⟨rfl, rfl⟩, ?_, ?_, ?_⟩
  · rintro i acc μ' ⟨_, rfl⟩
    rfl
  · rintro i x acc μ' hx ⟨rfl, rfl⟩
    obtain ⟨L, cs, cds, Qd, Jd, due, rfl, LD, hc, hq, hj, p, hp, hs, hz, hd⟩ := hall x (List.mem_of_getElem? hx)
    intro s1 H1 C1 cl1 fp1
    refine dGv_tup rfl rfl (dGsv_cons (dGv_name 1 hN rfl (dGsv_cons (dGv_name 2 hN rfl (dGsv_nil ?_)))))
    intro s2 H2 C2 cl2 fp2
    refine dTs_nil ?_
    rw [if_pos rfl]
    intro s3 H3 C3 cl3 fp3
    refine dE_cmp od_eqF (dE_callB (hv := Boot.«repr») (cd_repr hg (n := 9) (hu9 _ hr.un)) n_repr (dA_cons (dE_goA f_fault hr hg (dA_cons (dE_var 1 rfl rfl (dA_nil ?_))))))
    refine ⟨L, cs, cds, Qd, Jd, rfl, LD, hc, fun d z => ?_, fun C gs mg z => ⟨due, hj C gs mg z, ?_⟩⟩
    · have e := hq d z
      subst e
      refine dA_nil ⟨_, p, rfl, hp, hs, hz, hd, dE_callB (hv := Boot.«repr») (cd_repr hg (n := 9) (hu9 _ hr.un)) n_repr (dA_cons (dE_var 2 rfl rfl (dA_nil ⟨_, p, rfl, hp, hs, hz, hd, ⟨_, rfl, ?_⟩⟩)))⟩
      exact step i hx
    · refine dA_nil ⟨_, p, rfl, hp, hs, hz, hd, dE_callB (hv := Boot.«repr») (cd_repr hg (n := 9) (hu9 _ hr.un)) n_repr (dA_cons (dE_var 2 rfl rfl (dA_nil ⟨_, p, rfl, hp, hs, hz, hd, ⟨_, rfl, ?_⟩⟩)))⟩
      exact step i hx
  · rintro acc μ' ⟨rfl, rfl⟩
    refine dA_nil ⟨_, rfl, ?_⟩
    have e : (List.replicate tries.length true).all id = true := by simp
    rw [e]
    exact q
end
end Law

/-! W66: plain facts of webs that have a name. -/
namespace Law
open PySem PySem.Spec PyProof.Rows L2 DL
local macro_rules | `(tactic| walk_at "sd") => `(tactic| first | assumption | decide | exact Or.inr (by decide) | exact Or.inl (by decide) | exact ⟨by decide, by decide⟩ | exact ⟨by decide, by decide, by decide⟩ | omega | exact ⟨by omega, by omega⟩)
local macro_rules | `(tactic| walk_at "lz") => `(tactic| first | exact pen_len | (rw [sizeLine_eq]; simp; done) | (rw [sizeLine_eq]; simp; omega))
section
variable {P : Program} {w : World} {K : PySem.W.Frag} {mg : Str → Option Value} {base : Heap}
def repB (d : Dt) : Bool := match toPy d with
  | some p => smP p && Nat.ble (widP p) 100000 && Nat.ble (p.depth + 1) 9
  | none => false
theorem rep_of {d : Dt} (h : repB d = true) : RepOk d := by
  unfold repB at h
  cases e : toPy d with
  | none => rw [e] at h; cases h
  | some p =>
    rw [e] at h
    simp only [Bool.and_eq_true] at h
    exact repOk_of e h.1.1 h.1.2 h.2
def oB (o : Option (List (List Int))) (f : List (List Int) → Bool) : Bool := match o with
  | some R => f R
  | none => false
theorem oB_of {o : Option (List (List Int))} {f : List (List Int) → Bool} (h : oB o f = true) : ∃ R, o = some R ∧ f R = true := by
  cases o with
  | none => cases h
  | some R => exact ⟨R, rfl, h⟩
def neB (R : List (List Int)) : Bool := R.all fun p => !p.isEmpty
theorem neB_of {R : List (List Int)} (h : neB R = true) : ∀ p ∈ R, p ≠ [] := fun p hp e => by
  have := List.all_eq_true.mp h p hp
  rw [e] at this
  cases this
theorem tied_fact {n : Int} (h1 : 1 ≤ n) (h2 : n ≤ 9) : srtP (atT n) = fullP n n.toNat ∧ RepOk (.tup [.int n, tiesD (fullP n n.toNat)]) := by
  have a := fin_of (f := fun n => decide (srtP (atT n) = fullP n n.toNat) && repB (.tup [.int n, tiesD (fullP n n.toNat)])) (lo := 1) (m := 9) (by decide +kernel) h1 (by omega)
  rw [Bool.and_eq_true, decide_eq_true_eq] at a
  exact ⟨a.1, rep_of a.2⟩
theorem two_fact {a b : Int} (h1 : 1 ≤ a) (h2 : a ≤ 6) (h3 : 1 ≤ b) (h4 : b ≤ 6) : srtP (twoP a b a.toNat) = twoP a b a.toNat ∧ RepOk (.tup [.int (a + b), tiesD (twoP a b a.toNat)]) := by
  have z := fin2_of (f := fun a b => decide (srtP (twoP a b a.toNat) = twoP a b a.toNat) && repB (.tup [.int (a + b), tiesD (twoP a b a.toNat)])) (lo := 1) (m := 6) (by decide +kernel) h1 (by omega) h3 (by omega)
  rw [Bool.and_eq_true, decide_eq_true_eq] at z
  exact ⟨z.1, rep_of z.2⟩
theorem ring_fact {n : Int} (h1 : 3 ≤ n) (h2 : n ≤ 12) : RepOk (tiesD (srtP (rgT n 0))) ∧ ∃ R, rdAll n (srtP (rgT n 0)) = some R ∧ (∀ p ∈ R, p ≠ []) ∧ R.length = 1 := by
  have a := fin_of (f := fun n => repB (tiesD (srtP (rgT n 0))) && oB (rdAll n (srtP (rgT n 0))) fun R => neB R && decide (R.length = 1)) (lo := 3) (m := 10) (by decide +kernel) h1 (by omega)
  rw [Bool.and_eq_true] at a
  obtain ⟨R, e, z⟩ := oB_of a.2
  rw [Bool.and_eq_true, decide_eq_true_eq] at z
  exact ⟨rep_of a.1, R, e, neB_of z.1, z.2⟩
theorem wheel_fact {n : Int} (h1 : 3 ≤ n) (h2 : n ≤ 11) : RepOk (tiesD (srtP (whT n))) ∧ ∃ R, rdAll (n + 1) (srtP (whT n)) = some R ∧ (∀ p ∈ R, p ≠ []) ∧ (R.length : Int) = n * (n - 1) + 1 ∧ R.length ≤ 400 := by
  have a := fin_of (f := fun n => repB (tiesD (srtP (whT n))) && oB (rdAll (n + 1) (srtP (whT n))) fun R => neB R && decide ((R.length : Int) = n * (n - 1) + 1) && decide (R.length ≤ 400)) (lo := 3) (m := 9) (by decide +kernel) h1 (by omega)
  rw [Bool.and_eq_true] at a
  obtain ⟨R, e, z⟩ := oB_of a.2
  rw [Bool.and_eq_true, Bool.and_eq_true, decide_eq_true_eq, decide_eq_true_eq] at z
  exact ⟨rep_of a.1, R, e, neB_of z.1.1, z.1.2, z.2⟩
theorem prism_fact {n : Int} (h1 : 3 ≤ n) (h2 : n ≤ 6) : RepOk (tiesD (srtP (prT n))) := rep_of (fin_of (f := fun n => repB (tiesD (srtP (prT n)))) (lo := 3) (m := 4) (by decide +kernel) h1 (by omega))
theorem eight_fact : RepOk (.tup [.int 8, tiesD (srtP egT)]) ∧ srtI (edF 8 (srtP egT)) = List.replicate 8 3 := ⟨rep_of (by decide +kernel), by decide +kernel⟩
theorem far_fact : RepOk (.tup [.int 10, tiesD (srtP ptT)]) ∧ srtI (edF 10 (srtP ptT)) = List.replicate 10 3 ∧ ∃ R, rdAll 10 (srtP ptT) = some R ∧ (∀ p ∈ R, p ≠ []) ∧ R.length ≤ 400 ∧ (∃ p ∈ R, p.length = 5) ∧ ∀ p ∈ R, 5 ≤ p.length := by
  refine ⟨rep_of (by decide +kernel), by decide +kernel, ?_⟩
  have a : oB (rdAll 10 (srtP ptT)) (fun R => neB R && decide (R.length ≤ 400) && (R.any fun p => decide (p.length = 5)) && R.all fun p => decide (5 ≤ p.length)) = true := by decide +kernel
  obtain ⟨R, e, z⟩ := oB_of a
  simp only [Bool.and_eq_true, decide_eq_true_eq, List.any_eq_true, List.all_eq_true] at z
  exact ⟨R, e, neB_of z.1.1.1, z.1.1.2, z.1.2, z.2⟩
def dueG (a b : Int) (k : Nat) : List (Int × Int) := (List.range k).flatMap fun (i : Nat) => tiesOf (b - 1) (fun (j : Nat) => ((0 + (i : Int)) * b + (0 + (j : Int)), (0 + (i : Int)) * b + (0 + (j : Int)) + 1)) ++
  ((List.range b.toNat).filter fun _ => decide (0 + (i : Int) + 1 < a)).map fun (j : Nat) => ((0 + (i : Int)) * b + (0 + (j : Int)), (0 + (i : Int)) * b + (0 + (j : Int)) + b)
theorem dueG_len {a b : Int} {k : Nat} (h : b ≤ 12) : (dueG a b k).length ≤ k * 24 := by
  have := flat_len (f := fun (i : Nat) => tiesOf (b - 1) (fun (j : Nat) => ((0 + (i : Int)) * b + (0 + (j : Int)), (0 + (i : Int)) * b + (0 + (j : Int)) + 1)) ++
  ((List.range b.toNat).filter fun _ => decide (0 + (i : Int) + 1 < a)).map fun (j : Nat) => ((0 + (i : Int)) * b + (0 + (j : Int)), (0 + (i : Int)) * b + (0 + (j : Int)) + b)) (l := List.range k) (c := 24) fun x _ => by
    rw [List.length_append, tiesOf_len, List.length_map]
    have := List.length_filter_le (fun _ => decide (0 + (x : Int) + 1 < a)) (List.range b.toNat)
    rw [List.length_range] at this
    omega
  rwa [List.length_range] at this
theorem grid_fact {a b : Int} (h1 : 1 ≤ a) (h2 : a ≤ 4) (h3 : 1 ≤ b) (h4 : a * b ≤ 12) (h5 : b ≤ 12) : srtP (dueG a b a.toNat) = srtP (gdT a b) ∧ RepOk (.tup [.int (a * b), tiesD (srtP (gdT a b))]) ∧
    (((srtP (gdT a b)).length : Nat) : Int) - ((frI (a * b) (srtP (gdT a b))).length : Nat) = (a - 1) * (b - 1) ∧ (((frI (a * b) (srtP (gdT a b))).length : Nat) : Int) = a * b - 1 := by
  have z := fin2_of (f := fun a b => !(decide (a ≤ 4) && decide (a * b ≤ 12)) || (decide (srtP (dueG a b a.toNat) = srtP (gdT a b)) && repB (.tup [.int (a * b), tiesD (srtP (gdT a b))]) &&
    decide ((((srtP (gdT a b)).length : Nat) : Int) - ((frI (a * b) (srtP (gdT a b))).length : Nat) = (a - 1) * (b - 1)) && decide ((((frI (a * b) (srtP (gdT a b))).length : Nat) : Int) = a * b - 1))) (lo := 1) (m := 12) (by decide +kernel) h1 (by omega) h3 (by omega)
  rw [decide_eq_true h2, decide_eq_true h4] at z
  simp only [Bool.and_self, Bool.not_true, Bool.false_or, Bool.and_eq_true, decide_eq_true_eq] at z
  exact ⟨z.1.1.1, rep_of z.1.1.2, z.1.2, z.2⟩
theorem star_eq : ((List.range (5 : Int).toNat).map fun (k : Nat) => prDt (if (0 + (k : Int) + 2) % 5 + 5 < 0 + (k : Int) + 5 then (0 + (k : Int) + 2) % 5 + 5 else 0 + (k : Int) + 5, if (0 + (k : Int) + 2) % 5 + 5 > 0 + (k : Int) + 5 then (0 + (k : Int) + 2) % 5 + 5 else 0 + (k : Int) + 5)) = stT.map prDt := by rfl
theorem area {a b : Int} (h1 : 1 ≤ a) (h2 : a ≤ 4) (h : b ≤ 12 / a) : a * b ≤ 12 ∧ b ≤ 12 := by
  rcases (by omega : a = 1 ∨ a = 2 ∨ a = 3 ∨ a = 4) with rfl | rfl | rfl | rfl <;> omega
end
end Law

/-! W67: the law's lambdas and its last rows. -/
namespace Law
open PySem PySem.Spec PyProof.Rows L2 DL
local macro_rules | `(tactic| walk_at "sd") => `(tactic| first | assumption | decide | exact Or.inr (by decide) | exact Or.inl (by decide) | exact ⟨by decide, by decide⟩ | exact ⟨by decide, by decide, by decide⟩ | omega | exact ⟨by omega, by omega⟩)
local macro_rules | `(tactic| walk_at "lz") => `(tactic| first | exact pen_len | (rw [sizeLine_eq]; simp; done) | (rw [sizeLine_eq]; simp; omega))
section
variable {P : Program} {w : World} {K : PySem.W.Frag} {mg : Str → Option Value} {base : Heap}
local macro_rules | `(tactic| walk_at "lz") => `(tactic| first | exact pen_len | (rw [sizeLine_eq]; simp; done) | (rw [sizeLine_eq]; simp; omega) | (rw [sizeLine_eq]; omega))
theorem injN : ∀ {cs : List (Str × Addr)}, (cs.map (·.2)).Nodup → ∀ (x y : Str) (c : Addr), cs.lookup x = some c → cs.lookup y = some c → x = y := fun {cs} nd x y c h1 h2 => by
  have m1 := PySem.mem_of_lookup h1
  have m2 := PySem.mem_of_lookup h2
  clear h1 h2
  induction cs with
  | nil => cases m1
  | cons p r ih =>
    rw [List.map_cons, List.nodup_cons] at nd
    rcases List.mem_cons.mp m1 with e1 | m1 <;> rcases List.mem_cons.mp m2 with e2 | m2
    · have := e1.trans e2.symm
      exact (Prod.mk.inj this).1
    · exact absurd (List.mem_map.mpr ⟨_, m2, by rw [← e1]⟩) nd.1
    · exact absurd (List.mem_map.mpr ⟨_, m1, by rw [← e2]⟩) nd.1
    · exact ih nd.2 m1 m2
theorem cellsD_nil {μ : Mu} : CellsD μ [] [] := ⟨rfl, fun i x c d h _ => by simp at h⟩
theorem cellsD_cons {μ : Mu} {cs : List (Str × Addr)} {ds : List Dt} {x : Str} {c : Addr} {d : Dt} {n : Nat} {oc : Obj} (h : μ[n]? = some (.cell n c oc d)) (t : CellsD μ cs ds) : CellsD μ ((x, c) :: cs) (d :: ds) :=
  ⟨by rw [List.length_cons, List.length_cons, t.1], fun i y e f h1 h2 => by
    match i, h1, h2 with
    | 0, h1, h2 =>
      simp only [List.getElem?_cons_zero, Option.some.injEq, Prod.mk.injEq] at h1 h2
      obtain ⟨_, rfl⟩ := h1
      subst h2
      exact ⟨n, oc, h⟩
    | i + 1, h1, h2 => exact t.2 i y e f (by simpa using h1) (by simpa using h2)⟩
/-- all lambdas that a statement's expressions hold, in their order -/
def lamE (q : Str) : Nat → Expr → List LamI
  | 0, _ => []
  | _ + 1, .Lambda a b sc _ => [⟨q, a, b, sc⟩]
  | n + 1, .Tuple es _ _ => es.flatMap (lamE q n)
  | n + 1, .List es _ => es.flatMap (lamE q n)
  | n + 1, .Call _ es _ _ => es.flatMap (lamE q n)
  | _, _ => []
def lamSt (q : Str) : Nat → Stmt → List LamI
  | 0, _ => []
  | _ + 1, .Assign _ e _ => lamE q 5 e
  | _ + 1, .Expr e _ => lamE q 5 e
  | _ + 1, .Return (some e) _ => lamE q 5 e
  | n + 1, .For _ _ b _ _ => b.flatMap (lamSt q n)
  | _, _ => []
theorem noFree {sc : Scope} {R : Str × NameKind → Prop} (h : (sc.names.all fun y => !decide (y.2 = .free)) = true) : ∀ y ∈ sc.names, y.2 = .free → R y := fun y hy e => by
  have := List.all_eq_true.mp h y hy
  rw [decide_eq_true e] at this
  cases this
abbrev sLaw : Stmt := tp 50
theorem scLaw : FnScope ["script", "pen", "n", "a", "b", "one", "two", "sides", "i", "j", "size", "spokes", "turns", "due", "eight", "far", "star", "lot", "rows", "columns", "net", "low", "tries"] ["script"] (defScope sLaw) := ⟨rfl, rfl, rfl, by decide +kernel, rfl, by decide +kernel, by decide +kernel⟩
abbrev nmLaw : List Str := ["script", "pen", "n", "a", "b", "one", "two", "sides", "i", "j", "size", "spokes", "turns", "due", "eight", "far", "star", "lot", "rows", "columns", "net", "low", "tries"]
theorem ndLaw : (nmLaw : List Str).Nodup := by decide +kernel
abbrev lamQ : Str := (envOfC "law" (defScope sLaw) 0 0 .none).qual ++ "<lambda>"
def lams : List LamI := (defBody sLaw).flatMap (lamSt lamQ 3)
theorem lams11 : lams.length = 11 := by kernel_rfl
abbrev lamAt (i : Fin 11) : LamI := lams.get ⟨i.1, by rw [lams11]; exact i.2⟩
def lowL : List Dt := [.int (1 - 1), .int (6 + 1), .non, .bl true, .str "1"]
theorem low_mf {x : Dt} (h : x ∈ lowL) : x.mf = true := by
  simp only [lowL, List.mem_cons, List.not_mem_nil, or_false] at h
  rcases h with rfl | rfl | rfl | rfl | rfl <;> rfl
theorem low_ty {x : Dt} (h : x ∈ lowL) : ∃ T, tyS x = some T := by
  simp only [lowL, List.mem_cons, List.not_mem_nil, or_false] at h
  rcases h with rfl | rfl | rfl | rfl | rfl <;> exact ⟨_, rfl⟩
theorem low_out {x : Dt} (h : x ∈ lowL) : ∀ i, x = .int i → i < 1 ∨ 6 < i := by
  simp only [lowL, List.mem_cons, List.not_mem_nil, or_false] at h
  intro i e
  rcases h with rfl | rfl | rfl | rfl | rfl <;> cases e <;> decide
theorem low_rep {x : Dt} {y : Str} (h : x ∈ lowL) (hy : y = "a" ∨ y = "b") : RepOk (.tup [.str "number", .str y, x]) := by
  have a : lowL.all (fun x => repB (.tup [.str "number", .str "a", x]) && repB (.tup [.str "number", .str "b", x])) = true := by decide +kernel
  have b := List.all_eq_true.mp a x h
  rw [Bool.and_eq_true] at b
  rcases hy with rfl | rfl
  · exact rep_of b.1
  · exact rep_of b.2
structure LawH (P : Program) (w : World) (K : PySem.W.Frag) (mg : Str → Option Value) (base : Heap) (CW : Addr) (C7 : Fin 7 → Addr) : Prop where
  B : Bi mg
  W : WebK K mg CW
  draw : DefP P w K mg base 1 "_law_draw" ["pen", "many"] rDraw
  oddn : DefP P w K mg base 3 "_law_odd_number" ["pen", "low", "high"] rOddN
  tied : DefP P w K mg base 1 "_law_tied" ["size"] (rP VtiedL)
  lring : DefP P w K mg base 1 "_law_ring" ["size", "start"] (rP VrgT)
  ends : DefP P w K mg base 1 "_law_ends" ["size", "ties"] (rP Vends)
  all_tied : DefP P w K mg base 6 "all_tied" ["size"] (rR (Vone CW (C7 1) "size" 1 9 (fun n => n) atT))
  two : DefP P w K mg base 6 "two_sides" ["a", "b"] (rR (Vtwo2 CW (C7 1)))
  ring : DefP P w K mg base 6 "ring" ["size"] (rR (Vone CW (C7 1) "size" 3 12 (fun n => n) fun n => rgT n 0))
  wheel : DefP P w K mg base 6 "wheel" ["spokes"] (rR (Vone CW (C7 1) "spokes" 3 11 (fun n => n + 1) whT))
  prism : DefP P w K mg base 6 "prism" ["sides"] (rR (Vone CW (C7 1) "sides" 3 6 (fun n => 2 * n) prT))
  eight : DefP P w K mg base 6 "eight_web" [] (rP (Vconst CW 8 egT))
  peter : DefP P w K mg base 6 "petersen_web" [] (rP (Vconst CW 10 ptT))
  grid : DefP P w K mg base 6 "grid" ["a", "b"] (rR (Vgrid2 CW (C7 1) (C7 5)))
  rounds : DefP P w K mg base 4 "rounds" ["web"] (rP (Vrounds CW))
  even : DefP P w K mg base 4 "many_even" ["web"] (rP (Veven CW))
  cuts : DefP P w K mg base 4 "many_cuts" ["web"] (rP (Vcuts CW))
  due : DefP P w K mg base 9 "_law_are_due" ["tries"] (rDue P w K mg base 6 C7)
variable {CW : Addr} {C7 : Fin 7 → Addr} {low : Dt} {c1 : Addr}
theorem lam0 (h : LawH P w K mg base CW C7) : LamD P w K mg base 6 (lamAt 0) [] [] (fun _ => False) fun C gs => C = C7 1 ∧ gs = erF ["what", "number"] [.str "size", .int 10] := by
  refine ⟨lamN_by (by show lamNB (lamAt 0).scope ([] : List Str) = true; decide +kernel), (by show ([] : List Str).Nodup; decide +kernel), injN (by simp), rfl, fun _ _ _ => rfl, fun f c' A outer s H E hr hg => ?_⟩
  exact dE_go h.all_tied hr hg <| dA_cons <| dE_int <| dA_nil <| mk_fx rfl rfl ⟨_, rfl, ⟨_, rfl⟩, rfl, .inr ⟨fun i e => by cases e; decide, rfl⟩⟩ ⟨rfl, rfl, rfl⟩
theorem lam1 (hl : low ∈ lowL) (h : LawH P w K mg base CW C7) : LamD P w K mg base 6 (lamAt 1) [("low", c1)] [low] (fun _ => False) fun C gs => C = C7 1 ∧ gs = erF ["what", "number"] [.str "a", low] := by
  refine ⟨lamN_by (by show lamNB (lamAt 1).scope (["low"] : List Str) = true; decide +kernel), (by show (["low"] : List Str).Nodup; decide +kernel), injN (by simp), by simp [mfs, low_mf hl], fun _ _ _ => rfl, fun f c' A outer s H E hr hg => ?_⟩
  have hm := low_mf hl
  exact dE_go h.two hr hg <| dA_cons <| dE_var 0 rfl rfl <| dA_cons <| dE_non <| dA_nil <| mk_fx (mfs2 hm rfl) (by simp [erF, mff, hm, Dt.mf]) ⟨_, _, rfl, low_ty hl, hm, ⟨_, rfl⟩, rfl, .inr (.inl ⟨low_out hl, rfl⟩)⟩ ⟨by simp [erF, mff, hm, Dt.mf], rfl, rfl⟩
theorem lam2 (hl : low ∈ lowL) (h : LawH P w K mg base CW C7) : LamD P w K mg base 6 (lamAt 2) [("low", c1)] [low] (fun _ => False) fun C gs => C = C7 1 ∧ gs = erF ["what", "number"] [.str "b", low] := by
  refine ⟨lamN_by (by show lamNB (lamAt 2).scope (["low"] : List Str) = true; decide +kernel), (by show (["low"] : List Str).Nodup; decide +kernel), injN (by simp), by simp [mfs, low_mf hl], fun _ _ _ => rfl, fun f c' A outer s H E hr hg => ?_⟩
  have hm := low_mf hl
  exact dE_go h.two hr hg <| dA_cons <| dE_int <| dA_cons <| dE_var 0 rfl rfl <| dA_nil <| mk_fx (mfs2 rfl hm) (by simp [erF, mff, hm, Dt.mf]) ⟨_, _, rfl, ⟨_, rfl⟩, rfl, low_ty hl, hm, .inr (.inr ⟨⟨2, rfl, by decide, by decide⟩, low_out hl, rfl⟩)⟩ ⟨by simp [erF, mff, hm, Dt.mf], rfl, rfl⟩
theorem lam3 (h : LawH P w K mg base CW C7) : LamD P w K mg base 6 (lamAt 3) [] [] (fun _ => False) fun C gs => C = C7 1 ∧ gs = erF ["what", "number"] [.str "size", .int 2] := by
  refine ⟨lamN_by (by show lamNB (lamAt 3).scope ([] : List Str) = true; decide +kernel), (by show ([] : List Str).Nodup; decide +kernel), injN (by simp), rfl, fun _ _ _ => rfl, fun f c' A outer s H E hr hg => ?_⟩
  exact dE_go h.ring hr hg <| dA_cons <| dE_int <| dA_nil <| mk_fx rfl rfl ⟨_, rfl, ⟨_, rfl⟩, rfl, .inr ⟨fun i e => by cases e; decide, rfl⟩⟩ ⟨rfl, rfl, rfl⟩
theorem lam4 (h : LawH P w K mg base CW C7) : LamD P w K mg base 6 (lamAt 4) [] [] (fun _ => False) fun C gs => C = C7 1 ∧ gs = erF ["what", "number"] [.str "size", .int 13] := by
  refine ⟨lamN_by (by show lamNB (lamAt 4).scope ([] : List Str) = true; decide +kernel), (by show ([] : List Str).Nodup; decide +kernel), injN (by simp), rfl, fun _ _ _ => rfl, fun f c' A outer s H E hr hg => ?_⟩
  exact dE_go h.ring hr hg <| dA_cons <| dE_int <| dA_nil <| mk_fx rfl rfl ⟨_, rfl, ⟨_, rfl⟩, rfl, .inr ⟨fun i e => by cases e; decide, rfl⟩⟩ ⟨rfl, rfl, rfl⟩
theorem lam5 (h : LawH P w K mg base CW C7) : LamD P w K mg base 6 (lamAt 5) [] [] (fun _ => False) fun C gs => C = C7 1 ∧ gs = erF ["what", "number"] [.str "spokes", .int 12] := by
  refine ⟨lamN_by (by show lamNB (lamAt 5).scope ([] : List Str) = true; decide +kernel), (by show ([] : List Str).Nodup; decide +kernel), injN (by simp), rfl, fun _ _ _ => rfl, fun f c' A outer s H E hr hg => ?_⟩
  exact dE_go h.wheel hr hg <| dA_cons <| dE_int <| dA_nil <| mk_fx rfl rfl ⟨_, rfl, ⟨_, rfl⟩, rfl, .inr ⟨fun i e => by cases e; decide, rfl⟩⟩ ⟨rfl, rfl, rfl⟩
theorem lam6 (h : LawH P w K mg base CW C7) : LamD P w K mg base 6 (lamAt 6) [] [] (fun _ => False) fun C gs => C = C7 1 ∧ gs = erF ["what", "number"] [.str "spokes", .int 2] := by
  refine ⟨lamN_by (by show lamNB (lamAt 6).scope ([] : List Str) = true; decide +kernel), (by show ([] : List Str).Nodup; decide +kernel), injN (by simp), rfl, fun _ _ _ => rfl, fun f c' A outer s H E hr hg => ?_⟩
  exact dE_go h.wheel hr hg <| dA_cons <| dE_int <| dA_nil <| mk_fx rfl rfl ⟨_, rfl, ⟨_, rfl⟩, rfl, .inr ⟨fun i e => by cases e; decide, rfl⟩⟩ ⟨rfl, rfl, rfl⟩
theorem lam7 (h : LawH P w K mg base CW C7) : LamD P w K mg base 6 (lamAt 7) [] [] (fun _ => False) fun C gs => C = C7 1 ∧ gs = erF ["what", "number"] [.str "sides", .int 7] := by
  refine ⟨lamN_by (by show lamNB (lamAt 7).scope ([] : List Str) = true; decide +kernel), (by show ([] : List Str).Nodup; decide +kernel), injN (by simp), rfl, fun _ _ _ => rfl, fun f c' A outer s H E hr hg => ?_⟩
  exact dE_go h.prism hr hg <| dA_cons <| dE_int <| dA_nil <| mk_fx rfl rfl ⟨_, rfl, ⟨_, rfl⟩, rfl, .inr ⟨fun i e => by cases e; decide, rfl⟩⟩ ⟨rfl, rfl, rfl⟩
theorem lam8 (h : LawH P w K mg base CW C7) : LamD P w K mg base 6 (lamAt 8) [] [] (fun _ => False) fun C gs => C = C7 1 ∧ gs = erF ["what", "number"] [.str "a", .int 0] := by
  refine ⟨lamN_by (by show lamNB (lamAt 8).scope ([] : List Str) = true; decide +kernel), (by show ([] : List Str).Nodup; decide +kernel), injN (by simp), rfl, fun _ _ _ => rfl, fun f c' A outer s H E hr hg => ?_⟩
  exact dE_go h.grid hr hg <| dA_cons <| dE_int <| dA_cons <| dE_non <| dA_nil <| mk_fx rfl rfl ⟨_, _, rfl, ⟨_, rfl⟩, rfl, ⟨_, rfl⟩, rfl, .inr (.inl ⟨fun i e => by cases e; decide, rfl⟩)⟩ ⟨rfl, rfl, rfl⟩
theorem lam9 (h : LawH P w K mg base CW C7) : LamD P w K mg base 6 (lamAt 9) [] [] (fun _ => False) fun C gs => C = C7 1 ∧ gs = erF ["what", "number"] [.str "b", .bl true] := by
  refine ⟨lamN_by (by show lamNB (lamAt 9).scope ([] : List Str) = true; decide +kernel), (by show ([] : List Str).Nodup; decide +kernel), injN (by simp), rfl, fun _ _ _ => rfl, fun f c' A outer s H E hr hg => ?_⟩
  exact dE_go h.grid hr hg <| dA_cons <| dE_int <| dA_cons <| dE_bl <| dA_nil <| mk_fx rfl rfl ⟨_, _, rfl, ⟨_, rfl⟩, rfl, ⟨_, rfl⟩, rfl, .inr (.inr (.inl ⟨⟨3, rfl, by decide⟩, fun i e => (by cases e), rfl⟩))⟩ ⟨rfl, rfl, rfl⟩
theorem lam10 (h : LawH P w K mg base CW C7) : LamD P w K mg base 6 (lamAt 10) [] [] (fun _ => False) fun C gs => C = C7 5 ∧ gs = erF ["what", "many", "limit"] [.str "size", .int 13, .int 12] := by
  refine ⟨lamN_by (by show lamNB (lamAt 10).scope ([] : List Str) = true; decide +kernel), (by show ([] : List Str).Nodup; decide +kernel), injN (by simp), rfl, fun _ _ _ => rfl, fun f c' A outer s H E hr hg => ?_⟩
  exact dE_go h.grid hr hg <| dA_cons <| dE_int <| dA_cons <| dE_int <| dA_nil <| mk_fx rfl rfl ⟨_, _, rfl, ⟨_, rfl⟩, rfl, ⟨_, rfl⟩, rfl, .inr (.inr (.inr ⟨13, 1, rfl, rfl, by decide, by decide, by decide, by decide, by decide, rfl⟩))⟩ ⟨rfl, rfl, rfl⟩
theorem get_end {M : Mu} {a : Mo} : (M ++ [a])[M.length]? = some a := by simp
theorem set_end {M : Mu} {a b : Mo} : (M ++ [a]).set M.length b = M ++ [b] := by simp
theorem seq_end {M : Mu} {xs : List Dt} : seqM (M ++ [.lst xs]) (.mut M.length) = some xs := by simp [seqM]
abbrev lawX (P : Program) (w : World) (K : PySem.W.Frag) (mg : Str → Option Value) (base : Heap) (f c : Addr) (A : Around) (outer : List Env) (s : Shared) (H : Hp) (E : XK) : Cx := cxOf (L2.CX P w) P w K mg base nmLaw "law" (defScope sLaw) f (.ref c) A outer s H E
variable {f c T : Addr} {A : Around} {outer : List Env} {s : Shared} {H : Hp} {E : XK} {J : JX} {D : DEnds}
theorem partE (h : LawH P w K mg base CW C7) (hr : Room 9 (lawX P w K mg base f c A outer s H E).A) (hg : (lawX P w K mg base f c A outer s H E).A.guards = some []) (TB : LamX.TabB base mg c T) {scr : Dt} {tL m : Mo} {r : Mu} {b : Nat} (htL : Mo.tab 0 T lamQ = tL) (y_n y_a y_b y_one y_two y_sides y_i y_j y_size y_spokes y_turns y_due y_eight y_far y_star y_lot y_rows y_columns y_net : Option Dt) (pm : Pen b m) (hB : b + 100 < 2 ^ 40)
    (q : ∀ μ', D.rt (.bl true) μ') :
    dSs (lawX P w K mg base f c A outer s H E) J ((defBody sLaw).drop 24) [some (scr), some (.mut 1), y_n, y_a, y_b, y_one, y_two, y_sides, y_i, y_j, y_size, y_spokes, y_turns, y_due, y_eight, y_far, y_star, y_lot, y_rows, y_columns, y_net, none, none] (tL :: m :: r) D := by
  have B := h.B
  have W := h.W
  have hu : (lawX P w K mg base f c A outer s H E).A.units + 64 < cLine := hr.units
  have hu9 : (lawX P w K mg base f c A outer s H E).A.units + 9 < cLine := by have := hr.un; omega
  have hcode : (lawX P w K mg base f c A outer s H E).env.code = .ref c := rfl
  refine dSs_cons <| dS_set 21 ndLaw rfl <| dE_go h.oddn (hr.mono (by decide)) hg <| dA_cons <| dE_var 1 rfl rfl <| dA_cons <| dE_int <| dA_cons <| dE_int <| dA_nil <| mk_call1 rfl pm.ng pm.mf rfl ⟨b, 1, 6, m, rfl, rfl, pm, by omega, fun low hlow m1 _ p1 => ?_⟩
  have hl : low ∈ lowL := hlow
  refine ⟨low_mf hl, m1, rfl, p1.ng, p1.mf, ?_⟩
  generalize hM : (tL :: m :: r : Mu).set 1 m1 = M
  have hM : tL :: m1 :: r = M := hM
  show dSs _ _ _ [some (scr), some (.mut 1), y_n, y_a, y_b, y_one, y_two, y_sides, y_i, y_j, y_size, y_spokes, y_turns, y_due, y_eight, y_far, y_star, y_lot, y_rows, y_columns, y_net, some (low), none] M _
  obtain ⟨cl, hcl⟩ : ∃ x, x = s.heap.objs.size + 1 + 1 + 1 + 1 + 1 + 1 + 1 := ⟨_, rfl⟩
  refine dSs_cons <| dS_set 22 ndLaw rfl <| dE_lstM <| dA_cons <| dE_tup <| dA_cons <| dE_lamG (n := 0) TB hcode (by rw [← hM, ← htL]; rfl) (noFree (by show ((lamAt 0).scope.names.all _) = true; decide +kernel)) <| dA_cons <| dE_tup <| dA_cons <| dE_str <| dA_cons <| dE_str <| dA_cons <| dE_int <| dA_nil ⟨by walk_at "lz", dA_nil ⟨by walk_at "lz", dA_nil ⟨by walk_at "lz", ?_⟩⟩⟩
  generalize e0 : Dt.tup [.clo _ _, _] = t0
  have e0 : t0 = .tup [.clo (lamAt 0) [], .tup [.str "number", .str "size", .int 10]] := e0.symm.trans (by rfl)
  show dSs _ _ _ [some (scr), some (.mut 1), y_n, y_a, y_b, y_one, y_two, y_sides, y_i, y_j, y_size, y_spokes, y_turns, y_due, y_eight, y_far, y_star, y_lot, y_rows, y_columns, y_net, some (low), some (.mut M.length)] (M ++ [.lst [t0]]) _
  refine dSs_cons <| dS_expr <| dE_lm PySem.F.slot_list_append PySem.F.type_list_append md_append <| dE_var 22 rfl rfl ⟨⟨⟨_, seq_end⟩, fun _ z => by cases z⟩, dA_cons <| dE_tup <| dA_cons <| dE_lam (n := 0) TB hcode (by rw [← hM, ← htL]; rfl) (LamX.lamS_by (by show LamX.lamSB (defScope sLaw) _ = true; decide +kernel)) <| dA_cons <| dE_tup <| dA_cons <| dE_str <| dA_cons <| dE_str <| dA_cons <| dE_var 21 rfl rfl <| dA_nil ⟨by walk_at "lz", dA_nil ⟨by walk_at "lz", dA_nil ⟨_, _, _, rfl, rfl, get_end, by walk_at "lz", ?_⟩⟩⟩⟩
  rw [set_end]
  generalize e1 : Dt.tup [.clo _ _, _] = t1
  have e1 : t1 = .tup [.clo (lamAt 1) [("low", cl)], .tup [.str "number", .str "a", low]] := e1.symm.trans (by rw [hcl]; rfl)
  show dSs _ _ _ [some (scr), some (.mut 1), y_n, y_a, y_b, y_one, y_two, y_sides, y_i, y_j, y_size, y_spokes, y_turns, y_due, y_eight, y_far, y_star, y_lot, y_rows, y_columns, y_net, some (low), some (.mut M.length)] (M ++ [.lst [t0, t1]]) _
  refine dSs_cons <| dS_expr <| dE_lm PySem.F.slot_list_append PySem.F.type_list_append md_append <| dE_var 22 rfl rfl ⟨⟨⟨_, seq_end⟩, fun _ z => by cases z⟩, dA_cons <| dE_tup <| dA_cons <| dE_lam (n := 0) TB hcode (by rw [← hM, ← htL]; rfl) (LamX.lamS_by (by show LamX.lamSB (defScope sLaw) _ = true; decide +kernel)) <| dA_cons <| dE_tup <| dA_cons <| dE_str <| dA_cons <| dE_str <| dA_cons <| dE_var 21 rfl rfl <| dA_nil ⟨by walk_at "lz", dA_nil ⟨by walk_at "lz", dA_nil ⟨_, _, _, rfl, rfl, get_end, by walk_at "lz", ?_⟩⟩⟩⟩
  rw [set_end]
  generalize e2 : Dt.tup [.clo _ _, _] = t2
  have e2 : t2 = .tup [.clo (lamAt 2) [("low", cl)], .tup [.str "number", .str "b", low]] := e2.symm.trans (by rw [hcl]; rfl)
  show dSs _ _ _ [some (scr), some (.mut 1), y_n, y_a, y_b, y_one, y_two, y_sides, y_i, y_j, y_size, y_spokes, y_turns, y_due, y_eight, y_far, y_star, y_lot, y_rows, y_columns, y_net, some (low), some (.mut M.length)] (M ++ [.lst [t0, t1, t2]]) _
  refine dSs_cons <| dS_expr <| dE_lm PySem.F.slot_list_append PySem.F.type_list_append md_append <| dE_var 22 rfl rfl ⟨⟨⟨_, seq_end⟩, fun _ z => by cases z⟩, dA_cons <| dE_tup <| dA_cons <| dE_lamG (n := 0) TB hcode (by rw [← hM, ← htL]; rfl) (noFree (by show ((lamAt 3).scope.names.all _) = true; decide +kernel)) <| dA_cons <| dE_tup <| dA_cons <| dE_str <| dA_cons <| dE_str <| dA_cons <| dE_int <| dA_nil ⟨by walk_at "lz", dA_nil ⟨by walk_at "lz", dA_nil ⟨_, _, _, rfl, rfl, get_end, by walk_at "lz", ?_⟩⟩⟩⟩
  rw [set_end]
  generalize e3 : Dt.tup [.clo _ _, _] = t3
  have e3 : t3 = .tup [.clo (lamAt 3) [], .tup [.str "number", .str "size", .int 2]] := e3.symm.trans (by rfl)
  show dSs _ _ _ [some (scr), some (.mut 1), y_n, y_a, y_b, y_one, y_two, y_sides, y_i, y_j, y_size, y_spokes, y_turns, y_due, y_eight, y_far, y_star, y_lot, y_rows, y_columns, y_net, some (low), some (.mut M.length)] (M ++ [.lst [t0, t1, t2, t3]]) _
  refine dSs_cons <| dS_expr <| dE_lm PySem.F.slot_list_append PySem.F.type_list_append md_append <| dE_var 22 rfl rfl ⟨⟨⟨_, seq_end⟩, fun _ z => by cases z⟩, dA_cons <| dE_tup <| dA_cons <| dE_lamG (n := 0) TB hcode (by rw [← hM, ← htL]; rfl) (noFree (by show ((lamAt 4).scope.names.all _) = true; decide +kernel)) <| dA_cons <| dE_tup <| dA_cons <| dE_str <| dA_cons <| dE_str <| dA_cons <| dE_int <| dA_nil ⟨by walk_at "lz", dA_nil ⟨by walk_at "lz", dA_nil ⟨_, _, _, rfl, rfl, get_end, by walk_at "lz", ?_⟩⟩⟩⟩
  rw [set_end]
  generalize e4 : Dt.tup [.clo _ _, _] = t4
  have e4 : t4 = .tup [.clo (lamAt 4) [], .tup [.str "number", .str "size", .int 13]] := e4.symm.trans (by rfl)
  show dSs _ _ _ [some (scr), some (.mut 1), y_n, y_a, y_b, y_one, y_two, y_sides, y_i, y_j, y_size, y_spokes, y_turns, y_due, y_eight, y_far, y_star, y_lot, y_rows, y_columns, y_net, some (low), some (.mut M.length)] (M ++ [.lst [t0, t1, t2, t3, t4]]) _
  refine dSs_cons <| dS_expr <| dE_lm PySem.F.slot_list_append PySem.F.type_list_append md_append <| dE_var 22 rfl rfl ⟨⟨⟨_, seq_end⟩, fun _ z => by cases z⟩, dA_cons <| dE_tup <| dA_cons <| dE_lamG (n := 0) TB hcode (by rw [← hM, ← htL]; rfl) (noFree (by show ((lamAt 5).scope.names.all _) = true; decide +kernel)) <| dA_cons <| dE_tup <| dA_cons <| dE_str <| dA_cons <| dE_str <| dA_cons <| dE_int <| dA_nil ⟨by walk_at "lz", dA_nil ⟨by walk_at "lz", dA_nil ⟨_, _, _, rfl, rfl, get_end, by walk_at "lz", ?_⟩⟩⟩⟩
  rw [set_end]
  generalize e5 : Dt.tup [.clo _ _, _] = t5
  have e5 : t5 = .tup [.clo (lamAt 5) [], .tup [.str "number", .str "spokes", .int 12]] := e5.symm.trans (by rfl)
  show dSs _ _ _ [some (scr), some (.mut 1), y_n, y_a, y_b, y_one, y_two, y_sides, y_i, y_j, y_size, y_spokes, y_turns, y_due, y_eight, y_far, y_star, y_lot, y_rows, y_columns, y_net, some (low), some (.mut M.length)] (M ++ [.lst [t0, t1, t2, t3, t4, t5]]) _
  refine dSs_cons <| dS_expr <| dE_lm PySem.F.slot_list_append PySem.F.type_list_append md_append <| dE_var 22 rfl rfl ⟨⟨⟨_, seq_end⟩, fun _ z => by cases z⟩, dA_cons <| dE_tup <| dA_cons <| dE_lamG (n := 0) TB hcode (by rw [← hM, ← htL]; rfl) (noFree (by show ((lamAt 6).scope.names.all _) = true; decide +kernel)) <| dA_cons <| dE_tup <| dA_cons <| dE_str <| dA_cons <| dE_str <| dA_cons <| dE_int <| dA_nil ⟨by walk_at "lz", dA_nil ⟨by walk_at "lz", dA_nil ⟨_, _, _, rfl, rfl, get_end, by walk_at "lz", ?_⟩⟩⟩⟩
  rw [set_end]
  generalize e6 : Dt.tup [.clo _ _, _] = t6
  have e6 : t6 = .tup [.clo (lamAt 6) [], .tup [.str "number", .str "spokes", .int 2]] := e6.symm.trans (by rfl)
  show dSs _ _ _ [some (scr), some (.mut 1), y_n, y_a, y_b, y_one, y_two, y_sides, y_i, y_j, y_size, y_spokes, y_turns, y_due, y_eight, y_far, y_star, y_lot, y_rows, y_columns, y_net, some (low), some (.mut M.length)] (M ++ [.lst [t0, t1, t2, t3, t4, t5, t6]]) _
  refine dSs_cons <| dS_expr <| dE_lm PySem.F.slot_list_append PySem.F.type_list_append md_append <| dE_var 22 rfl rfl ⟨⟨⟨_, seq_end⟩, fun _ z => by cases z⟩, dA_cons <| dE_tup <| dA_cons <| dE_lamG (n := 0) TB hcode (by rw [← hM, ← htL]; rfl) (noFree (by show ((lamAt 7).scope.names.all _) = true; decide +kernel)) <| dA_cons <| dE_tup <| dA_cons <| dE_str <| dA_cons <| dE_str <| dA_cons <| dE_int <| dA_nil ⟨by walk_at "lz", dA_nil ⟨by walk_at "lz", dA_nil ⟨_, _, _, rfl, rfl, get_end, by walk_at "lz", ?_⟩⟩⟩⟩
  rw [set_end]
  generalize e7 : Dt.tup [.clo _ _, _] = t7
  have e7 : t7 = .tup [.clo (lamAt 7) [], .tup [.str "number", .str "sides", .int 7]] := e7.symm.trans (by rfl)
  show dSs _ _ _ [some (scr), some (.mut 1), y_n, y_a, y_b, y_one, y_two, y_sides, y_i, y_j, y_size, y_spokes, y_turns, y_due, y_eight, y_far, y_star, y_lot, y_rows, y_columns, y_net, some (low), some (.mut M.length)] (M ++ [.lst [t0, t1, t2, t3, t4, t5, t6, t7]]) _
  refine dSs_cons <| dS_expr <| dE_lm PySem.F.slot_list_append PySem.F.type_list_append md_append <| dE_var 22 rfl rfl ⟨⟨⟨_, seq_end⟩, fun _ z => by cases z⟩, dA_cons <| dE_tup <| dA_cons <| dE_lamG (n := 0) TB hcode (by rw [← hM, ← htL]; rfl) (noFree (by show ((lamAt 8).scope.names.all _) = true; decide +kernel)) <| dA_cons <| dE_tup <| dA_cons <| dE_str <| dA_cons <| dE_str <| dA_cons <| dE_int <| dA_nil ⟨by walk_at "lz", dA_nil ⟨by walk_at "lz", dA_nil ⟨_, _, _, rfl, rfl, get_end, by walk_at "lz", ?_⟩⟩⟩⟩
  rw [set_end]
  generalize e8 : Dt.tup [.clo _ _, _] = t8
  have e8 : t8 = .tup [.clo (lamAt 8) [], .tup [.str "number", .str "a", .int 0]] := e8.symm.trans (by rfl)
  show dSs _ _ _ [some (scr), some (.mut 1), y_n, y_a, y_b, y_one, y_two, y_sides, y_i, y_j, y_size, y_spokes, y_turns, y_due, y_eight, y_far, y_star, y_lot, y_rows, y_columns, y_net, some (low), some (.mut M.length)] (M ++ [.lst [t0, t1, t2, t3, t4, t5, t6, t7, t8]]) _
  refine dSs_cons <| dS_expr <| dE_lm PySem.F.slot_list_append PySem.F.type_list_append md_append <| dE_var 22 rfl rfl ⟨⟨⟨_, seq_end⟩, fun _ z => by cases z⟩, dA_cons <| dE_tup <| dA_cons <| dE_lamG (n := 0) TB hcode (by rw [← hM, ← htL]; rfl) (noFree (by show ((lamAt 9).scope.names.all _) = true; decide +kernel)) <| dA_cons <| dE_tup <| dA_cons <| dE_str <| dA_cons <| dE_str <| dA_cons <| dE_bl <| dA_nil ⟨by walk_at "lz", dA_nil ⟨by walk_at "lz", dA_nil ⟨_, _, _, rfl, rfl, get_end, by walk_at "lz", ?_⟩⟩⟩⟩
  rw [set_end]
  generalize e9 : Dt.tup [.clo _ _, _] = t9
  have e9 : t9 = .tup [.clo (lamAt 9) [], .tup [.str "number", .str "b", .bl true]] := e9.symm.trans (by rfl)
  show dSs _ _ _ [some (scr), some (.mut 1), y_n, y_a, y_b, y_one, y_two, y_sides, y_i, y_j, y_size, y_spokes, y_turns, y_due, y_eight, y_far, y_star, y_lot, y_rows, y_columns, y_net, some (low), some (.mut M.length)] (M ++ [.lst [t0, t1, t2, t3, t4, t5, t6, t7, t8, t9]]) _
  refine dSs_cons <| dS_expr <| dE_lm PySem.F.slot_list_append PySem.F.type_list_append md_append <| dE_var 22 rfl rfl ⟨⟨⟨_, seq_end⟩, fun _ z => by cases z⟩, dA_cons <| dE_tup <| dA_cons <| dE_lamG (n := 0) TB hcode (by rw [← hM, ← htL]; rfl) (noFree (by show ((lamAt 10).scope.names.all _) = true; decide +kernel)) <| dA_cons <| dE_tup <| dA_cons <| dE_str <| dA_cons <| dE_str <| dA_cons <| dE_int <| dA_cons <| dE_int <| dA_nil ⟨by walk_at "lz", dA_nil ⟨by walk_at "lz", dA_nil ⟨_, _, _, rfl, rfl, get_end, by walk_at "lz", ?_⟩⟩⟩⟩
  rw [set_end]
  generalize e10 : Dt.tup [.clo _ _, _] = t10
  have e10 : t10 = .tup [.clo (lamAt 10) [], .tup [.str "many", .str "size", .int 13, .int 12]] := e10.symm.trans (by rfl)
  show dSs _ _ _ [some (scr), some (.mut 1), y_n, y_a, y_b, y_one, y_two, y_sides, y_i, y_j, y_size, y_spokes, y_turns, y_due, y_eight, y_far, y_star, y_lot, y_rows, y_columns, y_net, some (low), some (.mut M.length)] (M ++ [.lst [t0, t1, t2, t3, t4, t5, t6, t7, t8, t9, t10]]) _
  refine dS_freeze 22 M.length [t0, t1, t2, t3, t4, t5, t6, t7, t8, t9, t10] rfl get_end ?_
  rw [set_end]
  show dSs _ _ _ [some (scr), some (.mut 1), y_n, y_a, y_b, y_one, y_two, y_sides, y_i, y_j, y_size, y_spokes, y_turns, y_due, y_eight, y_far, y_star, y_lot, y_rows, y_columns, y_net, some (low), some (.lst [t0, t1, t2, t3, t4, t5, t6, t7, t8, t9, t10])] (M ++ [.gone]) _
  have hm := low_mf hl
  refine dSs_cons <| dS_ret <| dE_cells (cl := [(cl, low)]) h.due hr hg ?_ ?_ <| dA_cons <| dE_var 22 rfl rfl <| dA_nil ⟨by rw [e0, e1, e2, e3, e4, e5, e6, e7, e8, e9, e10]; simp [mfs, Dt.mf, hm], fun g => ⟨[t0, t1, t2, t3, t4, t5, t6, t7, t8, t9, t10], rfl, by simp, ?_, rfl, fun j hj => rfl, q _⟩⟩
  · intro t ht
    simp only [List.mem_cons, List.not_mem_nil, or_false] at ht
    subst ht
    exact ⟨hm, 21, "low", rfl, rfl, rfl, by rw [hcl]; rfl, rfl⟩
  · show ([cl] : List Addr).Nodup
    simp
  · intro t ht
    simp only [List.mem_cons, List.not_mem_nil, or_false] at ht
    rcases ht with h0 | h0 | h0 | h0 | h0 | h0 | h0 | h0 | h0 | h0 | h0
    · rw [h0, e0]
      exact ⟨_, _, _, _, _, _, rfl, lam0 h, cellsD_nil, fun _ z => z.elim, fun C gs _ ⟨z1, z2⟩ => ⟨1, z1, [.str "size", .int 10], rfl, .cons (by rw [z2]; rfl) (.cons (by rw [z2]; rfl) .nil)⟩, rep_of (by decide +kernel)⟩
    · rw [h0, e1]
      exact ⟨_, _, _, _, _, _, rfl, lam1 hl h, cellsD_cons (n := 0) rfl cellsD_nil, fun _ z => z.elim, fun C gs _ ⟨z1, z2⟩ => ⟨1, z1, [.str "a", low], rfl, .cons (by rw [z2]; rfl) (.cons (by rw [z2]; rfl) .nil)⟩, low_rep hl (.inl rfl)⟩
    · rw [h0, e2]
      exact ⟨_, _, _, _, _, _, rfl, lam2 hl h, cellsD_cons (n := 0) rfl cellsD_nil, fun _ z => z.elim, fun C gs _ ⟨z1, z2⟩ => ⟨1, z1, [.str "b", low], rfl, .cons (by rw [z2]; rfl) (.cons (by rw [z2]; rfl) .nil)⟩, low_rep hl (.inr rfl)⟩
    · rw [h0, e3]
      exact ⟨_, _, _, _, _, _, rfl, lam3 h, cellsD_nil, fun _ z => z.elim, fun C gs _ ⟨z1, z2⟩ => ⟨1, z1, [.str "size", .int 2], rfl, .cons (by rw [z2]; rfl) (.cons (by rw [z2]; rfl) .nil)⟩, rep_of (by decide +kernel)⟩
    · rw [h0, e4]
      exact ⟨_, _, _, _, _, _, rfl, lam4 h, cellsD_nil, fun _ z => z.elim, fun C gs _ ⟨z1, z2⟩ => ⟨1, z1, [.str "size", .int 13], rfl, .cons (by rw [z2]; rfl) (.cons (by rw [z2]; rfl) .nil)⟩, rep_of (by decide +kernel)⟩
    · rw [h0, e5]
      exact ⟨_, _, _, _, _, _, rfl, lam5 h, cellsD_nil, fun _ z => z.elim, fun C gs _ ⟨z1, z2⟩ => ⟨1, z1, [.str "spokes", .int 12], rfl, .cons (by rw [z2]; rfl) (.cons (by rw [z2]; rfl) .nil)⟩, rep_of (by decide +kernel)⟩
    · rw [h0, e6]
      exact ⟨_, _, _, _, _, _, rfl, lam6 h, cellsD_nil, fun _ z => z.elim, fun C gs _ ⟨z1, z2⟩ => ⟨1, z1, [.str "spokes", .int 2], rfl, .cons (by rw [z2]; rfl) (.cons (by rw [z2]; rfl) .nil)⟩, rep_of (by decide +kernel)⟩
    · rw [h0, e7]
      exact ⟨_, _, _, _, _, _, rfl, lam7 h, cellsD_nil, fun _ z => z.elim, fun C gs _ ⟨z1, z2⟩ => ⟨1, z1, [.str "sides", .int 7], rfl, .cons (by rw [z2]; rfl) (.cons (by rw [z2]; rfl) .nil)⟩, rep_of (by decide +kernel)⟩
    · rw [h0, e8]
      exact ⟨_, _, _, _, _, _, rfl, lam8 h, cellsD_nil, fun _ z => z.elim, fun C gs _ ⟨z1, z2⟩ => ⟨1, z1, [.str "a", .int 0], rfl, .cons (by rw [z2]; rfl) (.cons (by rw [z2]; rfl) .nil)⟩, rep_of (by decide +kernel)⟩
    · rw [h0, e9]
      exact ⟨_, _, _, _, _, _, rfl, lam9 h, cellsD_nil, fun _ z => z.elim, fun C gs _ ⟨z1, z2⟩ => ⟨1, z1, [.str "b", .bl true], rfl, .cons (by rw [z2]; rfl) (.cons (by rw [z2]; rfl) .nil)⟩, rep_of (by decide +kernel)⟩
    · rw [h0, e10]
      exact ⟨_, _, _, _, _, _, rfl, lam10 h, cellsD_nil, fun _ z => z.elim, fun C gs _ ⟨z1, z2⟩ => ⟨5, z1, [.str "size", .int 13, .int 12], rfl, .cons (by rw [z2]; rfl) (.cons (by rw [z2]; rfl) (.cons (by rw [z2]; rfl) .nil))⟩, rep_of (by decide +kernel)⟩
end
end Law

/-! W68: the law's grids. -/
namespace Law
open PySem PySem.Spec PyProof.Rows L2 DL
local macro_rules | `(tactic| walk_at "sd") => `(tactic| first | assumption | decide | exact Or.inr (by decide) | exact Or.inl (by decide) | exact ⟨by decide, by decide⟩ | exact ⟨by decide, by decide, by decide⟩ | omega | exact ⟨by omega, by omega⟩)
local macro_rules | `(tactic| walk_at "lz") => `(tactic| first | exact pen_len | (rw [sizeLine_eq]; simp; done) | (rw [sizeLine_eq]; simp; omega))
section
variable {P : Program} {w : World} {K : PySem.W.Frag} {mg : Str → Option Value} {base : Heap}
local macro_rules | `(tactic| walk_at "lz") => `(tactic| first | exact pen_len | (rw [sizeLine_eq]; simp; done) | (rw [sizeLine_eq]; simp; omega) | (rw [sizeLine_eq]; omega))
variable {CW : Addr} {C7 : Fin 7 → Addr}
variable {f c T : Addr} {A : Around} {outer : List Env} {s : Shared} {H : Hp} {E : XK} {J : JX} {D : DEnds}
theorem twelve {a : Int} (h1 : 1 ≤ a) (h2 : a ≤ 4) : 3 ≤ 12 / a ∧ 12 / a ≤ 12 := by
  rcases (by omega : a = 1 ∨ a = 2 ∨ a = 3 ∨ a = 4) with rfl | rfl | rfl | rfl <;> decide
theorem partD (h : LawH P w K mg base CW C7) (hr : Room 9 (lawX P w K mg base f c A outer s H E).A) (hg : (lawX P w K mg base f c A outer s H E).A.guards = some []) (TB : LamX.TabB base mg c T) {scr : Dt} {tL m : Mo} {r : Mu} {b : Nat} (htL : Mo.tab 0 T lamQ = tL) (y_n y_a y_b y_one y_two y_sides y_i y_j y_size y_spokes y_turns y_due y_eight y_far y_star y_lot : Option Dt) (pm : Pen b m) (hB : b + 200 < 2 ^ 40)
    (q : ∀ μ', D.rt (.bl true) μ') :
    dSs (lawX P w K mg base f c A outer s H E) J ((defBody sLaw).drop 17) [some (scr), some (.mut 1), y_n, y_a, y_b, y_one, y_two, y_sides, y_i, y_j, y_size, y_spokes, y_turns, y_due, y_eight, y_far, y_star, y_lot, none, none, none, none, none] (tL :: m :: r) D := by
  have B := h.B
  have W := h.W
  have hu : (lawX P w K mg base f c A outer s H E).A.units + 64 < cLine := hr.units
  have hu9 : (lawX P w K mg base f c A outer s H E).A.units + 9 < cLine := by have := hr.un; omega
  refine dSs_cons <| dS_set 18 ndLaw rfl <| dE_bin od_add <| dE_int <| dE_go h.draw (hr.mono (by decide)) hg <| dA_cons <| dE_var 1 rfl rfl <| dA_cons <| dE_int <| dA_nil <| mk_call1 rfl pm.ng pm.mf rfl ⟨b, 4, m, rfl, rfl, pm, by omega, by decide, by decide, fun u m1 u1 u2 p1 => ⟨rfl, m1, rfl, p1.ng, p1.mf, mk_I0 ?_⟩⟩
  generalize hA : 1 + u = a
  have a1 : 1 ≤ a := by omega
  have a4 : a ≤ 4 := by omega
  clear hA u1 u2
  have ha := twelve a1 a4
  show dSs _ _ _ [some (scr), some (.mut 1), y_n, y_a, y_b, y_one, y_two, y_sides, y_i, y_j, y_size, y_spokes, y_turns, y_due, y_eight, y_far, y_star, y_lot, some (.int a), none, none, none, none] (tL :: m1 :: r) _
  refine dSs_cons <| dS_set 19 ndLaw rfl <| dE_bin od_add <| dE_int <| dE_go h.draw (hr.mono (by decide)) hg <| dA_cons <| dE_var 1 rfl rfl <| dA_cons <| dE_bin od_fdiv <| dE_int <| dE_var 18 rfl rfl <| mk_I (C := CDiv) ⟨by omega, by omega⟩ <| dA_nil <| mk_call1 rfl p1.ng p1.mf rfl ⟨b + 1, 12 / a, m1, rfl, rfl, p1, by omega, by omega, by omega, fun v m2 v1 v2 p2 => ⟨rfl, m2, rfl, p2.ng, p2.mf, mk_I0 ?_⟩⟩
  generalize hB2 : 1 + v = bb
  have b1 : 1 ≤ bb := by omega
  obtain ⟨b3, b2⟩ := area a1 a4 (show bb ≤ 12 / a by omega)
  clear hB2 v1 v2
  obtain ⟨f1, f2, f3, f4⟩ := grid_fact a1 a4 b1 b3 b2
  have gk := okT_srt (gd_ok a1 b1 b3 (by omega) b2)
  have ab1 : 1 ≤ a * bb := Int.mul_pos (by omega) (by omega)
  show dSs _ _ _ [some (scr), some (.mut 1), y_n, y_a, y_b, y_one, y_two, y_sides, y_i, y_j, y_size, y_spokes, y_turns, y_due, y_eight, y_far, y_star, y_lot, some (.int a), some (.int bb), none, none, none] (tL :: m2 :: r) _
  refine dSs_cons <| dS_set 20 ndLaw rfl <| dE_go h.grid (hr.mono (by decide)) hg <| dA_cons <| dE_var 18 rfl rfl <| dA_cons <| dE_var 19 rfl rfl <| dA_nil <| mk_fr rfl (web_mf ..) ⟨_, _, rfl, ⟨_, rfl⟩, rfl, ⟨_, rfl⟩, rfl, .inl ⟨a, bb, rfl, rfl, a1, by omega, b1, b2, b3, rfl⟩⟩ ?_
  show dSs _ _ _ [some (scr), some (.mut 1), y_n, y_a, y_b, y_one, y_two, y_sides, y_i, y_j, y_size, y_spokes, y_turns, y_due, y_eight, y_far, y_star, y_lot, some (.int a), some (.int bb), some (webD CW (a * bb) (srtP (gdT a bb))), none, none] (tL :: m2 :: r) _
  refine dSs_cons <| dS_set 13 ndLaw rfl <| dE_lst <| dA_nil ⟨by walk_at "lz", ?_⟩
  show dSs _ _ _ [some (scr), some (.mut 1), y_n, y_a, y_b, y_one, y_two, y_sides, y_i, y_j, y_size, y_spokes, y_turns, some (.lst ((dueG a bb 0).map prDt)), y_eight, y_far, y_star, y_lot, some (.int a), some (.int bb), some (webD CW (a * bb) (srtP (gdT a bb))), none, none] (tL :: m2 :: r) _
  have cm : ∀ i : Int, CMul i bb := fun i => .inr ⟨by omega, by omega⟩
  refine dSs_cons <| dS_for (passes_of rfl) rfl <| dI_range1 B.range <| dA_cons <| dE_var 18 rfl rfl <| dA_nil ⟨_, rfl, by omega, by omega, fun i ρ' μ' => i ≤ a.toNat ∧ μ' = tL :: m2 :: r ∧ ∃ x, ρ' = [some (scr), some (.mut 1), y_n, y_a, y_b, y_one, y_two, y_sides, x, y_j, y_size, y_spokes, y_turns, some (.lst ((dueG a bb i).map prDt)), y_eight, y_far, y_star, y_lot, some (.int a), some (.int bb), some (webD CW (a * bb) (srtP (gdT a bb))), none, none], ⟨by omega, rfl, _, rfl⟩, fun _ _ _ _ => trivial, ?_, ?_⟩
  · rintro i z ρ' μ' hx ⟨hi, rfl, x, rfl⟩
    obtain ⟨hi2, rfl⟩ := rng_get hx
    have hf := dueG_len (a := a) (b := bb) (k := i) b2
    refine dG_name 8 ndLaw rfl ?_
    refine dSs_cons <| dS_set 13 ndLaw rfl <| dE_bin od_catL <| dE_var 13 rfl rfl <| dE_lcG [("j", 9)] (fun j : Nat => .int (0 + (j : Int))) (fun j : Nat => prDt ((0 + (i : Int)) * bb + (0 + (j : Int)), (0 + (i : Int)) * bb + (0 + (j : Int)) + 1)) rfl ndLaw (blkOk_by (by show blkC (nmLaw : List Str) (defScope sLaw) _ _ = true; decide +kernel)) <|
      dI_range1 B.range <| dA_cons <| dE_bin od_sub <| dE_var 19 rfl rfl <| dE_int <| mk_I0 <| dA_nil ⟨_, rfl, by omega, by omega, trivial, List.range (bb - 1).toNat, rfl, by walk_at "lz", fun k hk s1 H1 C1 cl1 fp1 => dGv_name 9 ndLaw rfl ⟨rfl, fun s2 H2 C2 cl2 fp2 => dE_tup <| dA_cons <| dE_bin od_add <| dE_bin od_mul <| dE_var 8 rfl rfl <| dE_var 19 rfl rfl <| mk_I (C := CMul) (cm _) <| dE_var 9 rfl rfl <| mk_I0 <| dA_cons <| dE_bin od_add <| dE_bin od_add <| dE_bin od_mul <| dE_var 8 rfl rfl <| dE_var 19 rfl rfl <| mk_I (C := CMul) (cm _) <| dE_var 9 rfl rfl <| mk_I0 <| dE_int <| mk_I0 <| dA_nil ⟨by walk_at "lz", rfl, rfl⟩⟩, _, _, rfl, rfl, by rw [sizeLine_eq, List.length_map, List.length_map, List.length_range]; omega, ?_⟩
    rw [tiesOf_map (bb - 1) (fun (j : Nat) => ((0 + (i : Int)) * bb + (0 + (j : Int)), (0 + (i : Int)) * bb + (0 + (j : Int)) + 1)), ← List.map_append]
    have hl2 := tiesOf_len (bb - 1) (fun (j : Nat) => ((0 + (i : Int)) * bb + (0 + (j : Int)), (0 + (i : Int)) * bb + (0 + (j : Int)) + 1))
    have hs : dueG a bb i ++ tiesOf (bb - 1) (fun (j : Nat) => ((0 + (i : Int)) * bb + (0 + (j : Int)), (0 + (i : Int)) * bb + (0 + (j : Int)) + 1)) ++ ((List.range bb.toNat).filter fun _ => decide (0 + (i : Int) + 1 < a)).map (fun (j : Nat) => ((0 + (i : Int)) * bb + (0 + (j : Int)), (0 + (i : Int)) * bb + (0 + (j : Int)) + bb)) = dueG a bb (i + 1) := by
      rw [dueG, dueG, List.range_succ, List.flatMap_append, List.flatMap_cons, List.flatMap_nil, List.append_nil, List.append_assoc]
    generalize hU : dueG a bb i ++ tiesOf (bb - 1) (fun (j : Nat) => ((0 + (i : Int)) * bb + (0 + (j : Int)), (0 + (i : Int)) * bb + (0 + (j : Int)) + 1)) = U at hs
    have hUl : U.length ≤ i * 24 + 12 := by rw [← hU, List.length_append]; omega
    show dSs _ _ _ [some (scr), some (.mut 1), y_n, y_a, y_b, y_one, y_two, y_sides, some (.int (0 + (i : Int))), y_j, y_size, y_spokes, y_turns, some (.lst (U.map prDt)), y_eight, y_far, y_star, y_lot, some (.int a), some (.int bb), some (webD CW (a * bb) (srtP (gdT a bb))), none, none] (tL :: m2 :: r) _
    refine dSs_cons <| dS_set 13 ndLaw rfl <| dE_bin od_catL <| dE_var 13 rfl rfl <| dE_lcF [("j", 9)] (fun j : Nat => .int (0 + (j : Int))) (fun _ => decide (0 + (i : Int) + 1 < a)) (fun j : Nat => prDt ((0 + (i : Int)) * bb + (0 + (j : Int)), (0 + (i : Int)) * bb + (0 + (j : Int)) + bb)) rfl ndLaw (blkOk_by (by show blkC (nmLaw : List Str) (defScope sLaw) _ _ = true; decide +kernel)) <|
      dI_range1 B.range <| dA_cons <| dE_var 19 rfl rfl <| dA_nil ⟨_, rfl, by omega, by omega, trivial, List.range bb.toNat, rfl, by walk_at "lz", fun k hk s1 H1 C1 cl1 fp1 => dGv_name 9 ndLaw rfl ⟨rfl, fun s2 H2 C2 cl2 fp2 => dTs_one <| dT_cmp od_lt <| dE_bin od_add <| dE_var 8 rfl rfl <| dE_int <| mk_I0 <| dE_var 18 rfl rfl <| mk_I0 <| mk_B ⟨rfl, rfl, fun _ s3 H3 C3 cl3 fp3 => dE_tup <| dA_cons <| dE_bin od_add <| dE_bin od_mul <| dE_var 8 rfl rfl <| dE_var 19 rfl rfl <| mk_I (C := CMul) (cm _) <| dE_var 9 rfl rfl <| mk_I0 <| dA_cons <| dE_bin od_add <| dE_bin od_add <| dE_bin od_mul <| dE_var 8 rfl rfl <| dE_var 19 rfl rfl <| mk_I (C := CMul) (cm _) <| dE_var 9 rfl rfl <| mk_I0 <| dE_var 19 rfl rfl <| mk_I0 <| dA_nil ⟨by walk_at "lz", rfl, rfl⟩⟩⟩, _, _, rfl, rfl, ?_, ?_⟩
    · have := List.length_filter_le (fun _ : Nat => decide (0 + (i : Int) + 1 < a)) (List.range bb.toNat)
      rw [List.length_range] at this
      rw [sizeLine_eq, List.length_map, List.length_map]
      omega
    · have e1 : U.map prDt ++ ((List.range bb.toNat).filter fun _ => decide (0 + (i : Int) + 1 < a)).map (fun j : Nat => prDt ((0 + (i : Int)) * bb + (0 + (j : Int)), (0 + (i : Int)) * bb + (0 + (j : Int)) + bb)) = (dueG a bb (i + 1)).map prDt := by
        rw [← hs, List.map_append, List.map_map]
        rfl
      rw [e1]
      exact dSs_nil ⟨by omega, rfl, _, rfl⟩
  rintro ρ' μ' ⟨_, rfl, x, rfl⟩
  rw [rng_length]
  obtain ⟨pr, hpy, hs, hz, hd⟩ := f2
  have hpy2 := hpy
  rw [← f1] at hpy2
  have W1 : a * bb ≤ 12 := b3
  refine dSs_cons <| dS_if <| dT_bool <| dW_or <| dT_cmp od_neF <| dE_callB (hv := Boot.«repr») (cd_repr hg (n := 9) hu9) B.repr <| dA_cons <| dE_tup <| dA_cons <| dE_fld W.own.cl (W.free _ (by simp)) <| dE_var 20 rfl rfl ⟨_, .int (a * bb), rfl, rfl, dA_cons <| dE_fld W.own.cl (W.free _ (by simp)) <| dE_var 20 rfl rfl ⟨_, tiesD (srtP (gdT a bb)), rfl, rfl, dA_nil ⟨by walk_at "lz", ?_⟩⟩⟩
  refine dA_nil ⟨_, pr, rfl, hpy, hs, hz, hd, dE_callB (hv := Boot.«repr») (cd_repr hg (n := 9) hu9) B.repr <| dA_cons <| dE_tup <| dA_cons <| dE_bin od_mul <| dE_var 18 rfl rfl <| dE_var 19 rfl rfl <| mk_I (C := CMul) (cm _) <| dA_cons <| dE_callTy (hv := Boot.«tuple») cd_tuple B.tuple <| dA_cons <| dE_callB (hv := Boot.«sorted») cd_sortedP B.sorted <| dA_cons <| dE_var 13 rfl rfl <| dA_nil ⟨_, dueG a bb a.toNat, rfl, rfl, (fun _ z => by cases z), dA_nil ⟨_, _, rfl, rfl, dA_nil ⟨by walk_at "lz", dA_nil ⟨_, pr, rfl, hpy2, hs, hz, hd, _, rfl, mk_B <| iteN (by simp) ?_⟩⟩⟩⟩⟩
  have f3n : 0 ≤ (a - 1) * (bb - 1) ∧ (a - 1) * (bb - 1) ≤ 40 := by
    have := (okT_iff.mp gk).1
    have := frI_len (a * bb) (srtP (gdT a bb))
    omega
  refine dW_or1 <| dT_cmp od_neF <| dE_go h.even (hr.mono (by decide)) hg <| dA_cons <| dE_var 20 rfl rfl <| dA_nil <| mk_fn (mfs1 (web_mf ..)) rfl ⟨_, _, rfl, ab1, b3, gk, rfl⟩ <| dE_bin od_shl <| dE_int <| dE_bin od_mul <| dE_bin od_sub <| dE_var 18 rfl rfl <| dE_int <| mk_I0 <| dE_bin od_sub <| dE_var 19 rfl rfl <| dE_int <| mk_I0 <| mk_I (C := CMul) (.inr ⟨by omega, by omega⟩) <| mk_I (C := CPow) ⟨by omega, by omega, by decide⟩ ⟨_, rfl, mk_B <| iteN (by rw [f3]; simp) <| dSs_nil ?_⟩
  refine dSs_cons <| dS_if <| dT_cmp od_neF <| dE_go h.cuts (hr.mono (by decide)) hg <| dA_cons <| dE_var 20 rfl rfl <| dA_nil <| mk_fn (mfs1 (web_mf ..)) rfl ⟨_, _, rfl, ab1, b3, gk, rfl⟩ <| dE_bin od_shl <| dE_int <| dE_bin od_sub <| dE_bin od_mul <| dE_var 18 rfl rfl <| dE_var 19 rfl rfl <| mk_I (C := CMul) (cm _) <| dE_int <| mk_I0 <| mk_I (C := CPow) ⟨by omega, by omega, by decide⟩ ⟨_, rfl, mk_B <| iteN (by rw [f4]; simp) <| dSs_nil ?_⟩
  exact partE h hr hg TB htL y_n y_a y_b y_one y_two y_sides (x) y_j y_size y_spokes y_turns (some (.lst ((dueG a bb a.toNat).map prDt))) y_eight y_far y_star y_lot (some (.int a)) (some (.int bb)) (some (webD CW (a * bb) (srtP (gdT a bb)))) p2 (by omega) q
end
end Law

/-! W69: the law's prism, its eight and its far web. -/
namespace Law
open PySem PySem.Spec PyProof.Rows L2 DL
local macro_rules | `(tactic| walk_at "sd") => `(tactic| first | assumption | decide | exact Or.inr (by decide) | exact Or.inl (by decide) | exact ⟨by decide, by decide⟩ | exact ⟨by decide, by decide, by decide⟩ | omega | exact ⟨by omega, by omega⟩)
local macro_rules | `(tactic| walk_at "lz") => `(tactic| first | exact pen_len | (rw [sizeLine_eq]; simp; done) | (rw [sizeLine_eq]; simp; omega))
section
variable {P : Program} {w : World} {K : PySem.W.Frag} {mg : Str → Option Value} {base : Heap}
local macro_rules | `(tactic| walk_at "lz") => `(tactic| first | exact pen_len | (rw [sizeLine_eq]; simp; done) | (rw [sizeLine_eq]; simp; omega) | (rw [sizeLine_eq]; omega))
theorem iteN2 {k : Bool} {A B : Prop} (h : k = false) (b : B) : if k = true then A else B := by
  subst h
  exact b
variable {CW : Addr} {C7 : Fin 7 → Addr}
variable {f c T : Addr} {A : Around} {outer : List Env} {s : Shared} {H : Hp} {E : XK} {J : JX} {D : DEnds}
theorem partC (h : LawH P w K mg base CW C7) (hr : Room 9 (lawX P w K mg base f c A outer s H E).A) (hg : (lawX P w K mg base f c A outer s H E).A.guards = some []) (TB : LamX.TabB base mg c T) {scr : Dt} {tL m : Mo} {r : Mu} {b : Nat} (htL : Mo.tab 0 T lamQ = tL) {n : Int} (n1 : 3 ≤ n) (n2 : n ≤ 6) (y_n y_a y_b y_one y_two y_sides y_i y_j y_size y_spokes y_due : Option Dt) (pm : Pen b m) (hB : b + 300 < 2 ^ 40)
    (q : ∀ μ', D.rt (.bl true) μ') :
    dSs (lawX P w K mg base f c A outer s H E) J ((defBody sLaw).drop 10) [some (scr), some (.mut 1), y_n, y_a, y_b, y_one, y_two, y_sides, y_i, y_j, y_size, y_spokes, some (.int n), y_due, none, none, none, none, none, none, none, none, none] (tL :: m :: r) D := by
  have B := h.B
  have W := h.W
  have hu : (lawX P w K mg base f c A outer s H E).A.units + 64 < cLine := hr.units
  have hu9 : (lawX P w K mg base f c A outer s H E).A.units + 9 < cLine := by have := hr.un; omega
  have hl1 := rgT_len (n := n) (s := 0) (by omega)
  have hl2 := rgT_len (n := n) (s := n) (by omega)
  have pk := prism_ok n1 n2
  refine dSs_cons <| dS_set 13 ndLaw rfl <| dE_bin od_catL <| dE_bin od_catL <| dE_go h.lring (hr.mono (by decide)) hg <| dA_cons <| dE_var 12 rfl rfl <| dA_cons <| dE_int <| dA_nil <| mk_fn rfl (ties_lmf _) ⟨n, 0, rfl, by omega, by omega, rfl⟩ <| dE_go h.lring (hr.mono (by decide)) hg <| dA_cons <| dE_var 12 rfl rfl <| dA_cons <| dE_var 12 rfl rfl <| dA_nil <| mk_fn rfl (ties_lmf _) ⟨n, n, rfl, by omega, by omega, rfl⟩ ⟨_, _, rfl, rfl, by rw [sizeLine_eq, List.length_map, List.length_map]; omega, ?_⟩
  refine dE_lcG [("i", 8)] (fun k : Nat => .int (0 + (k : Int))) (fun k : Nat => prDt (0 + (k : Int), n + (0 + (k : Int)))) rfl ndLaw (blkOk_by (by show blkC (nmLaw : List Str) (defScope sLaw) _ _ = true; decide +kernel)) <| dI_range1 B.range <| dA_cons <| dE_var 12 rfl rfl <| dA_nil ⟨_, rfl, by omega, by omega, trivial, List.range n.toNat, rfl, by walk_at "lz", fun k hk s1 H1 C1 cl1 fp1 => dGv_name 8 ndLaw rfl ⟨rfl, fun s2 H2 C2 cl2 fp2 => dE_tup <| dA_cons <| dE_var 8 rfl rfl <| dA_cons <| dE_bin od_add <| dE_var 12 rfl rfl <| dE_var 8 rfl rfl <| mk_I0 <| dA_nil ⟨by walk_at "lz", rfl, rfl⟩⟩, _, _, rfl, rfl, by rw [sizeLine_eq, List.length_append, List.length_map, List.length_map, List.length_map, List.length_range]; omega, ?_⟩
  have e0 : (rgT n 0).map prDt ++ (rgT n n).map prDt ++ (List.range n.toNat).map (fun k : Nat => prDt (0 + (k : Int), n + (0 + (k : Int)))) = (prT n).map prDt := by
    rw [tiesOf_map n (fun (k : Nat) => (0 + (k : Int), n + (0 + (k : Int)))), prT, List.map_append, List.map_append]
  rw [e0]
  show dSs _ _ _ [some (scr), some (.mut 1), y_n, y_a, y_b, y_one, y_two, y_sides, y_i, y_j, y_size, y_spokes, some (.int n), some (.lst ((prT n).map prDt)), none, none, none, none, none, none, none, none, none] (tL :: m :: r) _
  obtain ⟨pr, hpy, hs, hz, hd⟩ := prism_fact n1 n2
  refine dSs_cons <| dS_if <| dT_bool <| dW_or <| dT_cmp od_neF <| dE_callB (hv := Boot.«repr») (cd_repr hg (n := 9) hu9) B.repr <| dA_cons <| dE_fld W.own.cl (W.free _ (by simp)) <| dE_go h.prism (hr.mono (by decide)) hg <| dA_cons <| dE_var 12 rfl rfl <| dA_nil <| mk_fr rfl (web_mf ..) ⟨_, rfl, ⟨_, rfl⟩, rfl, .inl ⟨n, rfl, n1, n2, rfl⟩⟩ ⟨_, tiesD (srtP (prT n)), rfl, rfl, dA_nil ⟨_, pr, rfl, hpy, hs, hz, hd, ?_⟩⟩
  refine dE_callB (hv := Boot.«repr») (cd_repr hg (n := 9) hu9) B.repr <| dA_cons <| dE_callTy (hv := Boot.«tuple») cd_tuple B.tuple <| dA_cons <| dE_callB (hv := Boot.«sorted») cd_sortedP B.sorted <| dA_cons <| dE_var 13 rfl rfl <| dA_nil ⟨_, prT n, rfl, rfl, (fun _ z => by cases z), dA_nil ⟨_, _, rfl, rfl, dA_nil ⟨_, pr, rfl, hpy, hs, hz, hd, _, rfl, mk_B <| iteN (by simp) ?_⟩⟩⟩
  refine dW_or1 <| dT_cmp od_neF <| dE_fld W.own.cl (W.free _ (by simp)) <| dE_go h.prism (hr.mono (by decide)) hg <| dA_cons <| dE_var 12 rfl rfl <| dA_nil <| mk_fr rfl (web_mf ..) ⟨_, rfl, ⟨_, rfl⟩, rfl, .inl ⟨n, rfl, n1, n2, rfl⟩⟩ ⟨_, .int (2 * n), rfl, rfl, dE_bin od_mul <| dE_int <| dE_var 12 rfl rfl <| mk_I (C := CMul) (.inl ⟨by decide, by decide⟩) ⟨_, rfl, mk_B <| iteN (by simp) <| dSs_nil ?_⟩⟩
  refine dSs_cons <| dS_par 14 15 rfl ndLaw rfl rfl <| dA_cons <| dE_go0 h.eight (hr.mono (by decide)) hg <| mk_fn rfl (web_mf ..) ⟨rfl, rfl⟩ <| dA_cons <| dE_go0 h.peter (hr.mono (by decide)) hg <| mk_fn rfl (web_mf ..) ⟨rfl, rfl⟩ <| dA_nil ⟨_, _, rfl, ?_⟩
  show dSs _ _ _ [some (scr), some (.mut 1), y_n, y_a, y_b, y_one, y_two, y_sides, y_i, y_j, y_size, y_spokes, some (.int n), some (.lst ((prT n).map prDt)), some (webD CW 8 (srtP egT)), some (webD CW 10 (srtP ptT)), none, none, none, none, none, none, none] (tL :: m :: r) _
  obtain ⟨⟨pr, hpy, hs, hz, hd⟩, eend⟩ := eight_fact
  have hl8 := rgT_len (n := 8) (s := 0) (by decide)
  refine dSs_cons <| dS_if <| dT_cmp od_neF <| dE_callB (hv := Boot.«repr») (cd_repr hg (n := 9) hu9) B.repr <| dA_cons <| dE_tup <| dA_cons <| dE_fld W.own.cl (W.free _ (by simp)) <| dE_var 14 rfl rfl ⟨_, .int 8, rfl, rfl, dA_cons <| dE_fld W.own.cl (W.free _ (by simp)) <| dE_var 14 rfl rfl ⟨_, tiesD (srtP egT), rfl, rfl, dA_nil ⟨by walk_at "lz", dA_nil ⟨_, pr, rfl, hpy, hs, hz, hd, ?_⟩⟩⟩⟩
  refine dE_callB (hv := Boot.«repr») (cd_repr hg (n := 9) hu9) B.repr <| dA_cons <| dE_tup <| dA_cons <| dE_int <| dA_cons <| dE_callTy (hv := Boot.«tuple») cd_tuple B.tuple <| dA_cons <| dE_callB (hv := Boot.«sorted») cd_sortedP B.sorted <| dA_cons <| dE_bin od_catL <| dE_go h.lring (hr.mono (by decide)) hg <| dA_cons <| dE_int <| dA_cons <| dE_int <| dA_nil <| mk_fn rfl (ties_lmf _) ⟨8, 0, rfl, by omega, by omega, rfl⟩ ?_
  refine dE_lcG [("i", 8)] (fun k : Nat => .int (0 + (k : Int))) (fun k : Nat => prDt (0 + (k : Int), 0 + (k : Int) + 4)) rfl ndLaw (blkOk_by (by show blkC (nmLaw : List Str) (defScope sLaw) _ _ = true; decide +kernel)) <| dI_range1 B.range <| dA_cons <| dE_int <| dA_nil ⟨4, rfl, by decide, by decide, trivial, List.range (4 : Int).toNat, rfl, by walk_at "lz", fun k hk s1 H1 C1 cl1 fp1 => dGv_name 8 ndLaw rfl ⟨rfl, fun s2 H2 C2 cl2 fp2 => dE_tup <| dA_cons <| dE_var 8 rfl rfl <| dA_cons <| dE_bin od_add <| dE_var 8 rfl rfl <| dE_int <| mk_I0 <| dA_nil ⟨by walk_at "lz", rfl, rfl⟩⟩, _, _, rfl, rfl, by rw [sizeLine_eq]; decide, ?_⟩
  refine dA_nil ⟨_, egT, rfl, by rw [tiesOf_map 4 (fun (k : Nat) => (0 + (k : Int), 0 + (k : Int) + 4)), ← List.map_append]; rfl, (fun _ z => by cases z), dA_nil ⟨_, _, rfl, rfl, dA_nil ⟨by walk_at "lz", dA_nil ⟨_, pr, rfl, hpy, hs, hz, hd, _, rfl, mk_B <| iteN (by simp) <| dSs_nil ?_⟩⟩⟩⟩
  refine dSs_cons <| dS_setLcF 16 [("i", 8)] (fun k : Nat => .int (0 + (k : Int))) (fun _ => true) (fun k : Nat => prDt (if (0 + (k : Int) + 2) % 5 + 5 < 0 + (k : Int) + 5 then (0 + (k : Int) + 2) % 5 + 5 else 0 + (k : Int) + 5, if (0 + (k : Int) + 2) % 5 + 5 > 0 + (k : Int) + 5 then (0 + (k : Int) + 2) % 5 + 5 else 0 + (k : Int) + 5)) rfl ndLaw rfl rfl (blkOk_by (by show blkC (nmLaw : List Str) (defScope sLaw) _ _ = true; decide +kernel)) rfl <| dI_range1 B.range <| dA_cons <| dE_int <| dA_nil ⟨5, rfl, by decide, by decide, trivial, List.range (5 : Int).toNat, rfl, by walk_at "lz", fun k hk s1 H1 C1 cl1 fp1 => dGv_name 8 ndLaw rfl ⟨rfl, fun s2 H2 C2 cl2 fp2 => dTs_nil ⟨rfl, rfl, fun _ s3 H3 C3 cl3 fp3 => dE_tup <| dA_cons <| dE_callB (hv := Boot.«min») (cd_min2 rfl) B.min <| dA_cons <| dE_bin od_add <| dE_var 8 rfl rfl <| dE_int <| mk_I0 <| dA_cons <| dE_bin od_add <| dE_bin od_mod <| dE_callTy (hv := Boot.«int») cd_int B.int <| dA_cons <| dE_bin od_add <| dE_var 8 rfl rfl <| dE_int <| mk_I0 <| dA_nil <| .inl ⟨_, rfl, dE_int <| mk_mod (by decide) <| dE_int <| mk_I0 <| dA_nil ⟨_, _, rfl,  dA_cons <| dE_callB (hv := Boot.«max») (cd_max2 rfl) B.max <| dA_cons <| dE_bin od_add <| dE_var 8 rfl rfl <| dE_int <| mk_I0 <| dA_cons <| dE_bin od_add <| dE_bin od_mod <| dE_callTy (hv := Boot.«int») cd_int B.int <| dA_cons <| dE_bin od_add <| dE_var 8 rfl rfl <| dE_int <| mk_I0 <| dA_nil <| .inl ⟨_, rfl, dE_int <| mk_mod (by decide) <| dE_int <| mk_I0 <| dA_nil ⟨_, _, rfl,  dA_nil ⟨by walk_at "lz", rfl, rfl⟩⟩⟩⟩⟩⟩⟩, ?_⟩
  rw [List.filter_eq_self.mpr (fun _ _ => rfl), star_eq]
  show dSs _ _ _ [some (scr), some (.mut 1), y_n, y_a, y_b, y_one, y_two, y_sides, y_i, y_j, y_size, y_spokes, some (.int n), some (.lst ((prT n).map prDt)), some (webD CW 8 (srtP egT)), some (webD CW 10 (srtP ptT)), some (.lst (stT.map prDt)), none, none, none, none, none, none] (tL :: m :: r) _
  obtain ⟨⟨pr, hpy, hs, hz, hd⟩, fend, R, hR, hne, h4, h5, h6⟩ := far_fact
  have hl5 := rgT_len (n := 5) (s := 0) (by decide)
  refine dSs_cons <| dS_if <| dT_cmp od_neF <| dE_callB (hv := Boot.«repr») (cd_repr hg (n := 9) hu9) B.repr <| dA_cons <| dE_tup <| dA_cons <| dE_fld W.own.cl (W.free _ (by simp)) <| dE_var 15 rfl rfl ⟨_, .int 10, rfl, rfl, dA_cons <| dE_fld W.own.cl (W.free _ (by simp)) <| dE_var 15 rfl rfl ⟨_, tiesD (srtP ptT), rfl, rfl, dA_nil ⟨by walk_at "lz", dA_nil ⟨_, pr, rfl, hpy, hs, hz, hd, ?_⟩⟩⟩⟩
  refine dE_callB (hv := Boot.«repr») (cd_repr hg (n := 9) hu9) B.repr <| dA_cons <| dE_tup <| dA_cons <| dE_int <| dA_cons <| dE_callTy (hv := Boot.«tuple») cd_tuple B.tuple <| dA_cons <| dE_callB (hv := Boot.«sorted») cd_sortedP B.sorted <| dA_cons <| dE_bin od_catL <| dE_bin od_catL <| dE_go h.lring (hr.mono (by decide)) hg <| dA_cons <| dE_int <| dA_cons <| dE_int <| dA_nil <| mk_fn rfl (ties_lmf _) ⟨5, 0, rfl, by omega, by omega, rfl⟩ ?_
  refine dE_lcG [("i", 8)] (fun k : Nat => .int (0 + (k : Int))) (fun k : Nat => prDt (0 + (k : Int), 0 + (k : Int) + 5)) rfl ndLaw (blkOk_by (by show blkC (nmLaw : List Str) (defScope sLaw) _ _ = true; decide +kernel)) <| dI_range1 B.range <| dA_cons <| dE_int <| dA_nil ⟨5, rfl, by decide, by decide, trivial, List.range (5 : Int).toNat, rfl, by walk_at "lz", fun k hk s1 H1 C1 cl1 fp1 => dGv_name 8 ndLaw rfl ⟨rfl, fun s2 H2 C2 cl2 fp2 => dE_tup <| dA_cons <| dE_var 8 rfl rfl <| dA_cons <| dE_bin od_add <| dE_var 8 rfl rfl <| dE_int <| mk_I0 <| dA_nil ⟨by walk_at "lz", rfl, rfl⟩⟩, _, _, rfl, rfl, by rw [sizeLine_eq]; decide, ?_⟩
  refine dE_var 16 rfl rfl ⟨_, _, rfl, rfl, by rw [sizeLine_eq]; decide, ?_⟩
  refine dA_nil ⟨_, ptT, rfl, by rw [tiesOf_map 5 (fun (k : Nat) => (0 + (k : Int), 0 + (k : Int) + 5)), ← List.map_append, ← List.map_append]; rfl, (fun _ z => by cases z), dA_nil ⟨_, _, rfl, rfl, dA_nil ⟨by walk_at "lz", dA_nil ⟨_, pr, rfl, hpy, hs, hz, hd, _, rfl, mk_B <| iteN (by simp) <| dSs_nil ?_⟩⟩⟩⟩
  refine dSs_cons <| dS_if <| dT_bool <| dW_or <| dT_cmp (od_neD hu) <| dE_callB (hv := Boot.«sorted») cd_sortedI B.sorted <| dA_cons <| dE_go h.ends (hr.mono (by decide)) hg <| dA_cons <| dE_int <| dA_cons <| dE_fld W.own.cl (W.free _ (by simp)) <| dE_var 15 rfl rfl ⟨_, tiesD (srtP ptT), rfl, rfl, dA_nil <| mk_fn (mfs2 rfl (ties_mf _)) (mf_lst int_mf _) ⟨10, srtP ptT, rfl, by decide, by decide, okT_srt pt_ok, rfl⟩ <| dA_nil ⟨_, edF 10 (srtP ptT), rfl, rfl, (fun _ z => by cases z), ?_⟩⟩
  rw [fend]
  refine dE_frz <| dE_bin od_repM <| dE_lstM <| dA_cons <| dE_int <| dA_nil ⟨by walk_at "lz", dE_int ⟨_, 10, [.int 3], rfl, rfl, get_end, by decide, by decide, by rw [sizeLine_eq]; decide, _, _, rfl, get_end, ?_⟩⟩
  rw [set_end]
  refine ⟨.list (List.replicate 10 (.int 3)), .list (List.replicate 10 (.int 3)), rfl, rfl, rfl, rfl, mk_B <| iteN2 (by decide +kernel) ?_⟩
  refine dW_or <| dT_cmp (od_neD hu) <| dE_callB (hv := Boot.«sorted») cd_sortedI B.sorted <| dA_cons <| dE_go h.ends (hr.mono (by decide)) hg <| dA_cons <| dE_int <| dA_cons <| dE_fld W.own.cl (W.free _ (by simp)) <| dE_var 14 rfl rfl ⟨_, tiesD (srtP egT), rfl, rfl, dA_nil <| mk_fn (mfs2 rfl (ties_mf _)) (mf_lst int_mf _) ⟨8, srtP egT, rfl, by decide, by decide, okT_srt eight_ok, rfl⟩ <| dA_nil ⟨_, edF 8 (srtP egT), rfl, rfl, (fun _ z => by cases z), ?_⟩⟩
  rw [eend]
  refine dE_frz <| dE_bin od_repM <| dE_lstM <| dA_cons <| dE_int <| dA_nil ⟨by walk_at "lz", dE_int ⟨_, 8, [.int 3], rfl, rfl, get_end, by decide, by decide, by rw [sizeLine_eq]; decide, _, _, rfl, get_end, ?_⟩⟩
  rw [set_end]
  refine ⟨.list (List.replicate 8 (.int 3)), .list (List.replicate 8 (.int 3)), rfl, rfl, rfl, rfl, mk_B <| iteN2 (by decide +kernel) ?_⟩
  have hlen : (srtL R).length = R.length := (srtBy_perm R).length_eq
  have hk := (okT_iff.mp (okT_srt pt_ok)).1
  obtain ⟨p5, hp5, h55⟩ := h5
  refine dW_or1 <| dT_cmp od_neF <| dE_callB (hv := Boot.«min») (cd_minL rfl) B.min <| dA_cons <| dE_lcG [("lot", 17)] lotD (fun l => .int ((l.length : Nat) : Int)) rfl ndLaw (blkOk_by (by show blkC (nmLaw : List Str) (defScope sLaw) _ _ = true; decide +kernel)) <| dI_seq <| dE_go h.rounds (hr.mono (by decide)) hg <| dA_cons <| dE_var 15 rfl rfl <| dA_nil <| mk_fn (mfs1 (web_mf ..)) (mf_tup lot_mf (srtL R)) ⟨10, srtP ptT, R, rfl, by decide, by decide, hk, hR, hne, h4, rfl⟩ ⟨_, rfl, rfl, srtL R, rfl, by rw [sizeLine_eq, hlen]; omega, fun l hl s1 H1 C1 cl1 fp1 => dGv_name 17 ndLaw rfl ⟨rfl, fun s2 H2 C2 cl2 fp2 => dE_callB (hv := Boot.«len») cd_len B.len <| dA_cons <| dE_var 17 rfl rfl <| dA_nil ⟨_, l.length, rfl, by simp [lenM, seqM, lotD], rfl, rfl⟩⟩, dA_nil ⟨(srtL R).map fun l => ((l.length : Nat) : Int), by rw [List.map_map]; rfl, ?_, fun mm hm hle => dE_int ⟨_, rfl, mk_B <| iteN ?_ <| dSs_nil ?_⟩⟩⟩
  · rw [List.length_map, hlen]
    exact List.length_pos_of_mem hp5
  · have a5 := hle 5 (List.mem_map.mpr ⟨p5, (srtBy_perm R).mem_iff.mpr hp5, by rw [h55]; rfl⟩)
    obtain ⟨l, hl, e⟩ := List.mem_map.mp hm
    have b5 := h6 l ((srtBy_perm R).mem_iff.mp hl)
    have : mm = 5 := by omega
    rw [this]
    rfl
  exact partD h hr hg TB htL y_n y_a y_b y_one y_two y_sides y_i y_j y_size y_spokes (some (.int n)) (some (.lst ((prT n).map prDt))) (some (webD CW 8 (srtP egT))) (some (webD CW 10 (srtP ptT))) (some (.lst (stT.map prDt))) none pm (by omega) q
end
end Law

/-! W70: the law's rings and wheels. -/
namespace Law
open PySem PySem.Spec PyProof.Rows L2 DL
local macro_rules | `(tactic| walk_at "sd") => `(tactic| first | assumption | decide | exact Or.inr (by decide) | exact Or.inl (by decide) | exact ⟨by decide, by decide⟩ | exact ⟨by decide, by decide, by decide⟩ | omega | exact ⟨by omega, by omega⟩)
local macro_rules | `(tactic| walk_at "lz") => `(tactic| first | exact pen_len | (rw [sizeLine_eq]; simp; done) | (rw [sizeLine_eq]; simp; omega))
section
variable {P : Program} {w : World} {K : PySem.W.Frag} {mg : Str → Option Value} {base : Heap}
local macro_rules | `(tactic| walk_at "lz") => `(tactic| first | exact pen_len | (rw [sizeLine_eq]; simp; done) | (rw [sizeLine_eq]; simp; omega) | (rw [sizeLine_eq]; omega))
variable {CW : Addr} {C7 : Fin 7 → Addr}
variable {f c T : Addr} {A : Around} {outer : List Env} {s : Shared} {H : Hp} {E : XK} {J : JX} {D : DEnds}
theorem partB (h : LawH P w K mg base CW C7) (hr : Room 9 (lawX P w K mg base f c A outer s H E).A) (hg : (lawX P w K mg base f c A outer s H E).A.guards = some []) (TB : LamX.TabB base mg c T) {scr : Dt} {tL m : Mo} {r : Mu} {b : Nat} (htL : Mo.tab 0 T lamQ = tL) (y_n y_a y_b y_one y_two y_sides y_i y_j : Option Dt) (pm : Pen b m) (hB : b + 400 < 2 ^ 40)
    (q : ∀ μ', D.rt (.bl true) μ') :
    dSs (lawX P w K mg base f c A outer s H E) J ((defBody sLaw).drop 6) [some (scr), some (.mut 1), y_n, y_a, y_b, y_one, y_two, y_sides, y_i, y_j, none, none, none, none, none, none, none, none, none, none, none, none, none] (tL :: m :: r) D := by
  have B := h.B
  have W := h.W
  have hu : (lawX P w K mg base f c A outer s H E).A.units + 64 < cLine := hr.units
  have hu9 : (lawX P w K mg base f c A outer s H E).A.units + 9 < cLine := by have := hr.un; omega
  refine dSs_cons <| dS_asg <| dE_tup <| dA_cons <| dE_bin od_add <| dE_int <| dE_go h.draw (hr.mono (by decide)) hg <| dA_cons <| dE_var 1 rfl rfl <| dA_cons <| dE_int <| dA_nil <| mk_call1 rfl pm.ng pm.mf rfl ⟨b, 10, m, rfl, rfl, pm, by omega, by decide, by decide, fun u m1 u1 u2 p1 => ⟨rfl, m1, rfl, p1.ng, p1.mf, mk_I0 <| dA_cons <| dE_bin od_add <| dE_int <| dE_go h.draw (hr.mono (by decide)) hg <| dA_cons <| dE_var 1 rfl rfl <| dA_cons <| dE_int <| dA_nil <| mk_call1 rfl p1.ng p1.mf rfl ⟨b + 1, 9, m1, rfl, rfl, p1, by omega, by decide, by decide, fun v m2 v1 v2 p2 => ⟨rfl, m2, rfl, p2.ng, p2.mf, mk_I0 <| dA_cons <| dE_bin od_add <| dE_int <| dE_go h.draw (hr.mono (by decide)) hg <| dA_cons <| dE_var 1 rfl rfl <| dA_cons <| dE_int <| dA_nil <| mk_call1 rfl p2.ng p2.mf rfl ⟨b + 2, 4, m2, rfl, rfl, p2, by omega, by decide, by decide, fun z m3 z1 z2 p3 => ⟨rfl, m3, rfl, p3.ng, p3.mf, mk_I0 <| dA_nil ⟨by walk_at "lz", ?_⟩⟩⟩⟩⟩⟩⟩
  refine dG_tup rfl rfl <| dGs_cons <| dG_name 10 ndLaw rfl <| dGs_cons <| dG_name 11 ndLaw rfl <| dGs_cons <| dG_name 12 ndLaw rfl <| dGs_nil ?_
  generalize hn : 3 + u = n
  generalize hk : 3 + v = k
  generalize ht : 3 + z = tt
  have n1 : 3 ≤ n := by omega
  have n2 : n ≤ 12 := by omega
  have k1 : 3 ≤ k := by omega
  have k2 : k ≤ 11 := by omega
  have t1 : 3 ≤ tt := by omega
  have t2 : tt ≤ 6 := by omega
  clear hn hk ht u1 u2 v1 v2 z1 z2
  show dSs _ _ _ [some (scr), some (.mut 1), y_n, y_a, y_b, y_one, y_two, y_sides, y_i, y_j, some (.int n), some (.int k), some (.int tt), none, none, none, none, none, none, none, none, none, none] (tL :: m3 :: r) _
  obtain ⟨⟨pr, hpy, hs, hz, hd⟩, R, hR, hne, h4⟩ := ring_fact n1 n2
  have hlen : (srtL R).length = R.length := (srtBy_perm R).length_eq
  refine dSs_cons <| dS_if <| dT_bool <| dW_or <| dT_cmp od_neF <| dE_callB (hv := Boot.«repr») (cd_repr hg (n := 9) hu9) B.repr <| dA_cons <| dE_fld W.own.cl (W.free _ (by simp)) <| dE_go h.ring (hr.mono (by decide)) hg <| dA_cons <| dE_var 10 rfl rfl <| dA_nil <| mk_fr rfl (web_mf ..) ⟨_, rfl, ⟨_, rfl⟩, rfl, .inl ⟨n, rfl, n1, n2, rfl⟩⟩ ⟨_, tiesD (srtP (rgT n 0)), rfl, rfl, dA_nil ⟨_, pr, rfl, hpy, hs, hz, hd, ?_⟩⟩
  refine dE_callB (hv := Boot.«repr») (cd_repr hg (n := 9) hu9) B.repr <| dA_cons <| dE_callTy (hv := Boot.«tuple») cd_tuple B.tuple <| dA_cons <| dE_callB (hv := Boot.«sorted») cd_sortedP B.sorted <| dA_cons <| dE_go h.lring (hr.mono (by decide)) hg <| dA_cons <| dE_var 10 rfl rfl <| dA_cons <| dE_int <| dA_nil <| mk_fn rfl (ties_lmf _) ⟨n, 0, rfl, by omega, by omega, rfl⟩ <| dA_nil ⟨_, rgT n 0, rfl, rfl, (fun _ z => by cases z), dA_nil ⟨_, _, rfl, rfl, dA_nil ⟨_, pr, rfl, hpy, hs, hz, hd, _, rfl, mk_B <| iteN (by simp) ?_⟩⟩⟩
  refine dW_or <| dT_cmp od_neF <| dE_fld W.own.cl (W.free _ (by simp)) <| dE_go h.ring (hr.mono (by decide)) hg <| dA_cons <| dE_var 10 rfl rfl <| dA_nil <| mk_fr rfl (web_mf ..) ⟨_, rfl, ⟨_, rfl⟩, rfl, .inl ⟨n, rfl, n1, n2, rfl⟩⟩ ⟨_, .int n, rfl, rfl, dE_var 10 rfl rfl ⟨_, rfl, mk_B <| iteN (by simp) ?_⟩⟩
  refine dW_or1 <| dT_cmp od_neF <| dE_callB (hv := Boot.«len») cd_len B.len <| dA_cons <| dE_go h.rounds (hr.mono (by decide)) hg <| dA_cons <| dE_go h.ring (hr.mono (by decide)) hg <| dA_cons <| dE_var 10 rfl rfl <| dA_nil <| mk_fr rfl (web_mf ..) ⟨_, rfl, ⟨_, rfl⟩, rfl, .inl ⟨n, rfl, n1, n2, rfl⟩⟩ <| dA_nil <| mk_fn (mfs1 (web_mf ..)) (mf_tup lot_mf (srtL R)) ⟨n, srtP (rgT n 0), R, rfl, by omega, by omega, (okT_iff.mp (okT_srt (ring_ok n1 n2))).1, hR, hne, by omega, rfl⟩ <| dA_nil ⟨_, R.length, rfl, by simp [lenM, seqM, hlen],  dE_int ⟨_, rfl, mk_B <| iteN (by rw [h4]; rfl) <| dSs_nil ?_⟩⟩
  clear hR hne h4 hlen R hpy hs hz hd pr
  obtain ⟨⟨pr, hpy, hs, hz, hd⟩, R, hR, hne, h5, h4⟩ := wheel_fact k1 k2
  have hlen : (srtL R).length = R.length := (srtBy_perm R).length_eq
  have hlk := rgT_len (n := k) (s := 0) (by omega)
  refine dSs_cons <| dS_if <| dT_cmp od_neF <| dE_callB (hv := Boot.«repr») (cd_repr hg (n := 9) hu9) B.repr <| dA_cons <| dE_fld W.own.cl (W.free _ (by simp)) <| dE_go h.wheel (hr.mono (by decide)) hg <| dA_cons <| dE_var 11 rfl rfl <| dA_nil <| mk_fr rfl (web_mf ..) ⟨_, rfl, ⟨_, rfl⟩, rfl, .inl ⟨k, rfl, k1, k2, rfl⟩⟩ ⟨_, tiesD (srtP (whT k)), rfl, rfl, dA_nil ⟨_, pr, rfl, hpy, hs, hz, hd, ?_⟩⟩
  refine dE_callB (hv := Boot.«repr») (cd_repr hg (n := 9) hu9) B.repr <| dA_cons <| dE_callTy (hv := Boot.«tuple») cd_tuple B.tuple <| dA_cons <| dE_callB (hv := Boot.«sorted») cd_sortedP B.sorted <| dA_cons <| dE_bin od_catL <| dE_go h.lring (hr.mono (by decide)) hg <| dA_cons <| dE_var 11 rfl rfl <| dA_cons <| dE_int <| dA_nil <| mk_fn rfl (ties_lmf _) ⟨k, 0, rfl, by omega, by omega, rfl⟩ ?_
  refine dE_lcG [("i", 8)] (fun j : Nat => .int (0 + (j : Int))) (fun j : Nat => prDt (0 + (j : Int), k)) rfl ndLaw (blkOk_by (by show blkC (nmLaw : List Str) (defScope sLaw) _ _ = true; decide +kernel)) <| dI_range1 B.range <| dA_cons <| dE_var 11 rfl rfl <| dA_nil ⟨_, rfl, by omega, by omega, trivial, List.range k.toNat, rfl, by walk_at "lz", fun j hj s1 H1 C1 cl1 fp1 => dGv_name 8 ndLaw rfl ⟨rfl, fun s2 H2 C2 cl2 fp2 => dE_tup <| dA_cons <| dE_var 8 rfl rfl <| dA_cons <| dE_var 11 rfl rfl <| dA_nil ⟨by walk_at "lz", rfl, rfl⟩⟩, _, _, rfl, rfl, by rw [sizeLine_eq, List.length_map, List.length_map, List.length_range]; omega, ?_⟩
  refine dA_nil ⟨_, whT k, rfl, by rw [tiesOf_map k (fun (j : Nat) => (0 + (j : Int), k)), ← List.map_append]; rfl, (fun _ z => by cases z), dA_nil ⟨_, _, rfl, rfl, dA_nil ⟨_, pr, rfl, hpy, hs, hz, hd, _, rfl, mk_B <| iteN (by simp) <| dSs_nil ?_⟩⟩⟩
  refine dSs_cons <| dS_if <| dT_bool <| dW_or <| dT_cmp od_neF <| dE_callB (hv := Boot.«len») cd_len B.len <| dA_cons <| dE_go h.rounds (hr.mono (by decide)) hg <| dA_cons <| dE_go h.wheel (hr.mono (by decide)) hg <| dA_cons <| dE_var 11 rfl rfl <| dA_nil <| mk_fr rfl (web_mf ..) ⟨_, rfl, ⟨_, rfl⟩, rfl, .inl ⟨k, rfl, k1, k2, rfl⟩⟩ <| dA_nil <| mk_fn (mfs1 (web_mf ..)) (mf_tup lot_mf (srtL R)) ⟨k + 1, srtP (whT k), R, rfl, by omega, by omega, (okT_iff.mp (okT_srt (wheel_ok k1 k2))).1, hR, hne, by omega, rfl⟩ <| dA_nil ⟨_, R.length, rfl, by simp [lenM, seqM, hlen],  dE_bin od_add <| dE_bin od_mul <| dE_var 11 rfl rfl <| dE_bin od_sub <| dE_var 11 rfl rfl <| dE_int <| mk_I0 <| mk_I (C := CMul) (.inl ⟨by omega, by omega⟩) <| dE_int <| mk_I0 ⟨_, rfl, mk_B <| iteN (by rw [h5]; simp) ?_⟩⟩
  refine dW_or1 <| dT_cmp od_neF <| dE_fld W.own.cl (W.free _ (by simp)) <| dE_go h.wheel (hr.mono (by decide)) hg <| dA_cons <| dE_var 11 rfl rfl <| dA_nil <| mk_fr rfl (web_mf ..) ⟨_, rfl, ⟨_, rfl⟩, rfl, .inl ⟨k, rfl, k1, k2, rfl⟩⟩ ⟨_, .int (k + 1), rfl, rfl, dE_bin od_add <| dE_var 11 rfl rfl <| dE_int <| mk_I0 ⟨_, rfl, mk_B <| iteN (by simp) <| dSs_nil ?_⟩⟩
  exact partC h hr hg TB htL t1 t2 y_n y_a y_b y_one y_two y_sides y_i y_j (some (.int n)) (some (.int k)) none p3 (by omega) q
end
end Law

/-! W71: the law. -/
namespace Law
open PySem PySem.Spec PyProof.Rows L2 DL
local macro_rules | `(tactic| walk_at "sd") => `(tactic| first | assumption | decide | exact Or.inr (by decide) | exact Or.inl (by decide) | exact ⟨by decide, by decide⟩ | exact ⟨by decide, by decide, by decide⟩ | omega | exact ⟨by omega, by omega⟩)
local macro_rules | `(tactic| walk_at "lz") => `(tactic| first | exact pen_len | (rw [sizeLine_eq]; simp; done) | (rw [sizeLine_eq]; simp; omega))
section
variable {P : Program} {w : World} {K : PySem.W.Frag} {mg : Str → Option Value} {base : Heap}
local macro_rules | `(tactic| walk_at "lz") => `(tactic| first | exact pen_len | (rw [sizeLine_eq]; simp; done) | (rw [sizeLine_eq]; simp; omega) | (rw [sizeLine_eq]; omega))
def rLaw (T : Addr) : Spc := fun ds μ Q _ => ∃ ns : List Int, ds = [.lst (ns.map .int)] ∧ μ = [.tab 0 T lamQ] ∧ ∀ μ', Q (.bl true) μ'
abbrev psLaw : List Str := ["script"]
theorem okLaw {CW : Addr} {C7 : Fin 7 → Addr} {c T : Addr} {f : Addr} {fd : FuncData} (F : Fun K "law" "law" sLaw f fd) (hcd : fd.code = .ref c) (TB : LamX.TabB base mg c T) (f_pen : DefP P w K mg base 1 "_law_pen" ["script"] rPen) (h : LawH P w K mg base CW C7) : FnG P w K mg base 10 f fd ["script"] (rLaw T) := by
  refine FnG.ofC F scLaw (fun ds μ Q J ⟨ns, e, _⟩ => by rw [e]; rfl) fun cdv hcdv A outer s H E ds μ Q J hr hg ⟨ns, e, e2, q⟩ => ?_
  subst e e2
  obtain rfl : cdv = .ref c := hcdv.symm.trans hcd
  have B := h.B
  have W := h.W
  have hr : Room 9 (lawX P w K mg base f c A outer s H E).A := hr
  have hu9 : (lawX P w K mg base f c A outer s H E).A.units + 9 < cLine := by have := hr.un; omega
  refine dSs_cons <| dS_set 1 ndLaw rfl <| dE_goN f_pen (hr.mono (by decide)) hg <| dA_cons <| dE_var 0 rfl rfl <| dA_nil ⟨by simp [mfs, Dt.mf, mfs_map (f := Dt.int) fun _ => rfl], ⟨ns, rfl, rfl, fun m pm => ⟨0, m, rfl, rfl, pm.ng, pm.mf, ?_⟩⟩⟩
  generalize Dt.lst (ns.map .int) = scr
  generalize htL : Mo.tab 0 T lamQ = tL
  show dSs (lawX P w K mg base f c A outer s H E) _ _ [some (scr), some (.mut 1), none, none, none, none, none, none, none, none, none, none, none, none, none, none, none, none, none, none, none, none, none] [tL, m] _
  refine dSs_cons <| dS_asg <| dE_tup <| dA_cons <| dE_bin od_add <| dE_int <| dE_go h.draw (hr.mono (by decide)) hg <| dA_cons <| dE_var 1 rfl rfl <| dA_cons <| dE_int <| dA_nil <| mk_call1 rfl pm.ng pm.mf rfl ⟨0, 9, m, rfl, rfl, pm, by omega, by decide, by decide, fun u m1 u1 u2 p1 => ⟨rfl, m1, rfl, p1.ng, p1.mf, mk_I0 <| dA_cons <| dE_bin od_add <| dE_int <| dE_go h.draw (hr.mono (by decide)) hg <| dA_cons <| dE_var 1 rfl rfl <| dA_cons <| dE_int <| dA_nil <| mk_call1 rfl p1.ng p1.mf rfl ⟨1, 6, m1, rfl, rfl, p1, by omega, by decide, by decide, fun v m2 v1 v2 p2 => ⟨rfl, m2, rfl, p2.ng, p2.mf, mk_I0 <| dA_cons <| dE_bin od_add <| dE_int <| dE_go h.draw (hr.mono (by decide)) hg <| dA_cons <| dE_var 1 rfl rfl <| dA_cons <| dE_int <| dA_nil <| mk_call1 rfl p2.ng p2.mf rfl ⟨2, 6, m2, rfl, rfl, p2, by omega, by decide, by decide, fun z m3 z1 z2 p3 => ⟨rfl, m3, rfl, p3.ng, p3.mf, mk_I0 <| dA_nil ⟨by walk_at "lz", ?_⟩⟩⟩⟩⟩⟩⟩
  refine dG_tup rfl rfl <| dGs_cons <| dG_name 2 ndLaw rfl <| dGs_cons <| dG_name 3 ndLaw rfl <| dGs_cons <| dG_name 4 ndLaw rfl <| dGs_nil ?_
  generalize hn : 1 + u = n
  generalize ha : 1 + v = a
  generalize hb : 1 + z = bb
  have n1 : 1 ≤ n := by omega
  have n2 : n ≤ 9 := by omega
  have a1 : 1 ≤ a := by omega
  have a2 : a ≤ 6 := by omega
  have b1 : 1 ≤ bb := by omega
  have b2 : bb ≤ 6 := by omega
  clear hn ha hb u1 u2 v1 v2 z1 z2
  show dSs (lawX P w K mg base f c A outer s H E) _ _ [some (scr), some (.mut 1), some (.int n), some (.int a), some (.int bb), none, none, none, none, none, none, none, none, none, none, none, none, none, none, none, none, none, none] [tL, m3] _
  obtain ⟨e1, pr, hpy, hs, hz, hd⟩ := tied_fact n1 n2
  obtain ⟨e2, pr2, hpy2, hs2, hz2, hd2⟩ := two_fact a1 a2 b1 b2
  refine dSs_cons <| dS_par 5 6 rfl ndLaw rfl rfl <| dA_cons <| dE_go h.all_tied (hr.mono (by decide)) hg <| dA_cons <| dE_var 2 rfl rfl <| dA_nil <| mk_fr rfl (web_mf ..) ⟨_, rfl, ⟨_, rfl⟩, rfl, .inl ⟨n, rfl, n1, n2, rfl⟩⟩ <| dA_cons <| dE_go h.two (hr.mono (by decide)) hg <| dA_cons <| dE_var 3 rfl rfl <| dA_cons <| dE_var 4 rfl rfl <| dA_nil <| mk_fr rfl (web_mf ..) ⟨_, _, rfl, ⟨_, rfl⟩, rfl, ⟨_, rfl⟩, rfl, .inl ⟨a, bb, rfl, rfl, a1, a2, b1, b2, rfl⟩⟩ <| dA_nil ⟨_, _, rfl, ?_⟩
  rw [e1, e2]
  show dSs (lawX P w K mg base f c A outer s H E) _ _ [some (scr), some (.mut 1), some (.int n), some (.int a), some (.int bb), some (webD CW n (fullP n n.toNat)), some (webD CW (a + bb) (twoP a bb a.toNat)), none, none, none, none, none, none, none, none, none, none, none, none, none, none, none, none] [tL, m3] _
  refine dSs_cons <| dS_set 7 ndLaw rfl <| dE_lst <| dA_nil ⟨by walk_at "lz", ?_⟩
  show dSs (lawX P w K mg base f c A outer s H E) _ _ [some (scr), some (.mut 1), some (.int n), some (.int a), some (.int bb), some (webD CW n (fullP n n.toNat)), some (webD CW (a + bb) (twoP a bb a.toNat)), some (.lst ((twoP a bb 0).map prDt)), none, none, none, none, none, none, none, none, none, none, none, none, none, none, none] [tL, m3] _
  refine dSs_cons <| dS_for (passes_of rfl) rfl <| dI_range1 B.range <| dA_cons <| dE_var 3 rfl rfl <| dA_nil ⟨_, rfl, by omega, by omega, fun i ρ' μ' => i ≤ a.toNat ∧ μ' = [tL, m3] ∧ ∃ x, ρ' = [some (scr), some (.mut 1), some (.int n), some (.int a), some (.int bb), some (webD CW n (fullP n n.toNat)), some (webD CW (a + bb) (twoP a bb a.toNat)), some (.lst ((twoP a bb i).map prDt)), x, none, none, none, none, none, none, none, none, none, none, none, none, none, none], ⟨by omega, rfl, _, rfl⟩, fun _ _ _ _ => trivial, ?_, ?_⟩
  · rintro i z ρ' μ' hx ⟨hi, rfl, x, rfl⟩
    obtain ⟨hi2, rfl⟩ := rng_get hx
    have hf := two_len (a := a) (b := bb) (k := i) (by omega)
    refine dG_name 8 ndLaw rfl ?_
    refine dSs_cons <| dS_set 7 ndLaw rfl <| dE_bin od_catL <| dE_var 7 rfl rfl <| dE_lcG [("j", 9)] (fun j : Nat => .int (0 + (j : Int))) (fun j : Nat => prDt (0 + (i : Int), a + (0 + (j : Int)))) rfl ndLaw (blkOk_by (by show blkC (nmLaw : List Str) (defScope sLaw) _ _ = true; decide +kernel)) <|
      dI_range1 B.range <| dA_cons <| dE_var 4 rfl rfl <| dA_nil ⟨_, rfl, by omega, by omega, trivial, List.range bb.toNat, rfl, by walk_at "lz", fun k hk s1 H1 C1 cl1 fp1 => dGv_name 9 ndLaw rfl ⟨rfl, fun s2 H2 C2 cl2 fp2 => dE_tup <| dA_cons <| dE_var 8 rfl rfl <| dA_cons <| dE_bin od_add <| dE_var 3 rfl rfl <| dE_var 9 rfl rfl <| mk_I0 <| dA_nil ⟨by walk_at "lz", rfl, rfl⟩⟩, _, _, rfl, rfl, by rw [sizeLine_eq, List.length_map, List.length_map, List.length_range]; omega, ?_⟩
    rw [tiesOf_map, ← List.map_append]
    have : twoP a bb i ++ tiesOf bb (fun (j : Nat) => (0 + (i : Int), a + (0 + (j : Int)))) = twoP a bb (i + 1) := by
      rw [twoP, twoP, List.range_succ, List.flatMap_append, List.flatMap_cons, List.flatMap_nil, List.append_nil]
    rw [this]
    exact dSs_nil ⟨by omega, rfl, _, rfl⟩
  rintro ρ' μ' ⟨_, rfl, x, rfl⟩
  rw [rng_length]
  refine dSs_cons <| dS_if <| dT_bool <| dW_or <| dT_cmp od_neF <| dE_callB (hv := Boot.«repr») (cd_repr hg (n := 9) hu9) B.repr <| dA_cons <| dE_tup <| dA_cons <| dE_fld W.own.cl (W.free _ (by simp)) <| dE_var 5 rfl rfl ⟨_, .int n, rfl, rfl, dA_cons <| dE_fld W.own.cl (W.free _ (by simp)) <| dE_var 5 rfl rfl ⟨_, tiesD (fullP n n.toNat), rfl, rfl, dA_nil ⟨by walk_at "lz", dA_nil ⟨_, pr, rfl, hpy, hs, hz, hd, ?_⟩⟩⟩⟩
  refine dE_callB (hv := Boot.«repr») (cd_repr hg (n := 9) hu9) B.repr <| dA_cons <| dE_tup <| dA_cons <| dE_var 2 rfl rfl <| dA_cons <| dE_go h.tied (hr.mono (by decide)) hg <| dA_cons <| dE_var 2 rfl rfl <| dA_nil <| mk_fn rfl (ties_mf _) ⟨n, rfl, n1, by omega, rfl⟩ <| dA_nil ⟨by walk_at "lz", dA_nil ⟨_, pr, rfl, hpy, hs, hz, hd, _, rfl, mk_B <| iteN (by simp) ?_⟩⟩
  refine dW_or1 <| dT_cmp od_neF <| dE_callB (hv := Boot.«repr») (cd_repr hg (n := 9) hu9) B.repr <| dA_cons <| dE_tup <| dA_cons <| dE_fld W.own.cl (W.free _ (by simp)) <| dE_var 6 rfl rfl ⟨_, .int (a + bb), rfl, rfl, dA_cons <| dE_fld W.own.cl (W.free _ (by simp)) <| dE_var 6 rfl rfl ⟨_, tiesD (twoP a bb a.toNat), rfl, rfl, dA_nil ⟨by walk_at "lz", dA_nil ⟨_, pr2, rfl, hpy2, hs2, hz2, hd2, ?_⟩⟩⟩⟩
  refine dE_callB (hv := Boot.«repr») (cd_repr hg (n := 9) hu9) B.repr <| dA_cons <| dE_tup <| dA_cons <| dE_bin od_add <| dE_var 3 rfl rfl <| dE_var 4 rfl rfl <| mk_I0 <| dA_cons <| dE_callTy (hv := Boot.«tuple») cd_tuple B.tuple <| dA_cons <| dE_var 7 rfl rfl <| dA_nil ⟨_, _, rfl, rfl, dA_nil ⟨by walk_at "lz", dA_nil ⟨_, pr2, rfl, hpy2, hs2, hz2, hd2, _, rfl, mk_B <| iteN (by simp) <| dSs_nil ?_⟩⟩⟩
  exact partB h hr hg TB htL (some (.int n)) (some (.int a)) (some (.int bb)) (some (webD CW n (fullP n n.toNat))) (some (webD CW (a + bb) (twoP a bb a.toNat))) (some (.lst ((twoP a bb a.toNat).map prDt))) (x) none p3 (by decide) (fun μ' => q μ')
end
end Law

/-! What the text says; the law. -/
namespace Law
open PySem PySem.Spec PyProof.Rows L2 DL
theorem all_mk {P : Program} {w : World} {K : PySem.W.Frag} {h : Heap} {mg : Str → Option Value} {fa : Addr} (X : K.In h) (G : h.Ns mainGlobals mg) (hfa : mg "law" = some (.ref fa))
    {CW C0 fI0 C1 fI1 C2 fI2 C3 fI3 C4 fI4 C5 fI5 C6 fI6 KW fIW cL TL g0 g1 g2 g3 g4 g5 g6 g7 g8 g9 g10 g11 g12 g13 g14 g15 g16 g17 g18 g19 g20 g21 g22 g23 g24 g25 g26 g27 g28 g29 g30 g31 : Addr}
    {nmW qnW : Str} {NW : Addr} {bsW : List Value} {snW : List Str} {subW : List Value} {abW : Bool} {colW : Option Bool} {ddW : Option Addr} {m0W m1W m2W m3W m5W : Option Value}
    {nmE0 qnE0 : Str} {NE0 : Addr} {bsE0 : List Value} {snE0 : List Str} {subE0 : List Value} {abE0 : Bool} {colE0 : Option Bool} {ddE0 : Option Addr} {m0E0 m1E0 m2E0 m3E0 m5E0 : Option Value}
    {odE0 anE0 : Option Addr} {slE0 : Array (Option Value)} {ocE0 kVE0 dcE0 pmE0 cdE0 ctE0 : Value}
    {nmE1 qnE1 : Str} {NE1 : Addr} {bsE1 : List Value} {snE1 : List Str} {subE1 : List Value} {abE1 : Bool} {colE1 : Option Bool} {ddE1 : Option Addr} {m0E1 m1E1 m2E1 m3E1 m5E1 : Option Value}
    {odE1 anE1 : Option Addr} {slE1 : Array (Option Value)} {ocE1 kVE1 dcE1 pmE1 cdE1 ctE1 : Value}
    {nmE2 qnE2 : Str} {NE2 : Addr} {bsE2 : List Value} {snE2 : List Str} {subE2 : List Value} {abE2 : Bool} {colE2 : Option Bool} {ddE2 : Option Addr} {m0E2 m1E2 m2E2 m3E2 m5E2 : Option Value}
    {odE2 anE2 : Option Addr} {slE2 : Array (Option Value)} {ocE2 kVE2 dcE2 pmE2 cdE2 ctE2 : Value}
    {nmE3 qnE3 : Str} {NE3 : Addr} {bsE3 : List Value} {snE3 : List Str} {subE3 : List Value} {abE3 : Bool} {colE3 : Option Bool} {ddE3 : Option Addr} {m0E3 m1E3 m2E3 m3E3 m5E3 : Option Value}
    {odE3 anE3 : Option Addr} {slE3 : Array (Option Value)} {ocE3 kVE3 dcE3 pmE3 cdE3 ctE3 : Value}
    {nmE4 qnE4 : Str} {NE4 : Addr} {bsE4 : List Value} {snE4 : List Str} {subE4 : List Value} {abE4 : Bool} {colE4 : Option Bool} {ddE4 : Option Addr} {m0E4 m1E4 m2E4 m3E4 m5E4 : Option Value}
    {odE4 anE4 : Option Addr} {slE4 : Array (Option Value)} {ocE4 kVE4 dcE4 pmE4 cdE4 ctE4 : Value}
    {nmE5 qnE5 : Str} {NE5 : Addr} {bsE5 : List Value} {snE5 : List Str} {subE5 : List Value} {abE5 : Bool} {colE5 : Option Bool} {ddE5 : Option Addr} {m0E5 m1E5 m2E5 m3E5 m5E5 : Option Value}
    {odE5 anE5 : Option Addr} {slE5 : Array (Option Value)} {ocE5 kVE5 dcE5 pmE5 cdE5 ctE5 : Value}
    {nmE6 qnE6 : Str} {NE6 : Addr} {bsE6 : List Value} {snE6 : List Str} {subE6 : List Value} {abE6 : Bool} {colE6 : Option Bool} {ddE6 : Option Addr} {m0E6 m1E6 m2E6 m3E6 m5E6 : Option Value}
    {odE6 anE6 : Option Addr} {slE6 : Array (Option Value)} {ocE6 kVE6 dcE6 pmE6 cdE6 ctE6 : Value}
    {odOW anOW : Option Addr} {slOW : Array (Option Value)} {ocOW kVOW dcOW pmOW cdOW ctOW : Value}
    {odF0 anF0 : Option Addr} {slF0 : Array (Option Value)} {ocF0 kVF0 dcF0 pmF0 cdF0 ctF0 : Value}
    {odF1 anF1 : Option Addr} {slF1 : Array (Option Value)} {ocF1 kVF1 dcF1 pmF1 cdF1 ctF1 : Value}
    {odF2 anF2 : Option Addr} {slF2 : Array (Option Value)} {ocF2 kVF2 dcF2 pmF2 cdF2 ctF2 : Value}
    {odF3 anF3 : Option Addr} {slF3 : Array (Option Value)} {ocF3 kVF3 dcF3 pmF3 cdF3 ctF3 : Value}
    {odF4 anF4 : Option Addr} {slF4 : Array (Option Value)} {ocF4 kVF4 dcF4 pmF4 cdF4 ctF4 : Value}
    {odF5 anF5 : Option Addr} {slF5 : Array (Option Value)} {ocF5 kVF5 dcF5 pmF5 cdF5 ctF5 : Value}
    {odF6 anF6 : Option Addr} {slF6 : Array (Option Value)} {ocF6 kVF6 dcF6 pmF6 cdF6 ctF6 : Value}
    {odF7 anF7 : Option Addr} {slF7 : Array (Option Value)} {ocF7 kVF7 dcF7 pmF7 cdF7 ctF7 : Value}
    {odF8 anF8 : Option Addr} {slF8 : Array (Option Value)} {ocF8 kVF8 dcF8 pmF8 cdF8 ctF8 : Value}
    {odF9 anF9 : Option Addr} {slF9 : Array (Option Value)} {ocF9 kVF9 dcF9 pmF9 cdF9 ctF9 : Value}
    {odF10 anF10 : Option Addr} {slF10 : Array (Option Value)} {ocF10 kVF10 dcF10 pmF10 cdF10 ctF10 : Value}
    {odF11 anF11 : Option Addr} {slF11 : Array (Option Value)} {ocF11 kVF11 dcF11 pmF11 cdF11 ctF11 : Value}
    {odF12 anF12 : Option Addr} {slF12 : Array (Option Value)} {ocF12 kVF12 dcF12 pmF12 cdF12 ctF12 : Value}
    {odF13 anF13 : Option Addr} {slF13 : Array (Option Value)} {ocF13 kVF13 dcF13 pmF13 cdF13 ctF13 : Value}
    {odF14 anF14 : Option Addr} {slF14 : Array (Option Value)} {ocF14 kVF14 dcF14 pmF14 cdF14 ctF14 : Value}
    {odF15 anF15 : Option Addr} {slF15 : Array (Option Value)} {ocF15 kVF15 dcF15 pmF15 cdF15 ctF15 : Value}
    {odF16 anF16 : Option Addr} {slF16 : Array (Option Value)} {ocF16 kVF16 dcF16 pmF16 cdF16 ctF16 : Value}
    {odF17 anF17 : Option Addr} {slF17 : Array (Option Value)} {ocF17 kVF17 dcF17 pmF17 cdF17 ctF17 : Value}
    {odF18 anF18 : Option Addr} {slF18 : Array (Option Value)} {ocF18 kVF18 dcF18 pmF18 cdF18 ctF18 : Value}
    {odF19 anF19 : Option Addr} {slF19 : Array (Option Value)} {ocF19 kVF19 dcF19 pmF19 cdF19 ctF19 : Value}
    {odF20 anF20 : Option Addr} {slF20 : Array (Option Value)} {ocF20 kVF20 dcF20 pmF20 cdF20 ctF20 : Value}
    {odF21 anF21 : Option Addr} {slF21 : Array (Option Value)} {ocF21 kVF21 dcF21 pmF21 cdF21 ctF21 : Value}
    {odF22 anF22 : Option Addr} {slF22 : Array (Option Value)} {ocF22 kVF22 dcF22 pmF22 cdF22 ctF22 : Value}
    {odF23 anF23 : Option Addr} {slF23 : Array (Option Value)} {ocF23 kVF23 dcF23 pmF23 cdF23 ctF23 : Value}
    {odF24 anF24 : Option Addr} {slF24 : Array (Option Value)} {ocF24 kVF24 dcF24 pmF24 cdF24 ctF24 : Value}
    {odF25 anF25 : Option Addr} {slF25 : Array (Option Value)} {ocF25 kVF25 dcF25 pmF25 cdF25 ctF25 : Value}
    {odF26 anF26 : Option Addr} {slF26 : Array (Option Value)} {ocF26 kVF26 dcF26 pmF26 cdF26 ctF26 : Value}
    {odF27 anF27 : Option Addr} {slF27 : Array (Option Value)} {ocF27 kVF27 dcF27 pmF27 cdF27 ctF27 : Value}
    {odF28 anF28 : Option Addr} {slF28 : Array (Option Value)} {ocF28 kVF28 dcF28 pmF28 cdF28 ctF28 : Value}
    {odF29 anF29 : Option Addr} {slF29 : Array (Option Value)} {ocF29 kVF29 dcF29 pmF29 cdF29 ctF29 : Value}
    {odF30 anF30 : Option Addr} {slF30 : Array (Option Value)} {ocF30 kVF30 dcF30 pmF30 cdF30 ctF30 : Value}
    {odF31 anF31 : Option Addr} {slF31 : Array (Option Value)} {ocF31 kVF31 dcF31 pmF31 ctF31 : Value}
    {ddM0 : Option Addr} {vsM0 : Array Value} {slM0 : Array (Option Value)}
    {t_MOST_SIZE : Tok}
    {t_MOST_TIES : Tok}
    {t_MOST_LOTS : Tok}
    (aW : PySem.W.nsIn K mainGlobals "WebError" = some (some (.ref CW)))
    (xW : K.lookup CW = some (excClassObj nmW qnW CW NW bsW [.type "ValueError", .type "Exception", .type "BaseException", .type "object"] true snW subW abW colW ddW m0W m1W m2W m3W m5W "ValueError.__new__"))
    (rdW : PySem.W.readsIn K CW (.type "type") = true)
    (gaW : PySem.W.specialIn K (.ref CW) "__getattribute__" = some (some (.builtin "type.__getattribute__")))
    (vW : PySem.W.findCls K (.ref CW) (.type "type") "__init__" = some (.val (.builtin "ValueError.__init__")))
    (hn : PySem.W.specialIn K (.builtin "object.__class__") "__get__" = some (some (.builtin "getset_descriptor.__get__")))
    (ht : PySem.W.takesIn K (.builtin "object.__class__") = some true)
    (aE0 : PySem.W.nsIn K mainGlobals "BadLot" = some (some (.ref C0)))
    (xE0 : K.lookup C0 = some (excClassObj nmE0 qnE0 C0 NE0 bsE0 [.ref CW, .type "ValueError", .type "Exception", .type "BaseException", .type "object"] true snE0 subE0 abE0 colE0 ddE0 m0E0 m1E0 m2E0 m3E0 m5E0 "ValueError.__new__"))
    (saE0 : PySem.W.findIn K (.ref C0) "__setattr__" = some (some (.builtin "object.__setattr__")))
    (gaE0 : PySem.W.findIn K (.ref C0) "__getattribute__" = some (some (.builtin "BaseException.__getattribute__")))
    (ggE0 : PySem.W.findIn K (.ref C0) "__getattr__" = some none)
    (haE0 : PySem.W.findIn K (.ref C0) "__class__" = some (some (.builtin "object.__class__")))
    (kcE0 : PySem.W.keepIn K (.ref C0) = true)
    (icE0 : PySem.W.findIn K (.ref C0) "__init__" = some (some (.ref fI0)))
    (tiE0 : PySem.W.typeIn K (.ref fI0) = some (.type "function"))
    (n0E0 : PySem.W.findIn K (.ref C0) "lot" = some none)
    (lE0 : K.lookup fI0 = some ⟨ocE0, odE0, .func (PySem.W.fnOf "__init__" "BadLot.__init__" (defArgs (inClass (tp 5) 0)) (defBody (inClass (tp 5) 0)) (defScope (inClass (tp 5) 0)) .none kVE0 dcE0 pmE0 anE0 cdE0 ctE0), slE0⟩)
    (cE0 : PySem.W.codeIn K cdE0 "BadLot.__init__" = true)
    (kE0 : PySem.W.keepIn K (.ref fI0) = true)
    (aE1 : PySem.W.nsIn K mainGlobals "BadNumber" = some (some (.ref C1)))
    (xE1 : K.lookup C1 = some (excClassObj nmE1 qnE1 C1 NE1 bsE1 [.ref CW, .type "ValueError", .type "Exception", .type "BaseException", .type "object"] true snE1 subE1 abE1 colE1 ddE1 m0E1 m1E1 m2E1 m3E1 m5E1 "ValueError.__new__"))
    (saE1 : PySem.W.findIn K (.ref C1) "__setattr__" = some (some (.builtin "object.__setattr__")))
    (gaE1 : PySem.W.findIn K (.ref C1) "__getattribute__" = some (some (.builtin "BaseException.__getattribute__")))
    (ggE1 : PySem.W.findIn K (.ref C1) "__getattr__" = some none)
    (haE1 : PySem.W.findIn K (.ref C1) "__class__" = some (some (.builtin "object.__class__")))
    (kcE1 : PySem.W.keepIn K (.ref C1) = true)
    (icE1 : PySem.W.findIn K (.ref C1) "__init__" = some (some (.ref fI1)))
    (tiE1 : PySem.W.typeIn K (.ref fI1) = some (.type "function"))
    (n0E1 : PySem.W.findIn K (.ref C1) "what" = some none)
    (n1E1 : PySem.W.findIn K (.ref C1) "number" = some none)
    (lE1 : K.lookup fI1 = some ⟨ocE1, odE1, .func (PySem.W.fnOf "__init__" "BadNumber.__init__" (defArgs (inClass (tp 3) 0)) (defBody (inClass (tp 3) 0)) (defScope (inClass (tp 3) 0)) .none kVE1 dcE1 pmE1 anE1 cdE1 ctE1), slE1⟩)
    (cE1 : PySem.W.codeIn K cdE1 "BadNumber.__init__" = true)
    (kE1 : PySem.W.keepIn K (.ref fI1) = true)
    (aE2 : PySem.W.nsIn K mainGlobals "BadRow" = some (some (.ref C2)))
    (xE2 : K.lookup C2 = some (excClassObj nmE2 qnE2 C2 NE2 bsE2 [.ref CW, .type "ValueError", .type "Exception", .type "BaseException", .type "object"] true snE2 subE2 abE2 colE2 ddE2 m0E2 m1E2 m2E2 m3E2 m5E2 "ValueError.__new__"))
    (saE2 : PySem.W.findIn K (.ref C2) "__setattr__" = some (some (.builtin "object.__setattr__")))
    (gaE2 : PySem.W.findIn K (.ref C2) "__getattribute__" = some (some (.builtin "BaseException.__getattribute__")))
    (ggE2 : PySem.W.findIn K (.ref C2) "__getattr__" = some none)
    (haE2 : PySem.W.findIn K (.ref C2) "__class__" = some (some (.builtin "object.__class__")))
    (kcE2 : PySem.W.keepIn K (.ref C2) = true)
    (icE2 : PySem.W.findIn K (.ref C2) "__init__" = some (some (.ref fI2)))
    (tiE2 : PySem.W.typeIn K (.ref fI2) = some (.type "function"))
    (n0E2 : PySem.W.findIn K (.ref C2) "row" = some none)
    (lE2 : K.lookup fI2 = some ⟨ocE2, odE2, .func (PySem.W.fnOf "__init__" "BadRow.__init__" (defArgs (inClass (tp 6) 0)) (defBody (inClass (tp 6) 0)) (defScope (inClass (tp 6) 0)) .none kVE2 dcE2 pmE2 anE2 cdE2 ctE2), slE2⟩)
    (cE2 : PySem.W.codeIn K cdE2 "BadRow.__init__" = true)
    (kE2 : PySem.W.keepIn K (.ref fI2) = true)
    (aE3 : PySem.W.nsIn K mainGlobals "BadTable" = some (some (.ref C3)))
    (xE3 : K.lookup C3 = some (excClassObj nmE3 qnE3 C3 NE3 bsE3 [.ref CW, .type "ValueError", .type "Exception", .type "BaseException", .type "object"] true snE3 subE3 abE3 colE3 ddE3 m0E3 m1E3 m2E3 m3E3 m5E3 "ValueError.__new__"))
    (saE3 : PySem.W.findIn K (.ref C3) "__setattr__" = some (some (.builtin "object.__setattr__")))
    (gaE3 : PySem.W.findIn K (.ref C3) "__getattribute__" = some (some (.builtin "BaseException.__getattribute__")))
    (ggE3 : PySem.W.findIn K (.ref C3) "__getattr__" = some none)
    (haE3 : PySem.W.findIn K (.ref C3) "__class__" = some (some (.builtin "object.__class__")))
    (kcE3 : PySem.W.keepIn K (.ref C3) = true)
    (icE3 : PySem.W.findIn K (.ref C3) "__init__" = some (some (.ref fI3)))
    (tiE3 : PySem.W.typeIn K (.ref fI3) = some (.type "function"))
    (n0E3 : PySem.W.findIn K (.ref C3) "table" = some none)
    (lE3 : K.lookup fI3 = some ⟨ocE3, odE3, .func (PySem.W.fnOf "__init__" "BadTable.__init__" (defArgs (inClass (tp 7) 0)) (defBody (inClass (tp 7) 0)) (defScope (inClass (tp 7) 0)) .none kVE3 dcE3 pmE3 anE3 cdE3 ctE3), slE3⟩)
    (cE3 : PySem.W.codeIn K cdE3 "BadTable.__init__" = true)
    (kE3 : PySem.W.keepIn K (.ref fI3) = true)
    (aE4 : PySem.W.nsIn K mainGlobals "BadWeb" = some (some (.ref C4)))
    (xE4 : K.lookup C4 = some (excClassObj nmE4 qnE4 C4 NE4 bsE4 [.ref CW, .type "ValueError", .type "Exception", .type "BaseException", .type "object"] true snE4 subE4 abE4 colE4 ddE4 m0E4 m1E4 m2E4 m3E4 m5E4 "ValueError.__new__"))
    (saE4 : PySem.W.findIn K (.ref C4) "__setattr__" = some (some (.builtin "object.__setattr__")))
    (gaE4 : PySem.W.findIn K (.ref C4) "__getattribute__" = some (some (.builtin "BaseException.__getattribute__")))
    (ggE4 : PySem.W.findIn K (.ref C4) "__getattr__" = some none)
    (haE4 : PySem.W.findIn K (.ref C4) "__class__" = some (some (.builtin "object.__class__")))
    (kcE4 : PySem.W.keepIn K (.ref C4) = true)
    (icE4 : PySem.W.findIn K (.ref C4) "__init__" = some (some (.ref fI4)))
    (tiE4 : PySem.W.typeIn K (.ref fI4) = some (.type "function"))
    (n0E4 : PySem.W.findIn K (.ref C4) "what" = some none)
    (n1E4 : PySem.W.findIn K (.ref C4) "value" = some none)
    (lE4 : K.lookup fI4 = some ⟨ocE4, odE4, .func (PySem.W.fnOf "__init__" "BadWeb.__init__" (defArgs (inClass (tp 4) 0)) (defBody (inClass (tp 4) 0)) (defScope (inClass (tp 4) 0)) .none kVE4 dcE4 pmE4 anE4 cdE4 ctE4), slE4⟩)
    (cE4 : PySem.W.codeIn K cdE4 "BadWeb.__init__" = true)
    (kE4 : PySem.W.keepIn K (.ref fI4) = true)
    (aE5 : PySem.W.nsIn K mainGlobals "TooMany" = some (some (.ref C5)))
    (xE5 : K.lookup C5 = some (excClassObj nmE5 qnE5 C5 NE5 bsE5 [.ref CW, .type "ValueError", .type "Exception", .type "BaseException", .type "object"] true snE5 subE5 abE5 colE5 ddE5 m0E5 m1E5 m2E5 m3E5 m5E5 "ValueError.__new__"))
    (saE5 : PySem.W.findIn K (.ref C5) "__setattr__" = some (some (.builtin "object.__setattr__")))
    (gaE5 : PySem.W.findIn K (.ref C5) "__getattribute__" = some (some (.builtin "BaseException.__getattribute__")))
    (ggE5 : PySem.W.findIn K (.ref C5) "__getattr__" = some none)
    (haE5 : PySem.W.findIn K (.ref C5) "__class__" = some (some (.builtin "object.__class__")))
    (kcE5 : PySem.W.keepIn K (.ref C5) = true)
    (icE5 : PySem.W.findIn K (.ref C5) "__init__" = some (some (.ref fI5)))
    (tiE5 : PySem.W.typeIn K (.ref fI5) = some (.type "function"))
    (n0E5 : PySem.W.findIn K (.ref C5) "what" = some none)
    (n1E5 : PySem.W.findIn K (.ref C5) "many" = some none)
    (n2E5 : PySem.W.findIn K (.ref C5) "limit" = some none)
    (lE5 : K.lookup fI5 = some ⟨ocE5, odE5, .func (PySem.W.fnOf "__init__" "TooMany.__init__" (defArgs (inClass (tp 9) 0)) (defBody (inClass (tp 9) 0)) (defScope (inClass (tp 9) 0)) .none kVE5 dcE5 pmE5 anE5 cdE5 ctE5), slE5⟩)
    (cE5 : PySem.W.codeIn K cdE5 "TooMany.__init__" = true)
    (kE5 : PySem.W.keepIn K (.ref fI5) = true)
    (aE6 : PySem.W.nsIn K mainGlobals "Unlike" = some (some (.ref C6)))
    (xE6 : K.lookup C6 = some (excClassObj nmE6 qnE6 C6 NE6 bsE6 [.ref CW, .type "ValueError", .type "Exception", .type "BaseException", .type "object"] true snE6 subE6 abE6 colE6 ddE6 m0E6 m1E6 m2E6 m3E6 m5E6 "ValueError.__new__"))
    (saE6 : PySem.W.findIn K (.ref C6) "__setattr__" = some (some (.builtin "object.__setattr__")))
    (gaE6 : PySem.W.findIn K (.ref C6) "__getattribute__" = some (some (.builtin "BaseException.__getattribute__")))
    (ggE6 : PySem.W.findIn K (.ref C6) "__getattr__" = some none)
    (haE6 : PySem.W.findIn K (.ref C6) "__class__" = some (some (.builtin "object.__class__")))
    (kcE6 : PySem.W.keepIn K (.ref C6) = true)
    (icE6 : PySem.W.findIn K (.ref C6) "__init__" = some (some (.ref fI6)))
    (tiE6 : PySem.W.typeIn K (.ref fI6) = some (.type "function"))
    (n0E6 : PySem.W.findIn K (.ref C6) "what" = some none)
    (lE6 : K.lookup fI6 = some ⟨ocE6, odE6, .func (PySem.W.fnOf "__init__" "Unlike.__init__" (defArgs (inClass (tp 8) 0)) (defBody (inClass (tp 8) 0)) (defScope (inClass (tp 8) 0)) .none kVE6 dcE6 pmE6 anE6 cdE6 ctE6), slE6⟩)
    (cE6 : PySem.W.codeIn K cdE6 "Unlike.__init__" = true)
    (kE6 : PySem.W.keepIn K (.ref fI6) = true)
    (aOW : PySem.W.nsIn K mainGlobals "Web" = some (some (.ref KW)))
    (pgOW : PySem.W.plainGet K KW Str.empty = true)
    (hdOW : PySem.W.hasDictIn K KW = true)
    (poOW : PySem.W.plainOver K KW = true)
    (saOW : PySem.W.findIn K (.ref KW) "__setattr__" = some (some (.builtin "object.__setattr__")))
    (haOW : PySem.W.findIn K (.ref KW) "__class__" = some (some (.builtin "object.__class__")))
    (mrOW : PySem.W.mroIn K KW (.type "object") = some true)
    (q0OW : PySem.W.kitOne K (.type "NoneType") (.ref KW) = some false)
    (q1OW : PySem.W.kitOne K (.type "bool") (.ref KW) = some false)
    (q2OW : PySem.W.kitOne K (.type "int") (.ref KW) = some false)
    (q3OW : PySem.W.kitOne K (.type "str") (.ref KW) = some false)
    (q4OW : PySem.W.kitOne K (.type "list") (.ref KW) = some false)
    (q5OW : PySem.W.kitOne K (.type "tuple") (.ref KW) = some false)
    (q6OW : PySem.W.kitOne K (.type "dict") (.ref KW) = some false)
    (n0OW : PySem.W.findIn K (.ref KW) "size" = some none)
    (n1OW : PySem.W.findIn K (.ref KW) "ties" = some none)
    (mkOW : PySem.W.makesIn K KW = true)
    (icOW : PySem.W.findIn K (.ref KW) "__init__" = some (some (.ref fIW)))
    (fnOW : PySem.W.isFn K (.ref fIW) = true)
    (kcOW : PySem.W.keepIn K (.ref KW) = true)
    (lOW : K.lookup fIW = some ⟨ocOW, odOW, .func (PySem.W.fnOf "__init__" "Web.__init__" (defArgs (inClass (tp 19) 0)) (defBody (inClass (tp 19) 0)) (defScope (inClass (tp 19) 0)) .none kVOW dcOW pmOW anOW cdOW ctOW), slOW⟩)
    (cOW : PySem.W.codeIn K cdOW "Web.__init__" = true)
    (kOW : PySem.W.keepIn K (.ref fIW) = true)
    (aF0 : PySem.W.nsIn K mainGlobals "_law_pen" = some (some (.ref g0)))
    (lF0 : K.lookup g0 = some ⟨ocF0, odF0, .func (PySem.W.fnOf "_law_pen" "_law_pen" (defArgs (tp 41)) (defBody (tp 41)) (defScope (tp 41)) .none kVF0 dcF0 pmF0 anF0 cdF0 ctF0), slF0⟩)
    (cF0 : PySem.W.codeIn K cdF0 "_law_pen" = true)
    (kF0 : PySem.W.keepIn K (.ref g0) = true)
    (aF1 : PySem.W.nsIn K mainGlobals "_law_draw" = some (some (.ref g1)))
    (lF1 : K.lookup g1 = some ⟨ocF1, odF1, .func (PySem.W.fnOf "_law_draw" "_law_draw" (defArgs (tp 42)) (defBody (tp 42)) (defScope (tp 42)) .none kVF1 dcF1 pmF1 anF1 cdF1 ctF1), slF1⟩)
    (cF1 : PySem.W.codeIn K cdF1 "_law_draw" = true)
    (kF1 : PySem.W.keepIn K (.ref g1) = true)
    (aF2 : PySem.W.nsIn K mainGlobals "_law_pick" = some (some (.ref g2)))
    (lF2 : K.lookup g2 = some ⟨ocF2, odF2, .func (PySem.W.fnOf "_law_pick" "_law_pick" (defArgs (tp 43)) (defBody (tp 43)) (defScope (tp 43)) .none kVF2 dcF2 pmF2 anF2 cdF2 ctF2), slF2⟩)
    (cF2 : PySem.W.codeIn K cdF2 "_law_pick" = true)
    (kF2 : PySem.W.keepIn K (.ref g2) = true)
    (aF3 : PySem.W.nsIn K mainGlobals "is_whole" = some (some (.ref g3)))
    (lF3 : K.lookup g3 = some ⟨ocF3, odF3, .func (PySem.W.fnOf "is_whole" "is_whole" (defArgs (tp 11)) (defBody (tp 11)) (defScope (tp 11)) .none kVF3 dcF3 pmF3 anF3 cdF3 ctF3), slF3⟩)
    (cF3 : PySem.W.codeIn K cdF3 "is_whole" = true)
    (kF3 : PySem.W.keepIn K (.ref g3) = true)
    (aF4 : PySem.W.nsIn K mainGlobals "is_tuple_of" = some (some (.ref g4)))
    (lF4 : K.lookup g4 = some ⟨ocF4, odF4, .func (PySem.W.fnOf "is_tuple_of" "is_tuple_of" (defArgs (tp 13)) (defBody (tp 13)) (defScope (tp 13)) .none kVF4 dcF4 pmF4 anF4 cdF4 ctF4), slF4⟩)
    (cF4 : PySem.W.codeIn K cdF4 "is_tuple_of" = true)
    (kF4 : PySem.W.keepIn K (.ref g4) = true)
    (aF5 : PySem.W.nsIn K mainGlobals "in_tuples" = some (some (.ref g5)))
    (lF5 : K.lookup g5 = some ⟨ocF5, odF5, .func (PySem.W.fnOf "in_tuples" "in_tuples" (defArgs (tp 12)) (defBody (tp 12)) (defScope (tp 12)) .none kVF5 dcF5 pmF5 anF5 cdF5 ctF5), slF5⟩)
    (cF5 : PySem.W.codeIn K cdF5 "in_tuples" = true)
    (kF5 : PySem.W.keepIn K (.ref g5) = true)
    (aF6 : PySem.W.nsIn K mainGlobals "is_tie" = some (some (.ref g6)))
    (lF6 : K.lookup g6 = some ⟨ocF6, odF6, .func (PySem.W.fnOf "is_tie" "is_tie" (defArgs (tp 20)) (defBody (tp 20)) (defScope (tp 20)) .none kVF6 dcF6 pmF6 anF6 cdF6 ctF6), slF6⟩)
    (cF6 : PySem.W.codeIn K cdF6 "is_tie" = true)
    (kF6 : PySem.W.keepIn K (.ref g6) = true)
    (aF7 : PySem.W.nsIn K mainGlobals "need_web" = some (some (.ref g7)))
    (lF7 : K.lookup g7 = some ⟨ocF7, odF7, .func (PySem.W.fnOf "need_web" "need_web" (defArgs (tp 22)) (defBody (tp 22)) (defScope (tp 22)) .none kVF7 dcF7 pmF7 anF7 cdF7 ctF7), slF7⟩)
    (cF7 : PySem.W.codeIn K cdF7 "need_web" = true)
    (kF7 : PySem.W.keepIn K (.ref g7) = true)
    (aF8 : PySem.W.nsIn K mainGlobals "need_between" = some (some (.ref g8)))
    (lF8 : K.lookup g8 = some ⟨ocF8, odF8, .func (PySem.W.fnOf "need_between" "need_between" (defArgs (tp 14)) (defBody (tp 14)) (defScope (tp 14)) .none kVF8 dcF8 pmF8 anF8 cdF8 ctF8), slF8⟩)
    (cF8 : PySem.W.codeIn K cdF8 "need_between" = true)
    (kF8 : PySem.W.keepIn K (.ref g8) = true)
    (aF9 : PySem.W.nsIn K mainGlobals "ways_on" = some (some (.ref g9)))
    (lF9 : K.lookup g9 = some ⟨ocF9, odF9, .func (PySem.W.fnOf "ways_on" "ways_on" (defArgs (tp 23)) (defBody (tp 23)) (defScope (tp 23)) .none kVF9 dcF9 pmF9 anF9 cdF9 ctF9), slF9⟩)
    (cF9 : PySem.W.codeIn K cdF9 "ways_on" = true)
    (kF9 : PySem.W.keepIn K (.ref g9) = true)
    (aF10 : PySem.W.nsIn K mainGlobals "round_list" = some (some (.ref g10)))
    (lF10 : K.lookup g10 = some ⟨ocF10, odF10, .func (PySem.W.fnOf "round_list" "round_list" (defArgs (tp 24)) (defBody (tp 24)) (defScope (tp 24)) .none kVF10 dcF10 pmF10 anF10 cdF10 ctF10), slF10⟩)
    (cF10 : PySem.W.codeIn K cdF10 "round_list" = true)
    (kF10 : PySem.W.keepIn K (.ref g10) = true)
    (aF11 : PySem.W.nsIn K mainGlobals "few" = some (some (.ref g11)))
    (lF11 : K.lookup g11 = some ⟨ocF11, odF11, .func (PySem.W.fnOf "few" "few" (defArgs (tp 25)) (defBody (tp 25)) (defScope (tp 25)) .none kVF11 dcF11 pmF11 anF11 cdF11 ctF11), slF11⟩)
    (cF11 : PySem.W.codeIn K cdF11 "few" = true)
    (kF11 : PySem.W.keepIn K (.ref g11) = true)
    (aF12 : PySem.W.nsIn K mainGlobals "rounds" = some (some (.ref g12)))
    (lF12 : K.lookup g12 = some ⟨ocF12, odF12, .func (PySem.W.fnOf "rounds" "rounds" (defArgs (tp 26)) (defBody (tp 26)) (defScope (tp 26)) .none kVF12 dcF12 pmF12 anF12 cdF12 ctF12), slF12⟩)
    (cF12 : PySem.W.codeIn K cdF12 "rounds" = true)
    (kF12 : PySem.W.keepIn K (.ref g12) = true)
    (aF13 : PySem.W.nsIn K mainGlobals "forest_by" = some (some (.ref g13)))
    (lF13 : K.lookup g13 = some ⟨ocF13, odF13, .func (PySem.W.fnOf "forest_by" "forest_by" (defArgs (tp 27)) (defBody (tp 27)) (defScope (tp 27)) .none kVF13 dcF13 pmF13 anF13 cdF13 ctF13), slF13⟩)
    (cF13 : PySem.W.codeIn K cdF13 "forest_by" = true)
    (kF13 : PySem.W.keepIn K (.ref g13) = true)
    (aF14 : PySem.W.nsIn K mainGlobals "many_even" = some (some (.ref g14)))
    (lF14 : K.lookup g14 = some ⟨ocF14, odF14, .func (PySem.W.fnOf "many_even" "many_even" (defArgs (tp 28)) (defBody (tp 28)) (defScope (tp 28)) .none kVF14 dcF14 pmF14 anF14 cdF14 ctF14), slF14⟩)
    (cF14 : PySem.W.codeIn K cdF14 "many_even" = true)
    (kF14 : PySem.W.keepIn K (.ref g14) = true)
    (aF15 : PySem.W.nsIn K mainGlobals "many_cuts" = some (some (.ref g15)))
    (lF15 : K.lookup g15 = some ⟨ocF15, odF15, .func (PySem.W.fnOf "many_cuts" "many_cuts" (defArgs (tp 29)) (defBody (tp 29)) (defScope (tp 29)) .none kVF15 dcF15 pmF15 anF15 cdF15 ctF15), slF15⟩)
    (cF15 : PySem.W.codeIn K cdF15 "many_cuts" = true)
    (kF15 : PySem.W.keepIn K (.ref g15) = true)
    (aF16 : PySem.W.nsIn K mainGlobals "all_tied" = some (some (.ref g16)))
    (lF16 : K.lookup g16 = some ⟨ocF16, odF16, .func (PySem.W.fnOf "all_tied" "all_tied" (defArgs (tp 31)) (defBody (tp 31)) (defScope (tp 31)) .none kVF16 dcF16 pmF16 anF16 cdF16 ctF16), slF16⟩)
    (cF16 : PySem.W.codeIn K cdF16 "all_tied" = true)
    (kF16 : PySem.W.keepIn K (.ref g16) = true)
    (aF17 : PySem.W.nsIn K mainGlobals "two_sides" = some (some (.ref g17)))
    (lF17 : K.lookup g17 = some ⟨ocF17, odF17, .func (PySem.W.fnOf "two_sides" "two_sides" (defArgs (tp 32)) (defBody (tp 32)) (defScope (tp 32)) .none kVF17 dcF17 pmF17 anF17 cdF17 ctF17), slF17⟩)
    (cF17 : PySem.W.codeIn K cdF17 "two_sides" = true)
    (kF17 : PySem.W.keepIn K (.ref g17) = true)
    (aF18 : PySem.W.nsIn K mainGlobals "ring_ties" = some (some (.ref g18)))
    (lF18 : K.lookup g18 = some ⟨ocF18, odF18, .func (PySem.W.fnOf "ring_ties" "ring_ties" (defArgs (tp 33)) (defBody (tp 33)) (defScope (tp 33)) .none kVF18 dcF18 pmF18 anF18 cdF18 ctF18), slF18⟩)
    (cF18 : PySem.W.codeIn K cdF18 "ring_ties" = true)
    (kF18 : PySem.W.keepIn K (.ref g18) = true)
    (aF19 : PySem.W.nsIn K mainGlobals "ring" = some (some (.ref g19)))
    (lF19 : K.lookup g19 = some ⟨ocF19, odF19, .func (PySem.W.fnOf "ring" "ring" (defArgs (tp 34)) (defBody (tp 34)) (defScope (tp 34)) .none kVF19 dcF19 pmF19 anF19 cdF19 ctF19), slF19⟩)
    (cF19 : PySem.W.codeIn K cdF19 "ring" = true)
    (kF19 : PySem.W.keepIn K (.ref g19) = true)
    (aF20 : PySem.W.nsIn K mainGlobals "wheel" = some (some (.ref g20)))
    (lF20 : K.lookup g20 = some ⟨ocF20, odF20, .func (PySem.W.fnOf "wheel" "wheel" (defArgs (tp 35)) (defBody (tp 35)) (defScope (tp 35)) .none kVF20 dcF20 pmF20 anF20 cdF20 ctF20), slF20⟩)
    (cF20 : PySem.W.codeIn K cdF20 "wheel" = true)
    (kF20 : PySem.W.keepIn K (.ref g20) = true)
    (aF21 : PySem.W.nsIn K mainGlobals "eight_web" = some (some (.ref g21)))
    (lF21 : K.lookup g21 = some ⟨ocF21, odF21, .func (PySem.W.fnOf "eight_web" "eight_web" (defArgs (tp 36)) (defBody (tp 36)) (defScope (tp 36)) .none kVF21 dcF21 pmF21 anF21 cdF21 ctF21), slF21⟩)
    (cF21 : PySem.W.codeIn K cdF21 "eight_web" = true)
    (kF21 : PySem.W.keepIn K (.ref g21) = true)
    (aF22 : PySem.W.nsIn K mainGlobals "prism" = some (some (.ref g22)))
    (lF22 : K.lookup g22 = some ⟨ocF22, odF22, .func (PySem.W.fnOf "prism" "prism" (defArgs (tp 37)) (defBody (tp 37)) (defScope (tp 37)) .none kVF22 dcF22 pmF22 anF22 cdF22 ctF22), slF22⟩)
    (cF22 : PySem.W.codeIn K cdF22 "prism" = true)
    (kF22 : PySem.W.keepIn K (.ref g22) = true)
    (aF23 : PySem.W.nsIn K mainGlobals "grid" = some (some (.ref g23)))
    (lF23 : K.lookup g23 = some ⟨ocF23, odF23, .func (PySem.W.fnOf "grid" "grid" (defArgs (tp 38)) (defBody (tp 38)) (defScope (tp 38)) .none kVF23 dcF23 pmF23 anF23 cdF23 ctF23), slF23⟩)
    (cF23 : PySem.W.codeIn K cdF23 "grid" = true)
    (kF23 : PySem.W.keepIn K (.ref g23) = true)
    (aF24 : PySem.W.nsIn K mainGlobals "petersen_web" = some (some (.ref g24)))
    (lF24 : K.lookup g24 = some ⟨ocF24, odF24, .func (PySem.W.fnOf "petersen_web" "petersen_web" (defArgs (tp 39)) (defBody (tp 39)) (defScope (tp 39)) .none kVF24 dcF24 pmF24 anF24 cdF24 ctF24), slF24⟩)
    (cF24 : PySem.W.codeIn K cdF24 "petersen_web" = true)
    (kF24 : PySem.W.keepIn K (.ref g24) = true)
    (aF25 : PySem.W.nsIn K mainGlobals "_law_odd_number" = some (some (.ref g25)))
    (lF25 : K.lookup g25 = some ⟨ocF25, odF25, .func (PySem.W.fnOf "_law_odd_number" "_law_odd_number" (defArgs (tp 44)) (defBody (tp 44)) (defScope (tp 44)) .none kVF25 dcF25 pmF25 anF25 cdF25 ctF25), slF25⟩)
    (cF25 : PySem.W.codeIn K cdF25 "_law_odd_number" = true)
    (kF25 : PySem.W.keepIn K (.ref g25) = true)
    (aF26 : PySem.W.nsIn K mainGlobals "_law_ends" = some (some (.ref g26)))
    (lF26 : K.lookup g26 = some ⟨ocF26, odF26, .func (PySem.W.fnOf "_law_ends" "_law_ends" (defArgs (tp 47)) (defBody (tp 47)) (defScope (tp 47)) .none kVF26 dcF26 pmF26 anF26 cdF26 ctF26), slF26⟩)
    (cF26 : PySem.W.codeIn K cdF26 "_law_ends" = true)
    (kF26 : PySem.W.keepIn K (.ref g26) = true)
    (aF27 : PySem.W.nsIn K mainGlobals "_law_tied" = some (some (.ref g27)))
    (lF27 : K.lookup g27 = some ⟨ocF27, odF27, .func (PySem.W.fnOf "_law_tied" "_law_tied" (defArgs (tp 48)) (defBody (tp 48)) (defScope (tp 48)) .none kVF27 dcF27 pmF27 anF27 cdF27 ctF27), slF27⟩)
    (cF27 : PySem.W.codeIn K cdF27 "_law_tied" = true)
    (kF27 : PySem.W.keepIn K (.ref g27) = true)
    (aF28 : PySem.W.nsIn K mainGlobals "_law_ring" = some (some (.ref g28)))
    (lF28 : K.lookup g28 = some ⟨ocF28, odF28, .func (PySem.W.fnOf "_law_ring" "_law_ring" (defArgs (tp 49)) (defBody (tp 49)) (defScope (tp 49)) .none kVF28 dcF28 pmF28 anF28 cdF28 ctF28), slF28⟩)
    (cF28 : PySem.W.codeIn K cdF28 "_law_ring" = true)
    (kF28 : PySem.W.keepIn K (.ref g28) = true)
    (aF29 : PySem.W.nsIn K mainGlobals "_law_fault" = some (some (.ref g29)))
    (lF29 : K.lookup g29 = some ⟨ocF29, odF29, .func (PySem.W.fnOf "_law_fault" "_law_fault" (defArgs (tp 45)) (defBody (tp 45)) (defScope (tp 45)) .none kVF29 dcF29 pmF29 anF29 cdF29 ctF29), slF29⟩)
    (cF29 : PySem.W.codeIn K cdF29 "_law_fault" = true)
    (kF29 : PySem.W.keepIn K (.ref g29) = true)
    (aF30 : PySem.W.nsIn K mainGlobals "_law_are_due" = some (some (.ref g30)))
    (lF30 : K.lookup g30 = some ⟨ocF30, odF30, .func (PySem.W.fnOf "_law_are_due" "_law_are_due" (defArgs (tp 46)) (defBody (tp 46)) (defScope (tp 46)) .none kVF30 dcF30 pmF30 anF30 cdF30 ctF30), slF30⟩)
    (cF30 : PySem.W.codeIn K cdF30 "_law_are_due" = true)
    (kF30 : PySem.W.keepIn K (.ref g30) = true)
    (aF31 : PySem.W.nsIn K mainGlobals "law" = some (some (.ref g31)))
    (lF31 : K.lookup g31 = some ⟨ocF31, odF31, .func (PySem.W.fnOf "law" "law" (defArgs (tp 50)) (defBody (tp 50)) (defScope (tp 50)) .none kVF31 dcF31 pmF31 anF31 (.ref cL) ctF31), slF31⟩)
    (cF31 : PySem.W.codeIn K (.ref cL) "law" = true)
    (kF31 : PySem.W.keepIn K (.ref g31) = true)
    (lCM0 : K.lookup cL = some ⟨.type "code", ddM0, .fields vsM0, slM0⟩)
    (hTM0 : vsM0[11]? = some (.ref TL))
    (nTM0 : K.lookup TL = none)
    (hBM0 : codeHdB vsM0 cL TL = true)
    (z_isinstance : PySem.W.nsIn K mainGlobals "isinstance" = some none)
    (z_tuple : PySem.W.nsIn K mainGlobals "tuple" = some none)
    (z_list : PySem.W.nsIn K mainGlobals "list" = some none)
    (z_int : PySem.W.nsIn K mainGlobals "int" = some none)
    (z_bool : PySem.W.nsIn K mainGlobals "bool" = some none)
    (z_len : PySem.W.nsIn K mainGlobals "len" = some none)
    (z_all : PySem.W.nsIn K mainGlobals "all" = some none)
    (z_any : PySem.W.nsIn K mainGlobals "any" = some none)
    (z_sorted : PySem.W.nsIn K mainGlobals "sorted" = some none)
    (z_range : PySem.W.nsIn K mainGlobals "range" = some none)
    (z_min : PySem.W.nsIn K mainGlobals "min" = some none)
    (z_max : PySem.W.nsIn K mainGlobals "max" = some none)
    (z_abs : PySem.W.nsIn K mainGlobals "abs" = some none)
    (z_repr : PySem.W.nsIn K mainGlobals "repr" = some none)
    (z_combinations : PySem.W.nsIn K mainGlobals "combinations" = some (some (.type "itertools.combinations")))
    (i_MOST_SIZE : PySem.W.nsIn K mainGlobals "MOST_SIZE" = some (some (.int 12 t_MOST_SIZE)))
    (i_MOST_TIES : PySem.W.nsIn K mainGlobals "MOST_TIES" = some (some (.int 40 t_MOST_TIES)))
    (i_MOST_LOTS : PySem.W.nsIn K mainGlobals "MOST_LOTS" = some (some (.int 400 t_MOST_LOTS)))
    (nd : (CW :: [C0, C1, C2, C3, C4, C5, C6] : List Addr).Nodup)
    : ∃ (fd : FuncData), (∀ T ∈ ([⟨cL, TL, lamQ⟩] : List TabI).map (·.tab), K.lookup T = none) ∧ (∀ t ∈ ([⟨cL, TL, lamQ⟩] : List TabI), PySem.W.CodeHd h t.code t.tab) ∧ (∀ (s : Shared) (u : Value), BindsTo s fd ⟨[u], []⟩ [("script", u)]) ∧
      ∀ base : Heap, K.In base → base.Ns mainGlobals mg → (∀ t ∈ ([⟨cL, TL, lamQ⟩] : List TabI), LamX.TabB base mg t.code t.tab) → FnG P w K mg base 10 fa fd ["script"] (rLaw TL) := by
  have e := hfa.symm.trans (PySem.W.mg_of X G aF31)
  cases e
  have XW : Xl K CW veL := ⟨_, _, _, _, _, _, _, _, _, _, _, _, _, _, xW⟩
  have gW := PySem.W.mg_of X G aW
  have X0 : Xl K C0 (.ref CW :: veL) := ⟨_, _, _, _, _, _, _, _, _, _, _, _, _, _, xE0⟩
  have FE0 := fun_mk (st := (inClass (tp 5) 0)) lE0 cE0 kE0
  have R0 : ∀ base, ErK P w K mg base C0 ["lot"] ∧ ExcC K C0 := fun base => erk_of (names := ["lot"]) XW gW rdW gaW vW hn ht X0 saE0 gaE0 ggE0 haE0 kcE0 icE0 tiE0
    (by intro y hy; simp only [List.mem_cons, List.not_mem_nil, or_false] at hy; rcases hy with rfl; exact n0E0)
    FE0 ⟨rfl, rfl, rfl, by decide +kernel, rfl, by decide +kernel, by decide +kernel⟩ rfl (by first | exact .nil | exact .cons .nil | exact .cons (.cons .nil) | exact .cons (.cons (.cons .nil))) rfl (by decide +kernel) (by decide +kernel) (by decide) (fun _ => ⟨_, rfl⟩)
    (FE0.binds (ps := ["self", "lot"]) fun _ _ _ _ _ _ us hl => match us, hl with | [_, _], _ => rfl) (fun s self ws hl => match ws, hl with | [_], _ => .of_eq (by first | rfl | with_unfolding_all rfl | kernel_rfl))
  have X1 : Xl K C1 (.ref CW :: veL) := ⟨_, _, _, _, _, _, _, _, _, _, _, _, _, _, xE1⟩
  have FE1 := fun_mk (st := (inClass (tp 3) 0)) lE1 cE1 kE1
  have R1 : ∀ base, ErK P w K mg base C1 ["what", "number"] ∧ ExcC K C1 := fun base => erk_of (names := ["what", "number"]) XW gW rdW gaW vW hn ht X1 saE1 gaE1 ggE1 haE1 kcE1 icE1 tiE1
    (by
      intro y hy
      simp only [List.mem_cons, List.not_mem_nil, or_false] at hy
      rcases hy with rfl | rfl
      · exact n0E1
      · exact n1E1)
    FE1 ⟨rfl, rfl, rfl, by decide +kernel, rfl, by decide +kernel, by decide +kernel⟩ rfl (by first | exact .nil | exact .cons .nil | exact .cons (.cons .nil) | exact .cons (.cons (.cons .nil))) rfl (by decide +kernel) (by decide +kernel) (by decide) (fun _ => ⟨_, rfl⟩)
    (FE1.binds (ps := ["self", "what", "number"]) fun _ _ _ _ _ _ us hl => match us, hl with | [_, _, _], _ => rfl) (fun s self ws hl => match ws, hl with | [_, _], _ => .of_eq (by first | rfl | with_unfolding_all rfl | kernel_rfl))
  have X2 : Xl K C2 (.ref CW :: veL) := ⟨_, _, _, _, _, _, _, _, _, _, _, _, _, _, xE2⟩
  have FE2 := fun_mk (st := (inClass (tp 6) 0)) lE2 cE2 kE2
  have R2 : ∀ base, ErK P w K mg base C2 ["row"] ∧ ExcC K C2 := fun base => erk_of (names := ["row"]) XW gW rdW gaW vW hn ht X2 saE2 gaE2 ggE2 haE2 kcE2 icE2 tiE2
    (by intro y hy; simp only [List.mem_cons, List.not_mem_nil, or_false] at hy; rcases hy with rfl; exact n0E2)
    FE2 ⟨rfl, rfl, rfl, by decide +kernel, rfl, by decide +kernel, by decide +kernel⟩ rfl (by first | exact .nil | exact .cons .nil | exact .cons (.cons .nil) | exact .cons (.cons (.cons .nil))) rfl (by decide +kernel) (by decide +kernel) (by decide) (fun _ => ⟨_, rfl⟩)
    (FE2.binds (ps := ["self", "row"]) fun _ _ _ _ _ _ us hl => match us, hl with | [_, _], _ => rfl) (fun s self ws hl => match ws, hl with | [_], _ => .of_eq (by first | rfl | with_unfolding_all rfl | kernel_rfl))
  have X3 : Xl K C3 (.ref CW :: veL) := ⟨_, _, _, _, _, _, _, _, _, _, _, _, _, _, xE3⟩
  have FE3 := fun_mk (st := (inClass (tp 7) 0)) lE3 cE3 kE3
  have R3 : ∀ base, ErK P w K mg base C3 ["table"] ∧ ExcC K C3 := fun base => erk_of (names := ["table"]) XW gW rdW gaW vW hn ht X3 saE3 gaE3 ggE3 haE3 kcE3 icE3 tiE3
    (by intro y hy; simp only [List.mem_cons, List.not_mem_nil, or_false] at hy; rcases hy with rfl; exact n0E3)
    FE3 ⟨rfl, rfl, rfl, by decide +kernel, rfl, by decide +kernel, by decide +kernel⟩ rfl (by first | exact .nil | exact .cons .nil | exact .cons (.cons .nil) | exact .cons (.cons (.cons .nil))) rfl (by decide +kernel) (by decide +kernel) (by decide) (fun _ => ⟨_, rfl⟩)
    (FE3.binds (ps := ["self", "table"]) fun _ _ _ _ _ _ us hl => match us, hl with | [_, _], _ => rfl) (fun s self ws hl => match ws, hl with | [_], _ => .of_eq (by first | rfl | with_unfolding_all rfl | kernel_rfl))
  have X4 : Xl K C4 (.ref CW :: veL) := ⟨_, _, _, _, _, _, _, _, _, _, _, _, _, _, xE4⟩
  have FE4 := fun_mk (st := (inClass (tp 4) 0)) lE4 cE4 kE4
  have R4 : ∀ base, ErK P w K mg base C4 ["what", "value"] ∧ ExcC K C4 := fun base => erk_of (names := ["what", "value"]) XW gW rdW gaW vW hn ht X4 saE4 gaE4 ggE4 haE4 kcE4 icE4 tiE4
    (by
      intro y hy
      simp only [List.mem_cons, List.not_mem_nil, or_false] at hy
      rcases hy with rfl | rfl
      · exact n0E4
      · exact n1E4)
    FE4 ⟨rfl, rfl, rfl, by decide +kernel, rfl, by decide +kernel, by decide +kernel⟩ rfl (by first | exact .nil | exact .cons .nil | exact .cons (.cons .nil) | exact .cons (.cons (.cons .nil))) rfl (by decide +kernel) (by decide +kernel) (by decide) (fun _ => ⟨_, rfl⟩)
    (FE4.binds (ps := ["self", "what", "value"]) fun _ _ _ _ _ _ us hl => match us, hl with | [_, _, _], _ => rfl) (fun s self ws hl => match ws, hl with | [_, _], _ => .of_eq (by first | rfl | with_unfolding_all rfl | kernel_rfl))
  have X5 : Xl K C5 (.ref CW :: veL) := ⟨_, _, _, _, _, _, _, _, _, _, _, _, _, _, xE5⟩
  have FE5 := fun_mk (st := (inClass (tp 9) 0)) lE5 cE5 kE5
  have R5 : ∀ base, ErK P w K mg base C5 ["what", "many", "limit"] ∧ ExcC K C5 := fun base => erk_of (names := ["what", "many", "limit"]) XW gW rdW gaW vW hn ht X5 saE5 gaE5 ggE5 haE5 kcE5 icE5 tiE5
    (by
      intro y hy
      simp only [List.mem_cons, List.not_mem_nil, or_false] at hy
      rcases hy with rfl | rfl | rfl
      · exact n0E5
      · exact n1E5
      · exact n2E5)
    FE5 ⟨rfl, rfl, rfl, by decide +kernel, rfl, by decide +kernel, by decide +kernel⟩ rfl (by first | exact .nil | exact .cons .nil | exact .cons (.cons .nil) | exact .cons (.cons (.cons .nil))) rfl (by decide +kernel) (by decide +kernel) (by decide) (fun _ => ⟨_, rfl⟩)
    (FE5.binds (ps := ["self", "what", "many", "limit"]) fun _ _ _ _ _ _ us hl => match us, hl with | [_, _, _, _], _ => rfl) (fun s self ws hl => match ws, hl with | [_, _, _], _ => .of_eq (by first | rfl | with_unfolding_all rfl | kernel_rfl))
  have X6 : Xl K C6 (.ref CW :: veL) := ⟨_, _, _, _, _, _, _, _, _, _, _, _, _, _, xE6⟩
  have FE6 := fun_mk (st := (inClass (tp 8) 0)) lE6 cE6 kE6
  have R6 : ∀ base, ErK P w K mg base C6 ["what"] ∧ ExcC K C6 := fun base => erk_of (names := ["what"]) XW gW rdW gaW vW hn ht X6 saE6 gaE6 ggE6 haE6 kcE6 icE6 tiE6
    (by intro y hy; simp only [List.mem_cons, List.not_mem_nil, or_false] at hy; rcases hy with rfl; exact n0E6)
    FE6 ⟨rfl, rfl, rfl, by decide +kernel, rfl, by decide +kernel, by decide +kernel⟩ rfl (by first | exact .nil | exact .cons .nil | exact .cons (.cons .nil) | exact .cons (.cons (.cons .nil))) rfl (by decide +kernel) (by decide +kernel) (by decide) (fun _ => ⟨_, rfl⟩)
    (FE6.binds (ps := ["self", "what"]) fun _ _ _ _ _ _ us hl => match us, hl with | [_, _], _ => rfl) (fun s self ws hl => match ws, hl with | [_], _ => .of_eq (by first | rfl | with_unfolding_all rfl | kernel_rfl))
  have D0 := fun_mk (st := (tp 41)) lF0 cF0 kF0
  have b0 := D0.binds (ps := ["script"]) fun _ _ _ _ _ _ us hl => match us, hl with | [_], _ => rfl
  have D1 := fun_mk (st := (tp 42)) lF1 cF1 kF1
  have b1 := D1.binds (ps := ["pen", "many"]) fun _ _ _ _ _ _ us hl => match us, hl with | [_, _], _ => rfl
  have D2 := fun_mk (st := (tp 43)) lF2 cF2 kF2
  have b2 := D2.binds (ps := ["pen", "some"]) fun _ _ _ _ _ _ us hl => match us, hl with | [_, _], _ => rfl
  have D3 := fun_mk (st := (tp 11)) lF3 cF3 kF3
  have b3 := D3.binds (ps := ["value"]) fun _ _ _ _ _ _ us hl => match us, hl with | [_], _ => rfl
  have D4 := fun_mk (st := (tp 13)) lF4 cF4 kF4
  have b4 := D4.binds (ps := ["value", "many"]) fun _ _ _ _ _ _ us hl => match us, hl with | [_, _], _ => rfl
  have D5 := fun_mk (st := (tp 12)) lF5 cF5 kF5
  have b5 := D5.binds (ps := ["value"]) fun _ _ _ _ _ _ us hl => match us, hl with | [_], _ => rfl
  have D6 := fun_mk (st := (tp 20)) lF6 cF6 kF6
  have b6 := D6.binds (ps := ["size", "value"]) fun _ _ _ _ _ _ us hl => match us, hl with | [_, _], _ => rfl
  have D7 := fun_mk (st := (tp 22)) lF7 cF7 kF7
  have b7 := D7.binds (ps := ["web"]) fun _ _ _ _ _ _ us hl => match us, hl with | [_], _ => rfl
  have D8 := fun_mk (st := (tp 14)) lF8 cF8 kF8
  have b8 := D8.binds (ps := ["what", "number", "low", "high"]) fun _ _ _ _ _ _ us hl => match us, hl with | [_, _, _, _], _ => rfl
  have D9 := fun_mk (st := (tp 23)) lF9 cF9 kF9
  have b9 := D9.binds (ps := ["web", "place"]) fun _ _ _ _ _ _ us hl => match us, hl with | [_, _], _ => rfl
  have D10 := fun_mk (st := (tp 24)) lF10 cF10 kF10
  have b10 := D10.binds (ps := ["web"]) fun _ _ _ _ _ _ us hl => match us, hl with | [_], _ => rfl
  have D11 := fun_mk (st := (tp 25)) lF11 cF11 kF11
  have b11 := D11.binds (ps := ["lots", "what"]) fun _ _ _ _ _ _ us hl => match us, hl with | [_, _], _ => rfl
  have D12 := fun_mk (st := (tp 26)) lF12 cF12 kF12
  have b12 := D12.binds (ps := ["web"]) fun _ _ _ _ _ _ us hl => match us, hl with | [_], _ => rfl
  have D13 := fun_mk (st := (tp 27)) lF13 cF13 kF13
  have b13 := D13.binds (ps := ["web"]) fun _ _ _ _ _ _ us hl => match us, hl with | [_], _ => rfl
  have D14 := fun_mk (st := (tp 28)) lF14 cF14 kF14
  have b14 := D14.binds (ps := ["web"]) fun _ _ _ _ _ _ us hl => match us, hl with | [_], _ => rfl
  have D15 := fun_mk (st := (tp 29)) lF15 cF15 kF15
  have b15 := D15.binds (ps := ["web"]) fun _ _ _ _ _ _ us hl => match us, hl with | [_], _ => rfl
  have D16 := fun_mk (st := (tp 31)) lF16 cF16 kF16
  have b16 := D16.binds (ps := ["size"]) fun _ _ _ _ _ _ us hl => match us, hl with | [_], _ => rfl
  have D17 := fun_mk (st := (tp 32)) lF17 cF17 kF17
  have b17 := D17.binds (ps := ["a", "b"]) fun _ _ _ _ _ _ us hl => match us, hl with | [_, _], _ => rfl
  have D18 := fun_mk (st := (tp 33)) lF18 cF18 kF18
  have b18 := D18.binds (ps := ["size", "start"]) fun _ _ _ _ _ _ us hl => match us, hl with | [_, _], _ => rfl
  have D19 := fun_mk (st := (tp 34)) lF19 cF19 kF19
  have b19 := D19.binds (ps := ["size"]) fun _ _ _ _ _ _ us hl => match us, hl with | [_], _ => rfl
  have D20 := fun_mk (st := (tp 35)) lF20 cF20 kF20
  have b20 := D20.binds (ps := ["spokes"]) fun _ _ _ _ _ _ us hl => match us, hl with | [_], _ => rfl
  have D21 := fun_mk (st := (tp 36)) lF21 cF21 kF21
  have b21 := D21.binds (ps := []) fun _ _ _ _ _ _ us hl => match us, hl with | [], _ => rfl
  have D22 := fun_mk (st := (tp 37)) lF22 cF22 kF22
  have b22 := D22.binds (ps := ["sides"]) fun _ _ _ _ _ _ us hl => match us, hl with | [_], _ => rfl
  have D23 := fun_mk (st := (tp 38)) lF23 cF23 kF23
  have b23 := D23.binds (ps := ["a", "b"]) fun _ _ _ _ _ _ us hl => match us, hl with | [_, _], _ => rfl
  have D24 := fun_mk (st := (tp 39)) lF24 cF24 kF24
  have b24 := D24.binds (ps := []) fun _ _ _ _ _ _ us hl => match us, hl with | [], _ => rfl
  have D25 := fun_mk (st := (tp 44)) lF25 cF25 kF25
  have b25 := D25.binds (ps := ["pen", "low", "high"]) fun _ _ _ _ _ _ us hl => match us, hl with | [_, _, _], _ => rfl
  have D26 := fun_mk (st := (tp 47)) lF26 cF26 kF26
  have b26 := D26.binds (ps := ["size", "ties"]) fun _ _ _ _ _ _ us hl => match us, hl with | [_, _], _ => rfl
  have D27 := fun_mk (st := (tp 48)) lF27 cF27 kF27
  have b27 := D27.binds (ps := ["size"]) fun _ _ _ _ _ _ us hl => match us, hl with | [_], _ => rfl
  have D28 := fun_mk (st := (tp 49)) lF28 cF28 kF28
  have b28 := D28.binds (ps := ["size", "start"]) fun _ _ _ _ _ _ us hl => match us, hl with | [_, _], _ => rfl
  have D29 := fun_mk (st := (tp 45)) lF29 cF29 kF29
  have b29 := D29.binds (ps := ["work"]) fun _ _ _ _ _ _ us hl => match us, hl with | [_], _ => rfl
  have D30 := fun_mk (st := (tp 46)) lF30 cF30 kF30
  have b30 := D30.binds (ps := ["tries"]) fun _ _ _ _ _ _ us hl => match us, hl with | [_], _ => rfl
  have D31 := fun_mk (st := (tp 50)) lF31 cF31 kF31
  have b31 := D31.binds (ps := ["script"]) fun _ _ _ _ _ _ us hl => match us, hl with | [_], _ => rfl
  have n_isinstance := PySem.W.mg_none_of X G z_isinstance
  have n_tuple := PySem.W.mg_none_of X G z_tuple
  have n_list := PySem.W.mg_none_of X G z_list
  have n_int := PySem.W.mg_none_of X G z_int
  have n_bool := PySem.W.mg_none_of X G z_bool
  have n_len := PySem.W.mg_none_of X G z_len
  have n_all := PySem.W.mg_none_of X G z_all
  have n_any := PySem.W.mg_none_of X G z_any
  have n_sorted := PySem.W.mg_none_of X G z_sorted
  have n_range := PySem.W.mg_none_of X G z_range
  have n_min := PySem.W.mg_none_of X G z_min
  have n_max := PySem.W.mg_none_of X G z_max
  have n_abs := PySem.W.mg_none_of X G z_abs
  have n_repr := PySem.W.mg_none_of X G z_repr
  have m_combinations := PySem.W.mg_of X G z_combinations
  have m_MOST_SIZE := PySem.W.mg_of X G i_MOST_SIZE
  have m_MOST_TIES := PySem.W.mg_of X G i_MOST_TIES
  have m_MOST_LOTS := PySem.W.mg_of X G i_MOST_LOTS
  have ownW : OwnC K KW := ⟨⟨pgOW, hdOW, poOW, saOW⟩, haOW, hn, ht, mrOW, by
      intro T hT
      simp only [List.mem_cons, List.not_mem_nil, or_false] at hT
      rcases hT with rfl | rfl | rfl | rfl | rfl | rfl | rfl
      · exact q0OW
      · exact q1OW
      · exact q2OW
      · exact q3OW
      · exact q4OW
      · exact q5OW
      · exact q6OW⟩
  have freeW : ∀ y ∈ (["size", "ties"] : List Str), NoAttr K KW y := by
    intro y hy
    simp only [List.mem_cons, List.not_mem_nil, or_false] at hy
    rcases hy with rfl | rfl
    · exact n0OW
    · exact n1OW
  have FoW := fun_mk (st := (inClass (tp 19) 0)) lOW cOW kOW
  have BoW := FoW.binds (ps := ["self", "size", "ties"]) fun _ _ _ _ _ _ us hl => match us, hl with | [_, _, _], _ => rfl
  have MoW : Mk K KW fIW := ⟨mkOW, icOW, fnOW, kcOW⟩
  have goW := PySem.W.mg_of X G aOW
  refine ⟨PySem.W.fnOf "law" "law" (defArgs (tp 50)) (defBody (tp 50)) (defScope (tp 50)) .none kVF31 dcF31 pmF31 anF31 (.ref cL) ctF31, fun T hT => ?_, fun t hT => ?_, fun s v => .of_eq rfl, fun base _ _ TBs => ?_⟩
  · simp only [List.map_cons, List.map_nil, List.mem_cons, List.not_mem_nil, or_false] at hT
    rcases hT with rfl
    · exact nTM0
  · simp only [List.map_cons, List.map_nil, List.mem_cons, List.not_mem_nil, or_false] at hT
    rcases hT with rfl
    · exact codeHd_of X lCM0 hTM0 hBM0
  have TB0 := TBs ⟨cL, TL, lamQ⟩ (by simp)
  have E7 := er7_of nd X0 X1 X2 X3 X4 X5 X6 (R0 base).1 (R1 base).1 (R2 base).1 (R3 base).1 (R4 base).1 (R5 base).1 (R6 base).1 (PySem.W.mg_of X G aE0) (PySem.W.mg_of X G aE1) (PySem.W.mg_of X G aE2) (PySem.W.mg_of X G aE3) (PySem.W.mg_of X G aE4) (PySem.W.mg_of X G aE5) (PySem.W.mg_of X G aE6)
  have B : Bi mg := ⟨n_isinstance, n_tuple, n_list, n_int, n_bool, n_len, n_all, n_any, n_sorted, n_range, n_min, n_max, n_abs, n_repr⟩
  have W : WebK K mg KW := ⟨ownW, goW, freeW⟩
  have p_law_pen : DefP P w K mg base 1 "_law_pen" ["script"] rPen := ⟨_, _, okPen D0 n_int n_list, PySem.W.mg_of X G aF0, kF0, b0⟩
  have p_law_draw : DefP P w K mg base 1 "_law_draw" ["pen", "many"] rDraw := ⟨_, _, okDraw D1 n_int n_len, PySem.W.mg_of X G aF1, kF1, b1⟩
  have p_law_pick : DefP P w K mg base 2 "_law_pick" ["pen", "some"] rPick := ⟨_, _, okPick D2 p_law_draw n_len, PySem.W.mg_of X G aF2, kF2, b2⟩
  have p_is_whole : DefP P w K mg base 1 "is_whole" ["value"] (rP (V1 fun x => .bl (wholeD x))) := ⟨_, _, okWhole D3 B, PySem.W.mg_of X G aF3, kF3, b3⟩
  have p_is_tuple_of : DefP P w K mg base 1 "is_tuple_of" ["value", "many"] (rP Vtupof) := ⟨_, _, okTupof D4 B, PySem.W.mg_of X G aF4, kF4, b4⟩
  have p_in_tuples : DefP P w K mg base 3 "in_tuples" ["value"] (rP (VinT 2)) := ⟨_, _, okInT D5 B (PySem.W.mg_of X G aF5) kF5 b5 2, PySem.W.mg_of X G aF5, kF5, b5⟩
  have p_is_tie : DefP P w K mg base 2 "is_tie" ["size", "value"] (rP VisTie) := ⟨_, _, okIsTie D6 p_is_whole p_is_tuple_of, PySem.W.mg_of X G aF6, kF6, b6⟩
  have Z : WebZ P w K mg base KW := ⟨_, _, MoW, okWebI FoW B ownW freeW m_MOST_SIZE m_MOST_TIES p_is_whole p_in_tuples p_is_tie, BoW⟩
  have p_need_web : DefP P w K mg base 3 "need_web" ["web"] (rR (VneedW KW C6)) := ⟨_, _, okNeedW D7 B W (R6 base).1 (PySem.W.mg_of X G aE6), PySem.W.mg_of X G aF7, kF7, b7⟩
  have p_need_between : DefP P w K mg base 3 "need_between" ["what", "number", "low", "high"] (rR (Vbetween C1)) := ⟨_, _, okBetween D8 (R1 base).1 (PySem.W.mg_of X G aE1) p_is_whole, PySem.W.mg_of X G aF8, kF8, b8⟩
  have p_ways_on : DefP P w K mg base 1 "ways_on" ["web", "place"] (rP (Vways KW)) := ⟨_, _, okWaysOn D9 B W, PySem.W.mg_of X G aF9, kF9, b9⟩
  have p_round_list : DefP P w K mg base 2 "round_list" ["web"] (rP (VrdL KW)) := ⟨_, _, okRoundL D10 B W p_ways_on, PySem.W.mg_of X G aF10, kF10, b10⟩
  have p_few : DefP P w K mg base 1 "few" ["lots", "what"] (rP Vfew4) := ⟨_, _, okFew4 D11 B m_MOST_LOTS, PySem.W.mg_of X G aF11, kF11, b11⟩
  have p_rounds : DefP P w K mg base 4 "rounds" ["web"] (rP (Vrounds KW)) := ⟨_, _, okRoundsW D12 p_need_web p_few p_round_list, PySem.W.mg_of X G aF12, kF12, b12⟩
  have p_forest_by : DefP P w K mg base 1 "forest_by" ["web"] (rP (Vforest KW)) := ⟨_, _, okForestBy D13 B W, PySem.W.mg_of X G aF13, kF13, b13⟩
  have p_many_even : DefP P w K mg base 4 "many_even" ["web"] (rP (Veven KW)) := ⟨_, _, okManyEven D14 B W p_need_web p_forest_by, PySem.W.mg_of X G aF14, kF14, b14⟩
  have p_many_cuts : DefP P w K mg base 4 "many_cuts" ["web"] (rP (Vcuts KW)) := ⟨_, _, okManyCuts D15 B W p_need_web p_forest_by, PySem.W.mg_of X G aF15, kF15, b15⟩
  have p_all_tied : DefP P w K mg base 6 "all_tied" ["size"] (rR (Vone KW C1 "size" 1 9 (fun n => n) atT)) := ⟨_, _, okAllTied D16 B W Z m_combinations p_need_between, PySem.W.mg_of X G aF16, kF16, b16⟩
  have p_two_sides : DefP P w K mg base 6 "two_sides" ["a", "b"] (rR (Vtwo2 KW C1)) := ⟨_, _, okTwoSides D17 B W Z p_need_between, PySem.W.mg_of X G aF17, kF17, b17⟩
  have p_ring_ties : DefP P w K mg base 1 "ring_ties" ["size", "start"] (rP VrgT) := ⟨_, _, okRingT D18 B, PySem.W.mg_of X G aF18, kF18, b18⟩
  have p_ring : DefP P w K mg base 6 "ring" ["size"] (rR (Vone KW C1 "size" 3 12 (fun n => n) fun n => rgT n 0)) := ⟨_, _, okRingW D19 B W Z m_MOST_SIZE p_need_between p_ring_ties, PySem.W.mg_of X G aF19, kF19, b19⟩
  have p_wheel : DefP P w K mg base 6 "wheel" ["spokes"] (rR (Vone KW C1 "spokes" 3 11 (fun n => n + 1) whT)) := ⟨_, _, okWheelW D20 B W Z m_MOST_SIZE p_need_between p_ring_ties, PySem.W.mg_of X G aF20, kF20, b20⟩
  have p_eight_web : DefP P w K mg base 6 "eight_web" [] (rP (Vconst KW 8 egT)) := ⟨_, _, okEightW D21 B W Z p_ring_ties, PySem.W.mg_of X G aF21, kF21, b21⟩
  have p_prism : DefP P w K mg base 6 "prism" ["sides"] (rR (Vone KW C1 "sides" 3 6 (fun n => 2 * n) prT)) := ⟨_, _, okPrismW D22 B W Z p_need_between p_ring_ties, PySem.W.mg_of X G aF22, kF22, b22⟩
  have p_grid : DefP P w K mg base 6 "grid" ["a", "b"] (rR (Vgrid2 KW C1 C5)) := ⟨_, _, okGridW D23 B W Z m_MOST_SIZE (R1 base).1 (PySem.W.mg_of X G aE1) (R5 base).1 (PySem.W.mg_of X G aE5) p_is_whole, PySem.W.mg_of X G aF23, kF23, b23⟩
  have p_petersen_web : DefP P w K mg base 6 "petersen_web" [] (rP (Vconst KW 10 ptT)) := ⟨_, _, okPeterW D24 B W Z p_ring_ties, PySem.W.mg_of X G aF24, kF24, b24⟩
  have p_law_odd_number : DefP P w K mg base 3 "_law_odd_number" ["pen", "low", "high"] rOddN := ⟨_, _, okOddN D25 p_law_pick, PySem.W.mg_of X G aF25, kF25, b25⟩
  have p_law_ends : DefP P w K mg base 1 "_law_ends" ["size", "ties"] (rP Vends) := ⟨_, _, okLEnds D26, PySem.W.mg_of X G aF26, kF26, b26⟩
  have p_law_tied : DefP P w K mg base 1 "_law_tied" ["size"] (rP VtiedL) := ⟨_, _, okLTied D27 B, PySem.W.mg_of X G aF27, kF27, b27⟩
  have p_law_ring : DefP P w K mg base 1 "_law_ring" ["size", "start"] (rP VrgT) := ⟨_, _, okLRing D28 B, PySem.W.mg_of X G aF28, kF28, b28⟩
  have p_law_fault : DefP P w K mg base 8 "_law_fault" ["work"] (rFault P w K mg base 6 (fun i => ([C0, C1, C2, C3, C4, C5, C6] : List Addr).get i)) := ⟨_, _, okFault D29 E7, PySem.W.mg_of X G aF29, kF29, b29⟩
  have p_law_are_due : DefP P w K mg base 9 "_law_are_due" ["tries"] (rDue P w K mg base 6 (fun i => ([C0, C1, C2, C3, C4, C5, C6] : List Addr).get i)) := ⟨_, _, okDue D30 p_law_fault n_all n_repr, PySem.W.mg_of X G aF30, kF30, b30⟩
  exact okLaw (C7 := (fun i => ([C0, C1, C2, C3, C4, C5, C6] : List Addr).get i)) D31 rfl TB0 p_law_pen ⟨B, W, p_law_draw, p_law_odd_number, p_law_tied, p_law_ring, p_law_ends, p_all_tied, p_two_sides, p_ring, p_wheel, p_prism, p_eight_web, p_petersen_web, p_grid, p_rounds, p_many_even, p_many_cuts, p_law_are_due⟩
end Law

open PySem PySem.W PyProof.Rows
set_option maxRecDepth 100000 in
set_option maxHeartbeats 0 in
theorem PySem.Challenge.cw_cutrounds_k07_webs_that_have_a_name_holds : PySem.Challenge.rw_cutrounds_k07_webs_that_have_a_name.Holds := by
  w_on; o_law; k_head; (case hw => w_witness2)
  k_fill
  refine' DL.walkTs (l := PySem.Challenge.rw_cutrounds_k07_webs_that_have_a_name) (n := 63) (k := 10) (x := "script") (tabs := [⟨_, _, Law.lamQ⟩]) (R := fun _ => Law.rLaw _) rfl (by decide) rfl ⟨rfl, by decide, by decide⟩ ?nd2 (fun w h Y => PySem.W.km_in_of Y) ?hT ?F (fun _ ns _ => ⟨ns, rfl, rfl, fun _ => rfl⟩)
  case F =>
    intro w mg fa h KX G hmg
    refine' Law.all_mk KX G hmg ?aW ?xW ?rdW ?gaW ?vW ?hn ?ht ?aE0 ?xE0 ?saE0 ?gaE0 ?ggE0 ?haE0 ?kcE0 ?icE0 ?tiE0 ?n0E0 ?lE0 ?cE0 ?kE0 ?aE1 ?xE1 ?saE1 ?gaE1 ?ggE1 ?haE1 ?kcE1 ?icE1 ?tiE1 ?n0E1 ?n1E1 ?lE1 ?cE1 ?kE1 ?aE2 ?xE2 ?saE2 ?gaE2 ?ggE2 ?haE2 ?kcE2 ?icE2 ?tiE2 ?n0E2 ?lE2 ?cE2 ?kE2 ?aE3 ?xE3 ?saE3 ?gaE3 ?ggE3 ?haE3 ?kcE3 ?icE3 ?tiE3 ?n0E3 ?lE3 ?cE3 ?kE3 ?aE4 ?xE4 ?saE4 ?gaE4 ?ggE4 ?haE4 ?kcE4 ?icE4 ?tiE4 ?n0E4 ?n1E4 ?lE4 ?cE4 ?kE4 ?aE5 ?xE5 ?saE5 ?gaE5 ?ggE5 ?haE5 ?kcE5 ?icE5 ?tiE5 ?n0E5 ?n1E5 ?n2E5 ?lE5 ?cE5 ?kE5 ?aE6 ?xE6 ?saE6 ?gaE6 ?ggE6 ?haE6 ?kcE6 ?icE6 ?tiE6 ?n0E6 ?lE6 ?cE6 ?kE6 ?aOW ?pgOW ?hdOW ?poOW ?saOW ?haOW ?mrOW ?q0OW ?q1OW ?q2OW ?q3OW ?q4OW ?q5OW ?q6OW ?n0OW ?n1OW ?mkOW ?icOW ?fnOW ?kcOW ?lOW ?cOW ?kOW ?aF0 ?lF0 ?cF0 ?kF0 ?aF1 ?lF1 ?cF1 ?kF1 ?aF2 ?lF2 ?cF2 ?kF2 ?aF3 ?lF3 ?cF3 ?kF3 ?aF4 ?lF4 ?cF4 ?kF4 ?aF5 ?lF5 ?cF5 ?kF5 ?aF6 ?lF6 ?cF6 ?kF6 ?aF7 ?lF7 ?cF7 ?kF7 ?aF8 ?lF8 ?cF8 ?kF8 ?aF9 ?lF9 ?cF9 ?kF9 ?aF10 ?lF10 ?cF10 ?kF10 ?aF11 ?lF11 ?cF11 ?kF11 ?aF12 ?lF12 ?cF12 ?kF12 ?aF13 ?lF13 ?cF13 ?kF13 ?aF14 ?lF14 ?cF14 ?kF14 ?aF15 ?lF15 ?cF15 ?kF15 ?aF16 ?lF16 ?cF16 ?kF16 ?aF17 ?lF17 ?cF17 ?kF17 ?aF18 ?lF18 ?cF18 ?kF18 ?aF19 ?lF19 ?cF19 ?kF19 ?aF20 ?lF20 ?cF20 ?kF20 ?aF21 ?lF21 ?cF21 ?kF21 ?aF22 ?lF22 ?cF22 ?kF22 ?aF23 ?lF23 ?cF23 ?kF23 ?aF24 ?lF24 ?cF24 ?kF24 ?aF25 ?lF25 ?cF25 ?kF25 ?aF26 ?lF26 ?cF26 ?kF26 ?aF27 ?lF27 ?cF27 ?kF27 ?aF28 ?lF28 ?cF28 ?kF28 ?aF29 ?lF29 ?cF29 ?kF29 ?aF30 ?lF30 ?cF30 ?kF30 ?aF31 ?lF31 ?cF31 ?kF31 ?lCM0 ?hTM0 ?nTM0 ?hBM0 ?z_isinstance ?z_tuple ?z_list ?z_int ?z_bool ?z_len ?z_all ?z_any ?z_sorted ?z_range ?z_min ?z_max ?z_abs ?z_repr ?z_combinations ?i_MOST_SIZE ?i_MOST_TIES ?i_MOST_LOTS ?nd
    (case aW => k_is)
    (case xW => k_is)
    (case rdW => k_is)
    (case gaW => k_is)
    (case vW => k_is)
    (case hn => k_is)
    (case ht => k_is)
    (case aE0 => k_is)
    (case xE0 => k_is)
    (case saE0 => k_is)
    (case gaE0 => k_is)
    (case ggE0 => k_is)
    (case haE0 => k_is)
    (case kcE0 => k_is)
    (case icE0 => k_is)
    (case tiE0 => k_is)
    (case n0E0 => k_is)
    (case lE0 => k_is)
    (case cE0 => k_is)
    (case kE0 => k_is)
    (case aE1 => k_is)
    (case xE1 => k_is)
    (case saE1 => k_is)
    (case gaE1 => k_is)
    (case ggE1 => k_is)
    (case haE1 => k_is)
    (case kcE1 => k_is)
    (case icE1 => k_is)
    (case tiE1 => k_is)
    (case n0E1 => k_is)
    (case n1E1 => k_is)
    (case lE1 => k_is)
    (case cE1 => k_is)
    (case kE1 => k_is)
    (case aE2 => k_is)
    (case xE2 => k_is)
    (case saE2 => k_is)
    (case gaE2 => k_is)
    (case ggE2 => k_is)
    (case haE2 => k_is)
    (case kcE2 => k_is)
    (case icE2 => k_is)
    (case tiE2 => k_is)
    (case n0E2 => k_is)
    (case lE2 => k_is)
    (case cE2 => k_is)
    (case kE2 => k_is)
    (case aE3 => k_is)
    (case xE3 => k_is)
    (case saE3 => k_is)
    (case gaE3 => k_is)
    (case ggE3 => k_is)
    (case haE3 => k_is)
    (case kcE3 => k_is)
    (case icE3 => k_is)
    (case tiE3 => k_is)
    (case n0E3 => k_is)
    (case lE3 => k_is)
    (case cE3 => k_is)
    (case kE3 => k_is)
    (case aE4 => k_is)
    (case xE4 => k_is)
    (case saE4 => k_is)
    (case gaE4 => k_is)
    (case ggE4 => k_is)
    (case haE4 => k_is)
    (case kcE4 => k_is)
    (case icE4 => k_is)
    (case tiE4 => k_is)
    (case n0E4 => k_is)
    (case n1E4 => k_is)
    (case lE4 => k_is)
    (case cE4 => k_is)
    (case kE4 => k_is)
    (case aE5 => k_is)
    (case xE5 => k_is)
    (case saE5 => k_is)
    (case gaE5 => k_is)
    (case ggE5 => k_is)
    (case haE5 => k_is)
    (case kcE5 => k_is)
    (case icE5 => k_is)
    (case tiE5 => k_is)
    (case n0E5 => k_is)
    (case n1E5 => k_is)
    (case n2E5 => k_is)
    (case lE5 => k_is)
    (case cE5 => k_is)
    (case kE5 => k_is)
    (case aE6 => k_is)
    (case xE6 => k_is)
    (case saE6 => k_is)
    (case gaE6 => k_is)
    (case ggE6 => k_is)
    (case haE6 => k_is)
    (case kcE6 => k_is)
    (case icE6 => k_is)
    (case tiE6 => k_is)
    (case n0E6 => k_is)
    (case lE6 => k_is)
    (case cE6 => k_is)
    (case kE6 => k_is)
    (case aOW => k_is)
    (case pgOW => first | k_is | kernel_rfl)
    (case hdOW => first | k_is | kernel_rfl)
    (case poOW => first | k_is | kernel_rfl)
    (case saOW => k_is)
    (case haOW => k_is)
    (case mrOW => first | k_is | kernel_rfl)
    (case q0OW => first | k_is | kernel_rfl)
    (case q1OW => first | k_is | kernel_rfl)
    (case q2OW => first | k_is | kernel_rfl)
    (case q3OW => first | k_is | kernel_rfl)
    (case q4OW => first | k_is | kernel_rfl)
    (case q5OW => first | k_is | kernel_rfl)
    (case q6OW => first | k_is | kernel_rfl)
    (case n0OW => k_is)
    (case n1OW => k_is)
    (case mkOW => first | k_is | kernel_rfl)
    (case icOW => k_is)
    (case fnOW => first | k_is | kernel_rfl)
    (case kcOW => k_is)
    (case lOW => k_is)
    (case cOW => k_is)
    (case kOW => k_is)
    (case aF0 => k_is)
    (case lF0 => k_is)
    (case cF0 => k_is)
    (case kF0 => k_is)
    (case aF1 => k_is)
    (case lF1 => k_is)
    (case cF1 => k_is)
    (case kF1 => k_is)
    (case aF2 => k_is)
    (case lF2 => k_is)
    (case cF2 => k_is)
    (case kF2 => k_is)
    (case aF3 => k_is)
    (case lF3 => k_is)
    (case cF3 => k_is)
    (case kF3 => k_is)
    (case aF4 => k_is)
    (case lF4 => k_is)
    (case cF4 => k_is)
    (case kF4 => k_is)
    (case aF5 => k_is)
    (case lF5 => k_is)
    (case cF5 => k_is)
    (case kF5 => k_is)
    (case aF6 => k_is)
    (case lF6 => k_is)
    (case cF6 => k_is)
    (case kF6 => k_is)
    (case aF7 => k_is)
    (case lF7 => k_is)
    (case cF7 => k_is)
    (case kF7 => k_is)
    (case aF8 => k_is)
    (case lF8 => k_is)
    (case cF8 => k_is)
    (case kF8 => k_is)
    (case aF9 => k_is)
    (case lF9 => k_is)
    (case cF9 => k_is)
    (case kF9 => k_is)
    (case aF10 => k_is)
    (case lF10 => k_is)
    (case cF10 => k_is)
    (case kF10 => k_is)
    (case aF11 => k_is)
    (case lF11 => k_is)
    (case cF11 => k_is)
    (case kF11 => k_is)
    (case aF12 => k_is)
    (case lF12 => k_is)
    (case cF12 => k_is)
    (case kF12 => k_is)
    (case aF13 => k_is)
    (case lF13 => k_is)
    (case cF13 => k_is)
    (case kF13 => k_is)
    (case aF14 => k_is)
    (case lF14 => k_is)
    (case cF14 => k_is)
    (case kF14 => k_is)
    (case aF15 => k_is)
    (case lF15 => k_is)
    (case cF15 => k_is)
    (case kF15 => k_is)
    (case aF16 => k_is)
    (case lF16 => k_is)
    (case cF16 => k_is)
    (case kF16 => k_is)
    (case aF17 => k_is)
    (case lF17 => k_is)
    (case cF17 => k_is)
    (case kF17 => k_is)
    (case aF18 => k_is)
    (case lF18 => k_is)
    (case cF18 => k_is)
    (case kF18 => k_is)
    (case aF19 => k_is)
    (case lF19 => k_is)
    (case cF19 => k_is)
    (case kF19 => k_is)
    (case aF20 => k_is)
    (case lF20 => k_is)
    (case cF20 => k_is)
    (case kF20 => k_is)
    (case aF21 => k_is)
    (case lF21 => k_is)
    (case cF21 => k_is)
    (case kF21 => k_is)
    (case aF22 => k_is)
    (case lF22 => k_is)
    (case cF22 => k_is)
    (case kF22 => k_is)
    (case aF23 => k_is)
    (case lF23 => k_is)
    (case cF23 => k_is)
    (case kF23 => k_is)
    (case aF24 => k_is)
    (case lF24 => k_is)
    (case cF24 => k_is)
    (case kF24 => k_is)
    (case aF25 => k_is)
    (case lF25 => k_is)
    (case cF25 => k_is)
    (case kF25 => k_is)
    (case aF26 => k_is)
    (case lF26 => k_is)
    (case cF26 => k_is)
    (case kF26 => k_is)
    (case aF27 => k_is)
    (case lF27 => k_is)
    (case cF27 => k_is)
    (case kF27 => k_is)
    (case aF28 => k_is)
    (case lF28 => k_is)
    (case cF28 => k_is)
    (case kF28 => k_is)
    (case aF29 => k_is)
    (case lF29 => k_is)
    (case cF29 => k_is)
    (case kF29 => k_is)
    (case aF30 => k_is)
    (case lF30 => k_is)
    (case cF30 => k_is)
    (case kF30 => k_is)
    (case aF31 => k_is)
    (case lF31 => k_is)
    (case cF31 => k_is)
    (case kF31 => k_is)
    (case lCM0 => k_is)
    (case hTM0 => first | k_is | rfl | kernel_rfl | decide)
    (case nTM0 => first | kernel_rfl | rfl)
    (case hBM0 => first | k_is | rfl | kernel_rfl | decide)
    (case z_isinstance => k_is)
    (case z_tuple => k_is)
    (case z_list => k_is)
    (case z_int => k_is)
    (case z_bool => k_is)
    (case z_len => k_is)
    (case z_all => k_is)
    (case z_any => k_is)
    (case z_sorted => k_is)
    (case z_range => k_is)
    (case z_min => k_is)
    (case z_max => k_is)
    (case z_abs => k_is)
    (case z_repr => k_is)
    (case z_combinations => k_is)
    (case i_MOST_SIZE => k_is)
    (case i_MOST_TIES => k_is)
    (case i_MOST_LOTS => k_is)
    (case nd => decide)
  case nd2 => decide
  case hT =>
    intro w h Y T hm
    refine PySem.W.km_tabs_of Y T ?_
    simp only [List.map_cons, List.map_nil, List.mem_cons, List.not_mem_nil, or_false] at hm ⊢
    rcases hm with rfl <;> simp

