import PyProof.Rows.All
import Wide.All
import OpenK.AllK
import Wide.FinOn
import HandS.ForMost
import HandS.Exc
import HandS.TryOnly
import HandS.ExcOwn
import HandS.WordsExc
import HandS.IsInst
import HandS.Wide
import HandS.CallSlots
import HandS.Zip
import HandS.TupAny
import HandS.Style
import HandS.Defaults
import HandS.ExcValue
import HandS.ExcIs
import HandS.MakeKw
import HandS.Words
import HandS.Ends
import HandS.HeadEnd
import HandS.HeadHook1
import HandS.HeadHook2
import HandS.Head0
import HandS.Head1
import HandS.Head2
import HandS.Comp
import PySem.Challenge.RW_wireland_k03_whole_fractions_by_fraction
set_option Elab.async false
set_option linter.all false
set_option maxRecDepth 100000
set_option maxHeartbeats 4000000
/-! DL1: plain data, what stands for it in the heap, owned things, the environment. -/
namespace DL
open PySem PySem.Spec PyProof.Rows L2

/-- plain data -/
inductive DD where
  | non | bl (b : Bool) | int (i : Int) | str (s : Str)
  | tup (ds : List DD) | lst (ds : List DD) | ins (c : String) (ds : List DD) | exc (c : String) (ds : List DD)
/-- a thing that is owned: its lists may be changed -/
inductive OO where
  | dat (d : DD) | lst (os : List OO)
mutual
def DD.td : DD → Bool
  | .non => true | .bl _ => true | .int _ => true | .str _ => true
  | .tup ds => tdAll ds
  | .lst _ => false | .ins _ _ => false | .exc _ _ => false
def tdAll : List DD → Bool
  | [] => true
  | d :: ds => d.td && tdAll ds
end
mutual
def OO.view : OO → DD
  | .dat d => d
  | .lst os => .lst (viewAll os)
def viewAll : List OO → List DD
  | [] => []
  | o :: os => o.view :: viewAll os
end
theorem viewAll_map : ∀ os : List OO, viewAll os = os.map OO.view
  | [] => rfl
  | o :: os => by rw [viewAll, viewAll_map os]; rfl
theorem viewAll_dat : ∀ ds : List DD, viewAll (ds.map OO.dat) = ds
  | [] => rfl
  | d :: ds => by rw [List.map_cons, viewAll, viewAll_dat ds]; rfl
/-- the classes of the text: where each stands, its fields' names -/
structure Tab where
  cls : String → Option (Addr × List Str)
/-- an exception object that is held as a value -/
def ExH (a : Addr) (cls : Value) (dd : Option Addr) : HO := .ext fun h => ∃ (oe : Obj) (vs : Array Value), h.get? a = some oe ∧ Zc cls dd oe ∧ oe.data = .fields vs
mutual
inductive Rep (K : PySem.W.Frag) (T : Tab) (F : Hp) : V → DD → Prop
  | non : Rep K T F .non .non
  | bl (b : Bool) : Rep K T F (.bl b) (.bl b)
  | int (i : Int) : Rep K T F (.int i) (.int i)
  | str (s : Str) : Rep K T F (.str s) (.str s)
  | tup {a : Addr} {vs : List V} {ds : List DD} : SqT K F a vs → RepAll K T F vs ds → Rep K T F (.ref a) (.tup ds)
  | lst {a : Addr} {vs : List V} {ds : List DD} : SqL K F a vs → RepAll K T F vs ds → Rep K T F (.ref a) (.lst ds)
  | ins {a C dx : Addr} {fs : List (Str × V)} {c : String} {ns : List Str} {vs : List V} {ds : List DD} : T.cls c = some (C, ns) → F a = some (.ins C dx fs) → F dx = some (.own a) →
      (∀ (i : Nat) (n : Str) (v : V), ns[i]? = some n → vs[i]? = some v → fs.lookup n = some v) → vs.length = ns.length → RepAll K T F vs ds → Rep K T F (.ref a) (.ins c ds)
  | exc0 {a C : Addr} {c : String} : T.cls c = some (C, []) → F a = some (ExH a (.ref C) none) → Rep K T F (.ref a) (.exc c [])
  | excd {a C dx : Addr} {fs : List (Str × V)} {c : String} {ns : List Str} {vs : List V} {ds : List DD} : T.cls c = some (C, ns) → F a = some (ExH a (.ref C) (some dx)) → F dx = some (.xd fs) →
      (∀ (i : Nat) (n : Str) (v : V), ns[i]? = some n → vs[i]? = some v → fs.lookup n = some v) → vs.length = ns.length → RepAll K T F vs ds → Rep K T F (.ref a) (.exc c ds)
inductive RepAll (K : PySem.W.Frag) (T : Tab) (F : Hp) : List V → List DD → Prop
  | nil : RepAll K T F [] []
  | cons {v : V} {vs : List V} {d : DD} {ds : List DD} : Rep K T F v d → RepAll K T F vs ds → RepAll K T F (v :: vs) (d :: ds)
end
theorem Same.sqT {K : PySem.W.Frag} {H H' : Hp} {a : Addr} {xs : List V} (e : Same H H') (h : SqT K H a xs) : SqT K H' a xs := by
  rcases h with (h | ⟨o, h⟩) | h
  · exact .inl (.inl (e _ _ h))
  · exact .inl (.inr ⟨o, e _ _ h⟩)
  · exact .inr h
theorem Same.sqL {K : PySem.W.Frag} {H H' : Hp} {a : Addr} {xs : List V} (e : Same H H') (h : SqL K H a xs) : SqL K H' a xs := by
  rcases h with (h | ⟨o, h⟩) | h
  · exact .inl (.inl (e _ _ h))
  · exact .inl (.inr ⟨o, e _ _ h⟩)
  · exact .inr h
theorem Same.rd {H H' : Hp} {a : Addr} {u : HO} (e : Same H H') (h : Rd H a u) : Rd H' a u := by
  rcases h with h | ⟨o, h⟩
  · exact .inl (e _ _ h)
  · exact .inr ⟨o, e _ _ h⟩
section
variable {K : PySem.W.Frag} {T : Tab} {F F' H H' : Hp}
mutual
theorem Rep.mono (e : Same F F') : ∀ {v : V} {d : DD}, Rep K T F v d → Rep K T F' v d
  | _, _, .non => .non
  | _, _, .bl b => .bl b
  | _, _, .int i => .int i
  | _, _, .str s => .str s
  | _, _, .tup h r => .tup (Same.sqT e h) (RepAll.mono e r)
  | _, _, .lst h r => .lst (Same.sqL e h) (RepAll.mono e r)
  | _, _, .ins h1 h2 h3 h4 h5 r => .ins h1 (e _ _ h2) (e _ _ h3) h4 h5 (RepAll.mono e r)
  | _, _, .exc0 h1 h2 => .exc0 h1 (e _ _ h2)
  | _, _, .excd h1 h2 h3 h4 h5 r => .excd h1 (e _ _ h2) (e _ _ h3) h4 h5 (RepAll.mono e r)
theorem RepAll.mono (e : Same F F') : ∀ {vs : List V} {ds : List DD}, RepAll K T F vs ds → RepAll K T F' vs ds
  | _, _, .nil => .nil
  | _, _, .cons h r => .cons (Rep.mono e h) (RepAll.mono e r)
end
theorem RepAll.length : ∀ {vs : List V} {ds : List DD}, RepAll K T F vs ds → vs.length = ds.length
  | _, _, .nil => rfl
  | _, _, .cons _ r => congrArg (· + 1) r.length
theorem RepAll.get : ∀ {vs : List V} {ds : List DD} {i : Nat} {d : DD}, RepAll K T F vs ds → ds[i]? = some d → ∃ v, vs[i]? = some v ∧ Rep K T F v d
  | _, _, _, _, .nil, e => by simp at e
  | _, _, 0, _, .cons h _, e => by simp at e; subst e; exact ⟨_, rfl, h⟩
  | _, _, i + 1, _, .cons _ r, e => by
    obtain ⟨v, h1, h2⟩ := RepAll.get (i := i) r (by simpa using e)
    exact ⟨v, by simpa using h1, h2⟩
theorem RepAll.get' : ∀ {vs : List V} {ds : List DD} {i : Nat} {v : V}, RepAll K T F vs ds → vs[i]? = some v → ∃ d, ds[i]? = some d ∧ Rep K T F v d
  | _, _, _, _, .nil, e => by simp at e
  | _, _, 0, _, .cons h _, e => by simp at e; subst e; exact ⟨_, rfl, h⟩
  | _, _, i + 1, _, .cons _ r, e => by
    obtain ⟨v, h1, h2⟩ := RepAll.get' (i := i) r (by simpa using e)
    exact ⟨v, by simpa using h1, h2⟩
theorem RepAll.append : ∀ {vs ws : List V} {ds es : List DD}, RepAll K T F vs ds → RepAll K T F ws es → RepAll K T F (vs ++ ws) (ds ++ es)
  | _, _, _, _, .nil, r => r
  | _, _, _, _, .cons h t, r => .cons h (t.append r)
theorem RepAll.drop : ∀ {vs : List V} {ds : List DD} (n : Nat), RepAll K T F vs ds → RepAll K T F (vs.drop n) (ds.drop n)
  | _, _, 0, r => r
  | _, _, _ + 1, .nil => .nil
  | _, _, n + 1, .cons _ r => r.drop n
theorem RepAll.take : ∀ {vs : List V} {ds : List DD} (n : Nat), RepAll K T F vs ds → RepAll K T F (vs.take n) (ds.take n)
  | _, _, 0, _ => .nil
  | _, _, _ + 1, .nil => .nil
  | _, _, n + 1, .cons h r => .cons h (r.take n)
theorem RepAll.reverse {vs : List V} {ds : List DD} (r : RepAll K T F vs ds) : RepAll K T F vs.reverse ds.reverse := by
  have : ∀ {vs : List V} {ds : List DD}, RepAll K T F vs ds → RepAll K T F vs.reverse ds.reverse := by
    intro vs
    induction vs with
    | nil => intro ds r; cases r; exact .nil
    | cons v vs ih =>
      intro ds r
      cases r with
      | cons h t =>
        rw [List.reverse_cons, List.reverse_cons]
        exact (ih t).append (.cons h .nil)
  exact this r
theorem RepAll.set {v : V} {d : DD} (h : Rep K T F v d) : ∀ {vs : List V} {ds : List DD} (i : Nat), RepAll K T F vs ds → RepAll K T F (vs.set i v) (ds.set i d)
  | _, _, _, .nil => .nil
  | _, _, 0, .cons _ r => .cons h r
  | _, _, i + 1, .cons q r => .cons q (r.set h i)

/-- frozen by its kind -/
def isFz : HO → Bool
  | .tup _ => true
  | .frz _ _ => true
  | _ => false
def FT (F H : Hp) : Prop := ∀ a o, H a = some o → isFz o = true → F a = some o
mutual
theorem Rep.toF (e : FT F H) : ∀ {v : V} {d : DD}, d.td = true → Rep K T H v d → Rep K T F v d
  | _, _, _, .non => .non
  | _, _, _, .bl b => .bl b
  | _, _, _, .int i => .int i
  | _, _, _, .str s => .str s
  | _, _, h, .tup q r => .tup (by
      rcases q with (q | ⟨o, q⟩) | q
      · exact .inl (.inl (e _ _ q rfl))
      · exact .inl (.inr ⟨o, e _ _ q rfl⟩)
      · exact .inr q) (RepAll.toF e (by simpa [DD.td] using h) r)
  | _, _, h, .lst q r => by simp [DD.td] at h
  | _, _, h, .ins _ _ _ _ _ _ => by simp [DD.td] at h
  | _, _, h, .exc0 _ _ => by simp [DD.td] at h
  | _, _, h, .excd _ _ _ _ _ _ => by simp [DD.td] at h
theorem RepAll.toF (e : FT F H) : ∀ {vs : List V} {ds : List DD}, tdAll ds = true → RepAll K T H vs ds → RepAll K T F vs ds
  | _, _, _, .nil => .nil
  | _, _, h, .cons q r => by
    rw [tdAll, Bool.and_eq_true] at h
    exact .cons (Rep.toF e h.1 q) (RepAll.toF e h.2 r)
end

/-! ### owned things -/
mutual
inductive Own (K : PySem.W.Frag) (T : Tab) (F H : Hp) : V → OO → List Addr → Prop
  | dat {v : V} {d : DD} : Rep K T F v d → Own K T F H v (.dat d) []
  | lst {p : Addr} {vs : List V} {os : List OO} {A : List Addr} : H p = some (.lst vs) → OwnAll K T F H vs os A → Own K T F H (.ref p) (.lst os) (p :: A)
inductive OwnAll (K : PySem.W.Frag) (T : Tab) (F H : Hp) : List V → List OO → List Addr → Prop
  | nil : OwnAll K T F H [] [] []
  | cons {v : V} {vs : List V} {o : OO} {os : List OO} {A B : List Addr} : Own K T F H v o A → OwnAll K T F H vs os B → OwnAll K T F H (v :: vs) (o :: os) (A ++ B)
end
mutual
theorem Own.frame (e : Same F F') : ∀ {v : V} {o : OO} {A : List Addr}, Own K T F H v o A → (∀ a, 0 < A.count a → H' a = H a) → Own K T F' H' v o A
  | _, _, _, .dat r, _ => .dat (r.mono e)
  | _, _, _, .lst (p := p) (A := A) h r, k => .lst (by rw [k p (by rw [List.count_cons]; simp)]; exact h) (OwnAll.frame e r fun a ha => k a (by rw [List.count_cons]; omega))
theorem OwnAll.frame (e : Same F F') : ∀ {vs : List V} {os : List OO} {A : List Addr}, OwnAll K T F H vs os A → (∀ a, 0 < A.count a → H' a = H a) → OwnAll K T F' H' vs os A
  | _, _, _, .nil, _ => .nil
  | _, _, _, .cons (A := A) (B := B) h r, k => .cons (Own.frame e h fun a ha => k a (by rw [List.count_append]; omega)) (OwnAll.frame e r fun a ha => k a (by rw [List.count_append]; omega))
end
mutual
/-- an owned thing seen as data, in a heap that has it -/
theorem Own.rep {G : Hp} (e : Same F G) : ∀ {v : V} {o : OO} {A : List Addr}, Own K T F H v o A → (∀ a, 0 < A.count a → G a = H a) → Rep K T G v o.view
  | _, _, _, .dat r, _ => r.mono e
  | _, _, _, .lst (p := p) (A := A) h r, k => .lst (.inl <| .inl (by rw [k p (by rw [List.count_cons]; simp)]; exact h)) (OwnAll.rep e r fun a ha => k a (by rw [List.count_cons]; omega))
theorem OwnAll.rep {G : Hp} (e : Same F G) : ∀ {vs : List V} {os : List OO} {A : List Addr}, OwnAll K T F H vs os A → (∀ a, 0 < A.count a → G a = H a) → RepAll K T G vs (viewAll os)
  | _, _, _, .nil, _ => .nil
  | _, _, _, .cons (A := A) (B := B) h r, k => .cons (Own.rep e h fun a ha => k a (by rw [List.count_append]; omega)) (OwnAll.rep e r fun a ha => k a (by rw [List.count_append]; omega))
end
theorem OwnAll.dats : ∀ {vs : List V} {ds : List DD}, RepAll K T F vs ds → OwnAll K T F H vs (ds.map OO.dat) []
  | _, _, .nil => .nil
  | _, _, .cons h r => by
    have q := OwnAll.cons (H := H) (.dat h) (OwnAll.dats r)
    exact q
theorem OwnAll.length : ∀ {vs : List V} {os : List OO} {A : List Addr}, OwnAll K T F H vs os A → vs.length = os.length
  | _, _, _, .nil => rfl
  | _, _, _, .cons _ r => congrArg (· + 1) r.length
theorem OwnAll.append : ∀ {vs ws : List V} {os us : List OO} {A B : List Addr}, OwnAll K T F H vs os A → OwnAll K T F H ws us B → OwnAll K T F H (vs ++ ws) (os ++ us) (A ++ B)
  | _, _, _, _, _, _, .nil, r => r
  | _, _, _, _, _, _, .cons h t, r => by
    rw [List.append_assoc]
    exact .cons h (t.append r)
/-- the k-th of them, and what may stand in its place -/
theorem OwnAll.focus : ∀ {vs : List V} {os : List OO} {A : List Addr} {k : Nat} {o : OO}, OwnAll K T F H vs os A → os[k]? = some o →
    ∃ v A0 A1 A2, vs[k]? = some v ∧ A = A0 ++ (A1 ++ A2) ∧ Own K T F H v o A1 ∧
      ∀ {F' H' : Hp} {v' : V} {o' : OO} {A1' : List Addr}, Same F F' → (∀ a, 0 < (A0 ++ A2).count a → H' a = H a) → Own K T F' H' v' o' A1' → OwnAll K T F' H' (vs.set k v') (os.set k o') (A0 ++ (A1' ++ A2))
  | _, _, _, _, _, .nil, e => by simp at e
  | _, _, _, 0, _, .cons (v := v) (A := A) (B := B) h r, e => by
    simp at e; subst e
    refine ⟨v, [], A, B, rfl, rfl, h, fun {F' H' v' o' A1'} e k h' => ?_⟩
    exact .cons (A := A1') (B := B) h' (r.frame e fun a ha => k a (by simpa using ha))
  | _, _, _, k + 1, _, .cons (A := A) (B := B) h r, e => by
    obtain ⟨v, A0, A1, A2, h1, rfl, h3, h4⟩ := OwnAll.focus (k := k) r (by simpa using e)
    refine ⟨v, A ++ A0, A1, A2, by simpa using h1, by rw [List.append_assoc], h3, fun {F' H' v' o' A1'} e kk h' => ?_⟩
    have q := OwnAll.cons (h.frame (H' := H') e fun a ha => kk a (by simp only [List.count_append]; omega)) (h4 e (fun a ha => kk a (by simp only [List.count_append] at ha ⊢; omega)) h')
    rw [List.append_assoc]
    exact q

/-! ### the ground: what is frozen, what is owned -/
structure GA (F H : Hp) (L : List Addr) : Prop where
  nd : ∀ a, L.count a ≤ 1
  fr : ∀ a, 0 < L.count a → F a = none
  th : ∀ a, 0 < L.count a → H a ≠ none
  sm : Same F H
  ft : FT F H
theorem GA.sub {L L' : List Addr} (g : GA F H L) (h : ∀ a, L'.count a ≤ L.count a) : GA F H L' :=
  ⟨fun a => Nat.le_trans (h a) (g.nd a), fun a ha => g.fr a (Nat.lt_of_lt_of_le ha (h a)), fun a ha => g.th a (Nat.lt_of_lt_of_le ha (h a)), g.sm, g.ft⟩
/-- what is frozen by its kind, too -/
def grow (F H : Hp) : Hp := fun a => match H a with
  | some o => if isFz o = true then some o else F a
  | none => F a
theorem grow_same (h : Same F H) (e : Same H H') : Same F (grow F H') := fun a o q => by
  have q' := e _ _ (h _ _ q)
  unfold grow
  rw [q']
  dsimp only
  split
  · rfl
  · exact q
theorem GA.ext {L : List Addr} (g : GA F H L) (e : Same H H') : GA (grow F H') H' L := by
  have keep : ∀ a, 0 < L.count a → ∃ o, H a = some o ∧ H' a = some o ∧ isFz o = false := fun a ha => by
    cases q : H a with
    | none => exact absurd q (g.th a ha)
    | some o =>
      refine ⟨o, rfl, e _ _ q, ?_⟩
      cases z : isFz o with
      | false => rfl
      | true =>
        have := g.ft a o q z
        rw [g.fr a ha] at this; cases this
  refine ⟨g.nd, fun a ha => ?_, fun a ha => ?_, fun a o q => ?_, fun a o q z => ?_⟩
  · obtain ⟨o, h1, h2, h3⟩ := keep a ha
    unfold grow
    rw [h2]
    dsimp only
    rw [h3, if_neg Bool.false_ne_true]
    exact g.fr a ha
  · obtain ⟨o, h1, h2, h3⟩ := keep a ha
    rw [h2]; simp
  · unfold grow at q
    cases q' : H' a with
    | none =>
      rw [q'] at q
      dsimp only at q
      rw [e _ _ (g.sm _ _ q)] at q'; cases q'
    | some u =>
      rw [q'] at q
      dsimp only at q
      split at q
      · exact q
      · rw [e _ _ (g.sm _ _ q)] at q'
        cases q'; rfl
  · unfold grow
    rw [q]
    dsimp only
    rw [if_pos z]

/-! ### the environment -/
inductive Slot where
  | no | own (o : OO) | ptr (k : Nat)
structure Env where
  sl : List Slot
  bo : List OO
inductive SlotR (K : PySem.W.Frag) (T : Tab) (ps : List V) (F H : Hp) : Option V → Slot → List Addr → Prop
  | no {x : Option V} : SlotR K T ps F H x .no []
  | own {v : V} {o : OO} {A : List Addr} : Own K T F H v o A → SlotR K T ps F H (some v) (.own o) A
  | ptr {v : V} {k : Nat} : ps[k]? = some v → SlotR K T ps F H (some v) (.ptr k) []
inductive EnvR (K : PySem.W.Frag) (T : Tab) (ps : List V) (F H : Hp) : L2.St → List Slot → List Addr → Prop
  | nil : EnvR K T ps F H [] [] []
  | cons {x : Option V} {σ : L2.St} {s : Slot} {ss : List Slot} {A B : List Addr} : SlotR K T ps F H x s A → EnvR K T ps F H σ ss B → EnvR K T ps F H (x :: σ) (s :: ss) (A ++ B)
variable {ps : List V} {σ : L2.St}
theorem SlotR.frame {x : Option V} {s : Slot} {A : List Addr} (e : Same F F') (h : SlotR K T ps F H x s A) (k : ∀ a, 0 < A.count a → H' a = H a) : SlotR K T ps F' H' x s A := by
  cases h with
  | no => exact .no
  | own h => exact .own (h.frame e k)
  | ptr h => exact .ptr h
theorem EnvR.frame (e : Same F F') : ∀ {σ : L2.St} {ss : List Slot} {A : List Addr}, EnvR K T ps F H σ ss A → (∀ a, 0 < A.count a → H' a = H a) → EnvR K T ps F' H' σ ss A
  | _, _, _, .nil, _ => .nil
  | _, _, _, .cons h r, k => .cons (h.frame e fun a ha => k a (by rw [List.count_append]; omega)) (EnvR.frame e r fun a ha => k a (by rw [List.count_append]; omega))
theorem EnvR.length : ∀ {σ : L2.St} {ss : List Slot} {A : List Addr}, EnvR K T ps F H σ ss A → σ.length = ss.length
  | _, _, _, .nil => rfl
  | _, _, _, .cons _ r => congrArg (· + 1) r.length
theorem EnvR.focus : ∀ {σ : L2.St} {ss : List Slot} {A : List Addr} {i : Nat} {s : Slot}, EnvR K T ps F H σ ss A → ss[i]? = some s →
    ∃ x A0 A1 A2, σ[i]? = some x ∧ A = A0 ++ (A1 ++ A2) ∧ SlotR K T ps F H x s A1 ∧
      ∀ {F' H' : Hp} {x' : Option V} {s' : Slot} {A1' : List Addr}, Same F F' → (∀ a, 0 < (A0 ++ A2).count a → H' a = H a) → SlotR K T ps F' H' x' s' A1' → EnvR K T ps F' H' (σ.set i x') (ss.set i s') (A0 ++ (A1' ++ A2))
  | _, _, _, _, _, .nil, e => by simp at e
  | _, _, _, 0, _, .cons (x := x) (A := A) (B := B) h r, e => by
    simp at e; subst e
    refine ⟨x, [], A, B, rfl, rfl, h, fun {F' H' v' o' A1'} e k h' => ?_⟩
    exact .cons (A := A1') (B := B) h' (r.frame e fun a ha => k a (by simpa using ha))
  | _, _, _, i + 1, _, .cons (A := A) (B := B) h r, e => by
    obtain ⟨x, A0, A1, A2, h1, rfl, h3, h4⟩ := EnvR.focus (i := i) r (by simpa using e)
    refine ⟨x, A ++ A0, A1, A2, by simpa using h1, by rw [List.append_assoc], h3, fun {F' H' v' o' A1'} e kk h' => ?_⟩
    have q := EnvR.cons (h.frame (H' := H') e fun a ha => kk a (by simp only [List.count_append]; omega)) (h4 e (fun a ha => kk a (by simp only [List.count_append] at ha ⊢; omega)) h')
    rw [List.append_assoc]
    exact q
def Env.sv (ρ : Env) : Slot → Option DD
  | .no => none
  | .own o => some o.view
  | .ptr k => (ρ.bo[k]?).map OO.view
def Env.views (ρ : Env) : List (Option DD) := ρ.sl.map ρ.sv
def Env.put (ρ : Env) (i : Nat) (s : Slot) : Env := { ρ with sl := ρ.sl.set i s }
/-- a place: an owned thing in a slot, or a borrowed one -/
def Env.pl (ρ : Env) (i : Nat) : Option OO := match ρ.sl[i]? with
  | some (.own o) => some o
  | some (.ptr k) => ρ.bo[k]?
  | _ => none
def Env.pset (ρ : Env) (i : Nat) (o : OO) : Env := match ρ.sl[i]? with
  | some (.own _) => { ρ with sl := ρ.sl.set i (.own o) }
  | some (.ptr k) => { ρ with bo := ρ.bo.set k o }
  | _ => ρ
/-- the state -/
def SA (K : PySem.W.Frag) (T : Tab) (ps : List V) (F H : Hp) (σ : L2.St) (ρ : Env) (S : List Addr) : Prop :=
  ∃ A B, EnvR K T ps F H σ ρ.sl A ∧ OwnAll K T F H ps ρ.bo B ∧ GA F H (A ++ (B ++ S))
variable {ρ : Env} {S : List Addr}
theorem SA.ga (s : SA K T ps F H σ ρ S) : GA F H S := by
  obtain ⟨A, B, _, _, g⟩ := s
  exact g.sub fun a => by simp only [List.count_append]; omega
theorem SA.length (s : SA K T ps F H σ ρ S) : σ.length = ρ.sl.length := by
  obtain ⟨A, B, e, _, _⟩ := s
  exact e.length
theorem SA.ext (s : SA K T ps F H σ ρ S) (e : Same H H') : SA K T ps (grow F H') H' σ ρ S := by
  obtain ⟨A, B, r, b, g⟩ := s
  have sm := grow_same g.sm e
  have k : ∀ a, 0 < (A ++ (B ++ S)).count a → H' a = H a := fun a ha => by
    cases q : H a with
    | none => exact absurd q (g.th a ha)
    | some o => exact e _ _ q
  exact ⟨A, B, r.frame sm fun a ha => k a (by simp only [List.count_append]; omega), b.frame sm fun a ha => k a (by simp only [List.count_append]; omega), g.ext e⟩
theorem SA.sub {S' : List Addr} (s : SA K T ps F H σ ρ S) (h : ∀ a, S'.count a ≤ S.count a) : SA K T ps F H σ ρ S' := by
  obtain ⟨A, B, r, b, g⟩ := s
  exact ⟨A, B, r, b, g.sub fun a => by have := h a; simp only [List.count_append]; omega⟩
/-- slots seen as data -/
structure EnvV (K : PySem.W.Frag) (T : Tab) (H : Hp) (σ : L2.St) (w : List (Option DD)) : Prop where
  len : σ.length = w.length
  ix : ∀ (i : Nat) (d : DD), w[i]? = some (some d) → ∃ v, σ[i]? = some (some v) ∧ Rep K T H v d
theorem EnvV.mono {w : List (Option DD)} (h : EnvV K T H σ w) (e : Same H H') : EnvV K T H' σ w := ⟨h.len, fun i d q =>
  let ⟨v, h1, h2⟩ := h.ix i d q
  ⟨v, h1, h2.mono e⟩⟩
theorem SA.views (s : SA K T ps F H σ ρ S) : EnvV K T H σ ρ.views := by
  refine ⟨by rw [s.length]; unfold Env.views; rw [List.length_map], ?_⟩
  obtain ⟨A, B, r, b, g⟩ := s
  intro i d q
  unfold Env.views at q
  rw [List.getElem?_map] at q
  cases z : ρ.sl[i]? with
  | none => rw [z] at q; cases q
  | some sl =>
    rw [z] at q
    have q' : ρ.sv sl = some d := by simpa using q
    obtain ⟨x, A0, A1, A2, h1, _, h3, _⟩ := r.focus z
    cases h3 with
    | no => cases q'
    | own h =>
      have e : _ = d := Option.some.inj q'
      subst e
      exact ⟨_, h1, h.rep g.sm fun _ _ => rfl⟩
    | @ptr v k hp =>
      have q2 : (ρ.bo[k]?).map OO.view = some d := q'
      cases zo : ρ.bo[k]? with
      | none => rw [zo] at q2; cases q2
      | some o =>
        rw [zo] at q2
        have e : _ = d := Option.some.inj q2
        subst e
        obtain ⟨v', _, B1, _, g1, _, g3, _⟩ := b.focus zo
        rw [hp] at g1
        cases g1
        exact ⟨_, h1, g3.rep g.sm fun _ _ => rfl⟩
/-- a value is stored -/
theorem SA.store {i : Nat} {v : V} {o : OO} {B0 : List Addr} (s : SA K T ps F H σ ρ (B0 ++ S)) (h : Own K T F H v o B0) (hi : i < ρ.sl.length) : SA K T ps F H (σ.set i (some v)) (ρ.put i (.own o)) S := by
  obtain ⟨A, B, r, b, g⟩ := s
  obtain ⟨x, A0, A1, A2, h1, rfl, h3, h4⟩ := r.focus (List.getElem?_eq_getElem hi)
  refine ⟨A0 ++ (B0 ++ A2), B, h4 (fun _ _ z => z) (fun _ _ => rfl) (.own h), b, g.sub fun a => ?_⟩
  simp only [List.count_append]; omega
/-- a slot is let go -/
theorem SA.drop {i : Nat} {x : Option V} (s : SA K T ps F H σ ρ S) (hi : i < ρ.sl.length) : SA K T ps F H (σ.set i x) (ρ.put i .no) S := by
  obtain ⟨A, B, r, b, g⟩ := s
  obtain ⟨x, A0, A1, A2, h1, rfl, h3, h4⟩ := r.focus (List.getElem?_eq_getElem hi)
  refine ⟨A0 ++ ([] ++ A2), B, h4 (fun _ _ z => z) (fun _ _ => rfl) .no, b, g.sub fun a => ?_⟩
  simp only [List.count_append, List.count_nil]; omega
/-- .. and it hands its thing on -/
theorem SA.move {i : Nat} {o : OO} (s : SA K T ps F H σ ρ S) (h : ρ.sl[i]? = some (.own o)) : ∃ v B0, σ[i]? = some (some v) ∧ Own K T F H v o B0 ∧ SA K T ps F H σ (ρ.put i .no) (B0 ++ S) := by
  obtain ⟨A, B, r, b, g⟩ := s
  obtain ⟨x, A0, A1, A2, h1, rfl, h3, h4⟩ := r.focus h
  cases h3 with
  | own h3 =>
    rename_i v
    refine ⟨v, A1, h1, h3, A0 ++ ([] ++ A2), B, ?_, b, g.sub fun a => ?_⟩
    · have q := h4 (fun _ _ z => z) (fun _ _ => rfl) (.no (x := some v))
      have e : σ.set i (some v) = σ := by
        apply List.ext_getElem?
        intro j
        by_cases hj : j = i
        · subst hj
          have hlt : j < σ.length := (List.getElem?_eq_some_iff.mp h1).1
          rw [List.getElem?_set_self hlt, h1]
        · rw [List.getElem?_set_ne (Ne.symm hj)]
      rw [e] at q
      exact q
    · simp only [List.count_append, List.count_nil]; omega
def melt (F H : Hp) (B : List Addr) : Hp := fun a => if 0 < B.count a then H a else F a
/-- an owned thing is frozen -/
theorem SA.freeze {v : V} {o : OO} {B0 : List Addr} (s : SA K T ps F H σ ρ (B0 ++ S)) (h : Own K T F H v o B0) :
    ∃ F', Same F F' ∧ SA K T ps F' H σ ρ S ∧ Rep K T F' v o.view := by
  obtain ⟨A, B, r, b, g⟩ := s
  have out : ∀ a, 0 < B0.count a → F a = none := fun a ha => g.fr a (by simp only [List.count_append]; omega)
  have sm : Same F (melt F H B0) := fun a u q => by
    unfold melt
    split
    · rename_i ha
      rw [out a ha] at q; cases q
    · exact q
  have sm' : Same (melt F H B0) H := fun a u q => by
    unfold melt at q
    split at q
    · exact q
    · exact g.sm _ _ q
  refine ⟨melt F H B0, sm, ⟨A, B, r.frame sm fun _ _ => rfl, b.frame sm fun _ _ => rfl, ?_⟩, h.rep sm fun a ha => by unfold melt; rw [if_pos ha]⟩
  have g' := g.sub (L' := A ++ (B ++ S)) fun a => by simp only [List.count_append]; omega
  refine ⟨g'.nd, fun a ha => ?_, g'.th, sm', fun a u q z => ?_⟩
  · have n := g.nd a
    simp only [List.count_append] at n ha
    unfold melt
    rw [if_neg (by omega)]
    exact g'.fr a (by simp only [List.count_append]; omega)
  · unfold melt
    split
    · exact q
    · exact g.ft a u q z
/-- many owned things are frozen -/
theorem SA.freezeAll {vs : List V} {os : List OO} {B0 : List Addr} (s : SA K T ps F H σ ρ (B0 ++ S)) (h : OwnAll K T F H vs os B0) :
    ∃ F', Same F F' ∧ SA K T ps F' H σ ρ S ∧ RepAll K T F' vs (viewAll os) := by
  obtain ⟨A, B, r, b, g⟩ := s
  have out : ∀ a, 0 < B0.count a → F a = none := fun a ha => g.fr a (by simp only [List.count_append]; omega)
  have sm : Same F (melt F H B0) := fun a u q => by
    unfold melt
    split
    · rename_i ha
      rw [out a ha] at q; cases q
    · exact q
  have sm' : Same (melt F H B0) H := fun a u q => by
    unfold melt at q
    split at q
    · exact q
    · exact g.sm _ _ q
  refine ⟨melt F H B0, sm, ⟨A, B, r.frame sm fun _ _ => rfl, b.frame sm fun _ _ => rfl, ?_⟩, h.rep sm fun a ha => by unfold melt; rw [if_pos ha]⟩
  have g' := g.sub (L' := A ++ (B ++ S)) fun a => by simp only [List.count_append]; omega
  refine ⟨g'.nd, fun a ha => ?_, g'.th, sm', fun a u q z => ?_⟩
  · have n := g.nd a
    simp only [List.count_append] at n ha
    unfold melt
    rw [if_neg (by omega)]
    exact g'.fr a (by simp only [List.count_append]; omega)
  · unfold melt
    split
    · exact q
    · exact g.ft a u q z
/-- a place, what it holds, and what may stand there instead -/
theorem SA.place {i : Nat} {o : OO} (s : SA K T ps F H σ ρ S) (h : ρ.pl i = some o) :
    ∃ v A1 R, σ[i]? = some (some v) ∧ Own K T F H v o A1 ∧ GA F H (A1 ++ (R ++ S)) ∧
      ∀ {o' : OO} {A1' S' : List Addr} {F' H' : Hp}, Own K T F' H' v o' A1' → Same F F' → (∀ a, 0 < R.count a → H' a = H a) → GA F' H' (A1' ++ (R ++ S')) → SA K T ps F' H' σ (ρ.pset i o') S' := by
  obtain ⟨A, B, r, b, g⟩ := s
  unfold Env.pl at h
  cases z : ρ.sl[i]? with
  | none => rw [z] at h; cases h
  | some sl =>
    rw [z] at h
    obtain ⟨x, A0, A1, A2, h1, rfl, h3, h4⟩ := r.focus z
    have eσ : σ.set i x = σ := by
      apply List.ext_getElem?
      intro j
      by_cases hj : j = i
      · subst hj
        have hlt : j < σ.length := (List.getElem?_eq_some_iff.mp h1).1
        rw [List.getElem?_set_self hlt, h1]
      · rw [List.getElem?_set_ne (Ne.symm hj)]
    cases h3 with
    | no => cases h
    | @own v o2 _ h3 =>
      have e : o2 = o := Option.some.inj h
      subst e
      refine ⟨v, A1, A0 ++ (A2 ++ B), h1, h3, g.sub fun a => by simp only [List.count_append]; omega, fun {o' A1' S' F' H'} w sm k g' => ?_⟩
      have q := h4 sm (fun a ha => k a (by simp only [List.count_append] at ha ⊢; omega)) (.own w)
      rw [eσ] at q
      refine ⟨A0 ++ (A1' ++ A2), B, ?_, ?_, g'.sub fun a => by simp only [List.count_append]; omega⟩
      · unfold Env.pset; rw [z]; exact q
      · unfold Env.pset; rw [z]
        exact b.frame sm fun a ha => k a (by simp only [List.count_append]; omega)
    | @ptr v k hp =>
      have zo : ρ.bo[k]? = some o := h
      obtain ⟨v', B0, B1, B2, g1, rfl, g3, g4⟩ := b.focus zo
      rw [hp] at g1
      cases g1
      refine ⟨v, B1, A0 ++ ([] ++ A2) ++ (B0 ++ B2), h1, g3, g.sub fun a => by simp only [List.count_append, List.count_nil]; omega, fun {o' A1' S' F' H'} w sm kk g' => ?_⟩
      have q := h4 sm (fun a ha => kk a (by simp only [List.count_append, List.count_nil] at ha ⊢; omega)) (.ptr (F := F') (H := H') hp)
      rw [eσ] at q
      have es : ρ.sl.set i (.ptr k) = ρ.sl := by
        apply List.ext_getElem?
        intro j
        by_cases hj : j = i
        · subst hj
          have hlt : j < ρ.sl.length := (List.getElem?_eq_some_iff.mp z).1
          rw [List.getElem?_set_self hlt, z]
        · rw [List.getElem?_set_ne (Ne.symm hj)]
      rw [es] at q
      have q2 := g4 sm (fun a ha => kk a (by simp only [List.count_append] at ha ⊢; omega)) w
      have ep : ps.set k v = ps := by
        apply List.ext_getElem?
        intro j
        by_cases hj : j = k
        · subst hj
          have hlt : j < ps.length := (List.getElem?_eq_some_iff.mp hp).1
          rw [List.getElem?_set_self hlt, hp]
        · rw [List.getElem?_set_ne (Ne.symm hj)]
      rw [ep] at q2
      refine ⟨A0 ++ ([] ++ A2), B0 ++ (A1' ++ B2), ?_, ?_, g'.sub fun a => by simp only [List.count_append, List.count_nil]; omega⟩
      · unfold Env.pset; rw [z]; exact q
      · unfold Env.pset; rw [z]; exact q2
end
end DL

/-! DL2: pure expressions: what they come to, as plain functions of the slots' data. -/
namespace DL
open PySem PySem.Spec PyProof.Rows L2

abbrev View := List (Option DD)
def VOk (K : PySem.W.Frag) (T : Tab) (t : TE) (g : View → Option DD) : Prop := ∀ (σ : L2.St) (w : View) (H : Hp) (d : DD), EnvV K T H σ w → g w = some d → ∀ Q : VK, (∀ v H', Same H H' → Rep K T H' v d → Q v H') → t σ H Q
def VOkT (K : PySem.W.Frag) (T : Tab) (t : TT) (g : View → Option Bool) : Prop := ∀ (σ : L2.St) (w : View) (H : Hp) (b : Bool), EnvV K T H σ w → g w = some b → ∀ Q : Bool → Hp → Prop, (∀ H', Same H H' → Q b H') → t σ H Q
def VOkA (K : PySem.W.Frag) (T : Tab) (t : TA) (g : View → Option (List DD)) : Prop := ∀ (σ : L2.St) (w : View) (H : Hp) (ds : List DD), EnvV K T H σ w → g w = some ds → ∀ Q : List V → Hp → Prop, (∀ vs H', Same H H' → RepAll K T H' vs ds → Q vs H') → t σ H Q
/-- a pure expression comes to g of the slots -/
def XV (X : Cx) (T : Tab) (e : Expr) (g : View → Option DD) : Prop := ∃ t : TE, PE X e t ∧ VOk X.K T t g
def XT (X : Cx) (T : Tab) (e : Expr) (g : View → Option Bool) : Prop := ∃ t : TT, PT X e t ∧ VOkT X.K T t g
def XW (X : Cx) (T : Tab) (e : Expr) (g : View → Option Bool) : Prop := ∃ t : TT, PW X e t ∧ VOkT X.K T t g
def XA (X : Cx) (T : Tab) (es : List Expr) (g : View → Option (List DD)) : Prop := ∃ t : TA, PA X es t ∧ VOkA X.K T t g

/-! ### the functions -/
def gVar (i : Nat) : View → Option DD := fun w => match w[i]? with
  | some (some d) => some d
  | _ => none
def gC (d : DD) : View → Option DD := fun _ => some d
def gOp2 (f : DD → DD → Option DD) (a b : View → Option DD) : View → Option DD := fun w => (a w).bind fun x => (b w).bind fun y => f x y
def gOp1 (f : DD → Option DD) (a : View → Option DD) : View → Option DD := fun w => (a w).bind f
def gNil : View → Option (List DD) := fun _ => some []
def gCons (a : View → Option DD) (r : View → Option (List DD)) : View → Option (List DD) := fun w => (a w).bind fun x => (r w).bind fun xs => some (x :: xs)
def gArgs (f : List DD → Option DD) (a : View → Option (List DD)) : View → Option DD := fun w => (a w).bind f
def gTest (a : View → Option DD) : View → Option Bool := fun w => (a w).bind fun d => match d with
  | .bl b => some b
  | _ => none
def gAnd (a b : View → Option Bool) : View → Option Bool := fun w => (a w).bind fun x => if x = true then b w else some false
def gOr (a b : View → Option Bool) : View → Option Bool := fun w => (a w).bind fun x => if x = true then some true else b w
def gNot (a : View → Option Bool) : View → Option Bool := fun w => (a w).map (! ·)
def gAndV (a b : View → Option DD) : View → Option DD := fun w => (a w).bind fun d => match d with
  | .bl x => if x = true then b w else some (.bl false)
  | _ => none
def gOrV (a b : View → Option DD) : View → Option DD := fun w => (a w).bind fun d => match d with
  | .bl x => if x = true then some (.bl true) else b w
  | _ => none
def gIf (c : View → Option Bool) (a b : View → Option DD) : View → Option DD := fun w => (c w).bind fun x => if x = true then a w else b w

/-! ### operators on data -/
def mulFits (i j : Int) : Bool := decide (i.natAbs.log2 + j.natAbs.log2 < 134000000)
def dAdd : DD → DD → Option DD
  | .int i, .int j => some (.int (i + j))
  | .lst a, .lst b => if a.length + b.length ≤ sizeLine then some (.lst (a ++ b)) else none
  | .tup a, .tup b => if a.length + b.length ≤ sizeLine then some (.tup (a ++ b)) else none
  | .str a, .str b => if a.length + b.length ≤ sizeLine then some (.str (a ++ b)) else none
  | _, _ => none
def dSub : DD → DD → Option DD
  | .int i, .int j => some (.int (i - j))
  | _, _ => none
def dMul : DD → DD → Option DD
  | .int i, .int j => if mulFits i j = true then some (.int (i * j)) else none
  | _, _ => none
/-- // by what is above 0 -/
def dDiv : DD → DD → Option DD
  | .int i, .int j => if j ≠ 0 ∧ j.natAbs.log2 < 9000 then some (.int (i.fdiv j)) else none
  | _, _ => none
def dMod : DD → DD → Option DD
  | .int i, .int j => if j ≠ 0 then some (.int (i.fmod j)) else none
  | _, _ => none
def dPow : DD → DD → Option DD
  | .int i, .int j => if 0 ≤ j ∧ j ≤ 1000000 ∧ i.natAbs < 2 ^ 64 then some (.int (i ^ j.toNat)) else none
  | _, _ => none
def dNeg : DD → Option DD
  | .int i => some (.int (-i))
  | _ => none
def dCmp (p : Int → Int → Bool) : DD → DD → Option DD
  | .int i, .int j => some (.bl (p i j))
  | _, _ => none
def dLt : DD → DD → Option DD := dCmp fun i j => decide (i < j)
def dLe : DD → DD → Option DD := dCmp fun i j => decide (i ≤ j)
def dGt : DD → DD → Option DD := dCmp fun i j => decide (j < i)
def dGe : DD → DD → Option DD := dCmp fun i j => decide (j ≤ i)
def dIsN : DD → Option DD
  | .non => some (.bl true)
  | _ => some (.bl false)
def dNotN : DD → Option DD
  | .non => some (.bl false)
  | _ => some (.bl true)
mutual
/-- as the library's data -/
def DD.pd : DD → PyData
  | .non => .none
  | .bl b => .bool b
  | .int i => .int i
  | .str s => .str s
  | .tup ds => .tuple (pdAll ds)
  | .lst ds => .list (pdAll ds)
  | .ins _ _ => .none
  | .exc _ _ => .none
def pdAll : List DD → List PyData
  | [] => []
  | d :: ds => d.pd :: pdAll ds
end
mutual
/-- no thing of a class, depth at most n -/
def shp : DD → Nat → Bool
  | .non, _ => true
  | .bl _, _ => true
  | .int _, _ => true
  | .str s, _ => PyData.canLay0 (.str s)
  | .tup ds, n => decide (0 < n) && shpAll ds (n - 1)
  | .lst ds, n => decide (0 < n) && shpAll ds (n - 1)
  | .ins _ _, _ => false
  | .exc _ _, _ => false
def shpAll : List DD → Nat → Bool
  | [], _ => true
  | d :: ds, n => shp d n && shpAll ds n
end
mutual
theorem shp_ok {K : PySem.W.Frag} {T : Tab} {H : Hp} : ∀ (d : DD) (n : Nat) (v : V), shp d n = true → Rep K T H v d → Dp K H v d.pd ∧ d.pd.canLay0 = true ∧ d.pd.depth ≤ n
  | .non, n, _, _, r => by cases r; exact ⟨.non, by simp [DD.pd, PyData.canLay0], by simp [DD.pd, PyData.depth]⟩
  | .bl b, n, _, _, r => by cases r; exact ⟨.bl b, by simp [DD.pd, PyData.canLay0], by simp [DD.pd, PyData.depth]⟩
  | .int i, n, _, _, r => by cases r; exact ⟨.int i, by simp [DD.pd, PyData.canLay0], by simp [DD.pd, PyData.depth]⟩
  | .str s, n, _, h, r => by cases r; exact ⟨.str s, by show PyData.canLay0 (.str s) = true; simpa [shp] using h, by simp [DD.pd, PyData.depth]⟩
  | .tup ds, n, _, h, r => by
    rw [shp, Bool.and_eq_true, decide_eq_true_iff] at h
    cases r with
    | tup h1 h2 =>
      obtain ⟨a, b, c⟩ := shpAll_ok ds (n - 1) _ h.2 h2
      refine ⟨.tup h1 a, by simpa [DD.pd, PyData.canLay0] using b, ?_⟩
      simp only [DD.pd, PyData.depth]
      omega
  | .lst ds, n, _, h, r => by
    rw [shp, Bool.and_eq_true, decide_eq_true_iff] at h
    cases r with
    | lst h1 h2 =>
      obtain ⟨a, b, c⟩ := shpAll_ok ds (n - 1) _ h.2 h2
      refine ⟨.lst h1 a, by simpa [DD.pd, PyData.canLay0] using b, ?_⟩
      simp only [DD.pd, PyData.depth]
      omega
  | .ins _ _, n, _, h, _ => by simp [shp] at h
  | .exc _ _, n, _, h, _ => by simp [shp] at h
theorem shpAll_ok {K : PySem.W.Frag} {T : Tab} {H : Hp} : ∀ (ds : List DD) (n : Nat) (vs : List V), shpAll ds n = true → RepAll K T H vs ds → DpAll K H vs (pdAll ds) ∧ PyData.canLayAll0 (pdAll ds) = true ∧ PyData.depthAll (pdAll ds) ≤ n
  | [], n, _, _, r => by cases r; exact ⟨.nil, by simp [pdAll, PyData.canLayAll0], by simp [pdAll, PyData.depthAll]⟩
  | d :: ds, n, _, h, r => by
    rw [shpAll, Bool.and_eq_true] at h
    cases r with
    | cons h1 h2 =>
      obtain ⟨a, b, c⟩ := shp_ok d n _ h.1 h1
      obtain ⟨a', b', c'⟩ := shpAll_ok ds n _ h.2 h2
      refine ⟨.cons a a', by simp only [pdAll, PyData.canLayAll0]; rw [b, b', Bool.and_true], ?_⟩
      simp only [pdAll, PyData.depthAll]
      omega
end
/-- Python's == -/
def eqB (x y : DD) : Bool := PyData.eqv x.pd y.pd
def dEq : DD → DD → Option DD := fun x y => if (shp x 8 && shp y 8) = true then some (.bl (eqB x y)) else none
def dNe : DD → DD → Option DD := fun x y => if (shp x 8 && shp y 8) = true then some (.bl (!eqB x y)) else none
def dAtL (ds : List DD) (i : Int) : Option DD := atI ds i
def dIx : DD → DD → Option DD
  | .lst ds, .int i => atI ds i
  | .tup ds, .int i => atI ds i
  | .str s, .int i => if s.length ≤ sizeLine then (atI s.cps.toList i).map fun c => .str ⟨#[c]⟩ else none
  | _, _ => none
def dLen : List DD → Option DD
  | [.lst ds] => some (.int ds.length)
  | [.tup ds] => some (.int ds.length)
  | [.str s] => if s.length ≤ sizeLine then some (.int s.length) else none
  | _ => none
def dAbs : List DD → Option DD
  | [.int i] => some (.int (if i < 0 then -i else i))
  | _ => none
def dIntOf : List DD → Option DD
  | [.int i] => some (.int i)
  | [.bl b] => some (.int (if b then 1 else 0))
  | _ => none
def dMin2 : List DD → Option DD
  | [.int i, .int j] => some (.int (if j < i then j else i))
  | _ => none
def dMax2 : List DD → Option DD
  | [.int i, .int j] => some (.int (if j > i then j else i))
  | _ => none
def dTup (ds : List DD) : Option DD := some (.tup ds)
def dLst (ds : List DD) : Option DD := some (.lst ds)
def dListOf : List DD → Option DD
  | [.lst ds] => some (.lst ds)
  | [.tup ds] => some (.lst ds)
  | _ => none
def dTupOf : List DD → Option DD
  | [.lst ds] => some (.tup ds)
  | [.tup ds] => some (.tup ds)
  | _ => none

/-! ### values: an operator's reading and its function -/
section
variable {K : PySem.W.Frag} {T : Tab}
def OpV (K : PySem.W.Frag) (T : Tab) (r : R2) (f : DD → DD → Option DD) : Prop := ∀ (H : Hp) (v1 v2 : V) (d1 d2 d : DD), Rep K T H v1 d1 → Rep K T H v2 d2 → f d1 d2 = some d → ∀ Q : VK, (∀ v H', Same H H' → Rep K T H' v d → Q v H') → r v1 v2 H Q
def UnV (K : PySem.W.Frag) (T : Tab) (r : V → Hp → VK → Prop) (f : DD → Option DD) : Prop := ∀ (H : Hp) (v1 : V) (d1 d : DD), Rep K T H v1 d1 → f d1 = some d → ∀ Q : VK, (∀ v H', Same H H' → Rep K T H' v d → Q v H') → r v1 H Q
def CaV (K : PySem.W.Frag) (T : Tab) (r : List V → Hp → VK → Prop) (f : List DD → Option DD) : Prop := ∀ (H : Hp) (vs : List V) (ds : List DD) (d : DD), RepAll K T H vs ds → f ds = some d → ∀ Q : VK, (∀ v H', Same H H' → Rep K T H' v d → Q v H') → r vs H Q
theorem same_new {H : Hp} {p : Addr} {o : HO} (h : H p = none) : Same H (upd H p o) := fun a u e => by
  rw [upd_ne (ne_of_none e h)]
  exact e
theorem rep_newT {H : Hp} {p : Addr} {vs : List V} {ds : List DD} (h : H p = none) (r : RepAll K T H vs ds) : Rep K T (upd H p (.tup vs)) (.ref p) (.tup ds) := .tup (.inl (.inl upd_same)) (r.mono (same_new h))
theorem rep_newL {H : Hp} {p : Addr} {vs : List V} {ds : List DD} (h : H p = none) (r : RepAll K T H vs ds) : Rep K T (upd H p (.lst vs)) (.ref p) (.lst ds) := .lst (.inl (.inl upd_same)) (r.mono (same_new h))

/-! ### readings -/
theorem vok_var {i : Nat} : VOk K T (tVar i) (gVar i) := fun σ w H d E e Q q => by
  unfold gVar at e
  split at e
  · rename_i d' z
    cases e
    obtain ⟨v, h, r⟩ := E.ix i _ z
    exact ⟨v, h, q v H (Same.refl H) r⟩
  · cases e
theorem vok_c {v : V} {d : DD} (r : ∀ H, Rep K T H v d) : VOk K T (tC v) (gC d) := fun σ w H d' _ e Q q => by
  cases e
  exact q v H (Same.refl H) (r H)
theorem vok_op {r : R2} {f : DD → DD → Option DD} {ta tb : TE} {ga gb : View → Option DD} (hf : OpV K T r f) (ha : VOk K T ta ga) (hb : VOk K T tb gb) : VOk K T (tOp r ta tb) (gOp2 f ga gb) := fun σ w H d E e Q q => by
  obtain ⟨x, ex, e⟩ := Option.bind_eq_some_iff.mp e
  obtain ⟨y, ey, e⟩ := Option.bind_eq_some_iff.mp e
  refine ha σ w H x E ex _ fun v1 H1 s1 r1 => ?_
  refine hb σ w H1 y (E.mono s1) ey _ fun v2 H2 s2 r2 => ?_
  exact hf H2 v1 v2 x y d (r1.mono s2) r2 e Q fun v H3 s3 r3 => q v H3 (s1.trans (s2.trans s3)) r3
theorem vok_un {r : V → Hp → VK → Prop} {f : DD → Option DD} {ta : TE} {ga : View → Option DD} (hf : UnV K T r f) (ha : VOk K T ta ga) : VOk K T (tUn r ta) (gOp1 f ga) := fun σ w H d E e Q q => by
  obtain ⟨x, ex, e⟩ := Option.bind_eq_some_iff.mp e
  refine ha σ w H x E ex _ fun v1 H1 s1 r1 => ?_
  exact hf H1 v1 x d r1 e Q fun v H3 s3 r3 => q v H3 (s1.trans s3) r3
theorem vok_nil : VOkA K T tNil gNil := fun σ w H d _ e Q q => by
  cases e
  exact q [] H (Same.refl H) .nil
theorem vok_cons {ta : TE} {tr : TA} {ga : View → Option DD} {gr : View → Option (List DD)} (ha : VOk K T ta ga) (hr : VOkA K T tr gr) : VOkA K T (tCons ta tr) (gCons ga gr) := fun σ w H d E e Q q => by
  obtain ⟨x, ex, e⟩ := Option.bind_eq_some_iff.mp e
  obtain ⟨xs, es, e⟩ := Option.bind_eq_some_iff.mp e
  cases e
  refine ha σ w H x E ex _ fun v1 H1 s1 r1 => ?_
  exact hr σ w H1 xs (E.mono s1) es _ fun vs H2 s2 r2 => q _ H2 (s1.trans s2) (.cons (r1.mono s2) r2)
theorem vok_cb {r : List V → Hp → VK → Prop} {f : List DD → Option DD} {t : TA} {g : View → Option (List DD)} (hf : CaV K T r f) (h : VOkA K T t g) : VOk K T (tCB r t) (gArgs f g) := fun σ w H d E e Q q => by
  obtain ⟨x, ex, e⟩ := Option.bind_eq_some_iff.mp e
  refine h σ w H x E ex _ fun vs H1 s1 r1 => ?_
  exact hf H1 vs x d r1 e Q fun v H3 s3 r3 => q v H3 (s1.trans s3) r3
theorem vok_tup {t : TA} {g : View → Option (List DD)} {n : Nat} (h : VOkA K T t g) (hn : ∀ w ds, g w = some ds → ds.length = n) (hz : n ≤ sizeLine) : VOk K T (tTup t) (gArgs dTup g) := fun σ w H d E e Q q => by
  obtain ⟨x, ex, e⟩ := Option.bind_eq_some_iff.mp e
  cases e
  refine h σ w H x E ex _ fun vs H1 s1 r1 => ⟨by rw [r1.length, hn w x ex]; exact hz, fun p hp => ?_⟩
  exact q _ _ (s1.trans (same_new hp)) (rep_newT hp r1)
theorem vok_lst {t : TA} {g : View → Option (List DD)} {n : Nat} (h : VOkA K T t g) (hn : ∀ w ds, g w = some ds → ds.length = n) (hz : n ≤ sizeLine) : VOk K T (tLst t) (gArgs dLst g) := fun σ w H d E e Q q => by
  obtain ⟨x, ex, e⟩ := Option.bind_eq_some_iff.mp e
  cases e
  refine h σ w H x E ex _ fun vs H1 s1 r1 => ⟨by rw [r1.length, hn w x ex]; exact hz, fun p hp => ?_⟩
  exact q _ _ (s1.trans (same_new hp)) (rep_newL hp r1)
theorem vok_test {ta : TE} {ga : View → Option DD} (ha : VOk K T ta ga) : VOkT K T (tB ta) (gTest ga) := fun σ w H b E e Q q => by
  obtain ⟨x, ex, e⟩ := Option.bind_eq_some_iff.mp e
  refine ha σ w H x E ex _ fun v H1 s1 r1 => ?_
  cases x <;> try cases e
  cases r1
  exact ⟨_, rfl, q H1 s1⟩
theorem vok_and {ta tb : TT} {ga gb : View → Option Bool} (ha : VOkT K T ta ga) (hb : VOkT K T tb gb) : VOkT K T (tAnd ta tb) (gAnd ga gb) := fun σ w H b E e Q q => by
  obtain ⟨x, ex, e⟩ := Option.bind_eq_some_iff.mp e
  refine ha σ w H x E ex _ fun H1 s1 => ?_
  cases x with
  | true => exact iteT (hb σ w H1 b (E.mono s1) e Q fun H2 s2 => q H2 (s1.trans s2))
  | false => cases e; exact iteF (q H1 s1)
theorem vok_or {ta tb : TT} {ga gb : View → Option Bool} (ha : VOkT K T ta ga) (hb : VOkT K T tb gb) : VOkT K T (tOr ta tb) (gOr ga gb) := fun σ w H b E e Q q => by
  obtain ⟨x, ex, e⟩ := Option.bind_eq_some_iff.mp e
  refine ha σ w H x E ex _ fun H1 s1 => ?_
  cases x with
  | true => cases e; exact iteT (q H1 s1)
  | false => exact iteF (hb σ w H1 b (E.mono s1) e Q fun H2 s2 => q H2 (s1.trans s2))
theorem vok_not {ta : TT} {ga : View → Option Bool} (ha : VOkT K T ta ga) : VOkT K T (tNot ta) (gNot ga) := fun σ w H b E e Q q => by
  unfold gNot at e
  obtain ⟨x, ex, e⟩ := Option.map_eq_some_iff.mp e
  subst e
  exact ha σ w H x E ex _ fun H1 s1 => q H1 s1
theorem vok_andV {ta tb : TE} {ga gb : View → Option DD} (ha : VOk K T ta ga) (hb : VOk K T tb gb) : VOk K T (tAndV ta tb) (gAndV ga gb) := fun σ w H d E e Q q => by
  obtain ⟨x, ex, e⟩ := Option.bind_eq_some_iff.mp e
  refine ha σ w H x E ex _ fun v H1 s1 r1 => ?_
  cases x <;> try cases e
  rename_i b
  cases r1
  refine ⟨b, rfl, ?_⟩
  cases b with
  | true => exact iteT (hb σ w H1 d (E.mono s1) e Q fun v H2 s2 => q v H2 (s1.trans s2))
  | false => cases e; exact iteF (q _ H1 s1 (.bl false))
theorem vok_orV {ta tb : TE} {ga gb : View → Option DD} (ha : VOk K T ta ga) (hb : VOk K T tb gb) : VOk K T (tOrV ta tb) (gOrV ga gb) := fun σ w H d E e Q q => by
  obtain ⟨x, ex, e⟩ := Option.bind_eq_some_iff.mp e
  refine ha σ w H x E ex _ fun v H1 s1 r1 => ?_
  cases x <;> try cases e
  rename_i b
  cases r1
  refine ⟨b, rfl, ?_⟩
  cases b with
  | true => cases e; exact iteT (q _ H1 s1 (.bl true))
  | false => exact iteF (hb σ w H1 d (E.mono s1) e Q fun v H2 s2 => q v H2 (s1.trans s2))
def dNot : DD → Option DD
  | .bl b => some (.bl (!b))
  | _ => none
theorem vok_notV {ta : TE} {ga : View → Option DD} (ha : VOk K T ta ga) : VOk K T (tNotV ta) (gOp1 dNot ga) := fun σ w H d E e Q q => by
  obtain ⟨x, ex, e⟩ := Option.bind_eq_some_iff.mp e
  refine ha σ w H x E ex _ fun v H1 s1 r1 => ?_
  cases x <;> try cases e
  cases r1
  exact ⟨_, rfl, q _ H1 s1 (.bl _)⟩
theorem vok_if {tc : TT} {ta tb : TE} {gc : View → Option Bool} {ga gb : View → Option DD} (hc : VOkT K T tc gc) (ha : VOk K T ta ga) (hb : VOk K T tb gb) : VOk K T (tIf tc ta tb) (gIf gc ga gb) := fun σ w H d E e Q q => by
  obtain ⟨x, ex, e⟩ := Option.bind_eq_some_iff.mp e
  refine hc σ w H x E ex _ fun H1 s1 => ?_
  cases x with
  | true => exact iteT (ha σ w H1 d (E.mono s1) e Q fun v H2 s2 => q v H2 (s1.trans s2))
  | false => exact iteF (hb σ w H1 d (E.mono s1) e Q fun v H2 s2 => q v H2 (s1.trans s2))

/-! ### operators -/
theorem OpV.or {r r' : R2} {f g : DD → DD → Option DD} (h : ∀ x y d, f x y = some d → g x y = some d ∨ True) : True := trivial
theorem ov_int {C : Int → Int → Prop} {h : Int → Int → V} {f : DD → DD → Option DD} (hf : ∀ x y d, f x y = some d → ∃ i j, x = .int i ∧ y = .int j ∧ C i j ∧ ∀ H, Rep K T H (h i j) d) : OpV K T (rI C h) f := fun H v1 v2 d1 d2 d r1 r2 e Q q => by
  obtain ⟨i, j, rfl, rfl, c, r⟩ := hf _ _ _ e
  cases r1
  cases r2
  exact ⟨i, j, rfl, rfl, c, q _ H (Same.refl H) (r H)⟩
theorem ov_int0 {h : Int → Int → V} {f : DD → DD → Option DD} (hf : ∀ x y d, f x y = some d → ∃ i j, x = .int i ∧ y = .int j ∧ ∀ H, Rep K T H (h i j) d) : OpV K T (rI0 h) f := fun H v1 v2 d1 d2 d r1 r2 e Q q => by
  obtain ⟨i, j, rfl, rfl, r⟩ := hf _ _ _ e
  cases r1
  cases r2
  exact ⟨i, j, rfl, rfl, q _ H (Same.refl H) (r H)⟩
theorem ov_sub : OpV K T (rI0 fun i j => .int (i - j)) dSub := ov_int0 fun x y d e => by
  unfold dSub at e
  split at e
  · cases e; exact ⟨_, _, rfl, rfl, fun H => .int _⟩
  · cases e
theorem ov_cmp {p : Int → Int → Bool} : OpV K T (rI0 fun i j => .bl (p i j)) (dCmp p) := ov_int0 fun x y d e => by
  unfold dCmp at e
  split at e
  · cases e; exact ⟨_, _, rfl, rfl, fun H => .bl _⟩
  · cases e
def CMulB (i j : Int) : Prop := mulFits i j = true
theorem CMulB.ok {i j : Int} (h : CMulB i j) : IntMulOk i j := by
  have b : ∀ x : Int, Builtin.Int.intBits x ≤ x.natAbs.log2 + 1 := fun x => by
    unfold Builtin.Int.intBits
    split <;> omega
  have h1 := b i
  have h2 := b j
  have h3 : i.natAbs.log2 + j.natAbs.log2 < 134000000 := of_decide_eq_true h
  have e : bitsLine = 134217728 := by decide
  unfold IntMulOk
  intro z
  rw [Bool.and_eq_true] at z
  have z2 := z.2
  unfold Builtin.Int.intTooBig at z2
  have z3 := of_decide_eq_true z2
  rw [e] at z3
  omega
theorem op_mulB {X : Cx} : OpR X (binaryOp .Mult) (rI CMulB fun i j => .int (i * j)) := opI fun _ _ _ _ _ _ _ hc q => mul_int q hc.ok
theorem ov_mul : OpV K T (rI CMulB fun i j => .int (i * j)) dMul := ov_int fun x y d e => by
  unfold dMul at e
  split at e
  · split at e
    · rename_i h
      cases e; exact ⟨_, _, rfl, rfl, h, fun H => .int _⟩
    · cases e
  · cases e
def CDivB (_ j : Int) : Prop := j ≠ 0 ∧ j.natAbs.log2 < 9000
theorem op_divB {X : Cx} : OpR X (binaryOp .FloorDiv) (rI CDivB fun i j => .int (i.fdiv j)) := opI fun _ _ _ _ _ _ _ hc q => floordiv_int hc.1 q (.inl (PyProof.noPylong_of_log2 hc.2))
theorem ov_div : OpV K T (rI CDivB fun i j => .int (i.fdiv j)) dDiv := ov_int fun x y d e => by
  unfold dDiv at e
  split at e
  · split at e
    · rename_i h
      cases e; exact ⟨_, _, rfl, rfl, h, fun H => .int _⟩
    · cases e
  · cases e
theorem ov_mod : OpV K T (rI (fun _ j => j ≠ 0) fun i j => .int (i.fmod j)) dMod := ov_int fun x y d e => by
  unfold dMod at e
  split at e
  · split at e
    · rename_i h
      cases e; exact ⟨_, _, rfl, rfl, h, fun H => .int _⟩
    · cases e
  · cases e
theorem ov_pow : OpV K T (rI CPow fun i j => .int (i ^ j.toNat)) dPow := ov_int fun x y d e => by
  unfold dPow at e
  split at e
  · split at e
    · rename_i h
      cases e; exact ⟨_, _, rfl, rfl, h, fun H => .int _⟩
    · cases e
  · cases e
theorem uv_neg : UnV K T (rU fun i => .int (-i)) dNeg := fun H v1 d1 d r e Q q => by
  unfold dNeg at e
  split at e
  · cases e; cases r
    exact ⟨_, rfl, q _ H (Same.refl H) (.int _)⟩
  · cases e
/-- a list, tracked or known, + another -/
def rCatS (K : PySem.W.Frag) : R2 := fun x y H Q => ∃ l b xs zs, x = .ref l ∧ y = .ref b ∧ SqL K H l xs ∧ SqL K H b zs ∧ xs.length + zs.length ≤ sizeLine ∧ ∀ p, H p = none → Q (.ref p) (upd H p (.lst (xs ++ zs)))
theorem op_catS {X : Cx} : OpR X (binaryOp .Add) (rCatS X.K) := by
  intro pins s σ H x y v u Q I rx ry h
  obtain ⟨l, b, xs, zs, rfl, rfl, hH, hB, hz, q⟩ := h
  cases rx
  cases ry
  obtain ⟨its, r, ⟨⟨cls, dd, data, sl⟩, n, e, hc, hd, hs⟩, z⟩ := I.list hH
  obtain ⟨its2, r2, ⟨⟨cls2, dd2, data2, sl2⟩, n2, e2, hc2, hd2, hs2⟩, z2⟩ := I.list hB
  simp only at hc hd hs hc2 hd2 hs2
  subst hc hd hs hc2 hd2 hs2
  have hl := r.length
  have hl2 := r2.length
  have ea : its.toArray ++ its2.toArray = (its ++ its2).toArray := by simp
  refine concat_meets ⟨_, e, rfl⟩ ⟨_, e2, rfl⟩ noFill_list_add seq_list_add PySem.F.slot_list_add PySem.F.entry_list_add (PySem.F.args_list_add_2 _ _) (list_addW l b its.toArray its2.toArray n n2 none none sl sl2 (by rw [List.size_toArray, List.size_toArray]; omega)) ⟨e, e2, ?_⟩
  rw [ea]
  exact ⟨.ref _, _, I.lnew (t' := s.toks) (r.append r2) (by rw [List.length_append]; omega), rfl, q _ I.fresh⟩
def rAddStr : R2 := fun x y H Q => ∃ i j, x = .str i ∧ y = .str j ∧ i.length + j.length ≤ sizeLine ∧ Q (.str (i ++ j)) H
def rAddAny (K : PySem.W.Frag) : R2 := fun x y H Q => rI0 (fun i j => .int (i + j)) x y H Q ∨ (rCatS K x y H Q ∨ (rCatA K x y H Q ∨ rAddStr x y H Q))
theorem op_addAny {X : Cx} : OpR X (binaryOp .Add) (rAddAny X.K) := op_add.or (op_catS.or (op_catA.or op_add_str))
theorem ov_add : OpV K T (rAddAny K) dAdd := fun H v1 v2 d1 d2 d r1 r2 e Q q => by
  unfold dAdd at e
  split at e
  · cases e; cases r1; cases r2
    exact .inl ⟨_, _, rfl, rfl, q _ H (Same.refl H) (.int _)⟩
  · split at e
    · rename_i h
      cases e
      cases r1 with
      | lst h1 a1 =>
        cases r2 with
        | lst h2 a2 =>
          exact .inr (.inl ⟨_, _, _, _, rfl, rfl, h1, h2, by rw [a1.length, a2.length]; exact h, fun p hp => q _ _ (same_new hp) (rep_newL hp (a1.append a2))⟩)
    · cases e
  · split at e
    · rename_i h
      cases e
      cases r1 with
      | tup h1 a1 =>
        cases r2 with
        | tup h2 a2 =>
          refine .inr (.inr (.inl ⟨_, _, _, _, rfl, rfl, h1, h2, by rw [a1.length, a2.length]; exact h, fun z => ?_, fun _ z => ?_, fun _ _ p hp => q _ _ (same_new hp) (rep_newT hp (a1.append a2))⟩))
          · subst z
            cases a1
            exact q _ H (Same.refl H) (.tup h2 a2)
          · subst z
            cases a2
            rw [List.append_nil] at q
            exact q _ H (Same.refl H) (.tup h1 a1)
    · cases e
  · split at e
    · rename_i h
      cases e; cases r1; cases r2
      exact .inr (.inr (.inr ⟨_, _, rfl, rfl, h, q _ H (Same.refl H) (.str _)⟩))
    · cases e
  · cases e
theorem ov_eq : OpV K T (rEqD K) dEq := fun H v1 v2 d1 d2 d r1 r2 e Q q => by
  unfold dEq at e
  split at e
  · rename_i h
    rw [Bool.and_eq_true] at h
    cases e
    obtain ⟨a1, b1, c1⟩ := shp_ok d1 8 v1 h.1 r1
    obtain ⟨a2, b2, c2⟩ := shp_ok d2 8 v2 h.2 r2
    refine ⟨_, _, a1, a2, ?_, ?_, q _ H (Same.refl H) (.bl _)⟩
    · unfold SeqAt.shaped; rw [b1, Bool.true_and]; exact decide_eq_true (by omega)
    · unfold SeqAt.shaped; rw [b2, Bool.true_and]; exact decide_eq_true (by omega)
  · cases e
theorem ov_ne : OpV K T (rNeD K) dNe := fun H v1 v2 d1 d2 d r1 r2 e Q q => by
  unfold dNe at e
  split at e
  · rename_i h
    rw [Bool.and_eq_true] at h
    cases e
    obtain ⟨a1, b1, c1⟩ := shp_ok d1 8 v1 h.1 r1
    obtain ⟨a2, b2, c2⟩ := shp_ok d2 8 v2 h.2 r2
    refine ⟨_, _, a1, a2, ?_, ?_, q _ H (Same.refl H) (.bl _)⟩
    · unfold SeqAt.shaped; rw [b1, Bool.true_and]; exact decide_eq_true (by omega)
    · unfold SeqAt.shaped; rw [b2, Bool.true_and]; exact decide_eq_true (by omega)
  · cases e
theorem RepAll.atI {H : Hp} {vs : List V} {ds : List DD} {i : Int} {d : DD} (r : RepAll K T H vs ds) (e : atI ds i = some d) : ∃ v, atI vs i = some v ∧ Rep K T H v d := by
  unfold L2.atI at e ⊢
  rw [r.length]
  cases z : ixN ds.length i with
  | none => rw [z] at e; cases e
  | some j =>
    rw [z] at e
    exact r.get e
theorem ov_ix : OpV K T (rIx K) dIx := fun H v1 v2 d1 d2 d r1 r2 e Q q => by
  unfold dIx at e
  split at e
  · cases r2
    cases r1 with
    | lst h a =>
      obtain ⟨v, ev, rv⟩ := a.atI e
      exact .inl ⟨_, _, _, v, rfl, rfl, h, ev, q v H (Same.refl H) rv⟩
  · cases r2
    cases r1 with
    | tup h a =>
      obtain ⟨v, ev, rv⟩ := a.atI e
      exact .inr (.inl ⟨_, _, _, v, rfl, rfl, h, ev, q v H (Same.refl H) rv⟩)
  · cases r2
    cases r1
    split at e
    · rename_i h
      obtain ⟨c, ec, e⟩ := Option.map_eq_some_iff.mp e
      subst e
      exact .inr (.inr ⟨_, _, c, rfl, rfl, h, ec, q _ H (Same.refl H) (.str _)⟩)
    · cases e
  · cases e

/-! ### built-ins -/
theorem cv_abs : CaV K T (fun xs H Q => ∃ i, xs = [.int i] ∧ Q (.int (if i < 0 then -i else i)) H) dAbs := fun H vs ds d r e Q q => by
  unfold dAbs at e
  split at e
  · cases e
    cases r with
    | cons h t =>
      cases h; cases t
      exact ⟨_, rfl, q _ H (Same.refl H) (.int _)⟩
  · cases e
theorem cv_int : CaV K T (fun xs H Q => (∃ i, xs = [.int i] ∧ Q (.int i) H) ∨ ∃ k, xs = [.bl k] ∧ Q (.int (if k then 1 else 0)) H) dIntOf := fun H vs ds d r e Q q => by
  unfold dIntOf at e
  split at e
  · cases e
    cases r with
    | cons h t =>
      cases h; cases t
      exact .inl ⟨_, rfl, q _ H (Same.refl H) (.int _)⟩
  · cases e
    cases r with
    | cons h t =>
      cases h; cases t
      exact .inr ⟨_, rfl, q _ H (Same.refl H) (.int _)⟩
  · cases e
theorem cv_min2 : CaV K T (fun xs H Q => ∃ i j, xs = [.int i, .int j] ∧ Q (.int (if j < i then j else i)) H) dMin2 := fun H vs ds d r e Q q => by
  unfold dMin2 at e
  split at e
  · cases e
    cases r with
    | cons h t =>
      cases t with
      | cons h2 t =>
        cases h; cases h2; cases t
        exact ⟨_, _, rfl, q _ H (Same.refl H) (.int _)⟩
  · cases e
theorem cv_max2 : CaV K T (fun xs H Q => ∃ i j, xs = [.int i, .int j] ∧ Q (.int (if j > i then j else i)) H) dMax2 := fun H vs ds d r e Q q => by
  unfold dMax2 at e
  split at e
  · cases e
    cases r with
    | cons h t =>
      cases t with
      | cons h2 t =>
        cases h; cases h2; cases t
        exact ⟨_, _, rfl, q _ H (Same.refl H) (.int _)⟩
  · cases e
def rLenA (K : PySem.W.Frag) : List V → Hp → VK → Prop := fun xs H Q => (∃ p ys, xs = [.ref p] ∧ (SqL K H p ys ∨ SqT K H p ys) ∧ Q (.int ys.length) H) ∨ ∃ z, xs = [.str z] ∧ z.length ≤ sizeLine ∧ Q (.int z.length) H
theorem call_lenA {X : Cx} : CallR X (.builtin "len") (rLenA X.K) := call_len_seq.or call_len_str
theorem cv_len : CaV K T (rLenA K) dLen := fun H vs ds d r e Q q => by
  unfold dLen at e
  split at e
  · cases e
    cases r with
    | cons h t =>
      cases t
      cases h with
      | lst h a => exact .inl ⟨_, _, rfl, .inl h, by rw [a.length]; exact q _ H (Same.refl H) (.int _)⟩
  · cases e
    cases r with
    | cons h t =>
      cases t
      cases h with
      | tup h a => exact .inl ⟨_, _, rfl, .inr h, by rw [a.length]; exact q _ H (Same.refl H) (.int _)⟩
  · split at e
    · rename_i hz
      cases e
      cases r with
      | cons h t =>
        cases t; cases h
        exact .inr ⟨_, rfl, hz, q _ H (Same.refl H) (.int _)⟩
    · cases e
  · cases e
theorem cv_listOf : CaV K T (fun xs H Q => ∃ p ys, xs = [.ref p] ∧ (SqL K H p ys ∨ SqT K H p ys) ∧ ∀ l, H l = none → Q (.ref l) (upd H l (.lst ys))) dListOf := fun H vs ds d r e Q q => by
  unfold dListOf at e
  split at e
  · cases e
    cases r with
    | cons h t =>
      cases t
      cases h with
      | lst h a => exact ⟨_, _, rfl, .inl h, fun l hl => q _ _ (same_new hl) (rep_newL hl a)⟩
  · cases e
    cases r with
    | cons h t =>
      cases t
      cases h with
      | tup h a => exact ⟨_, _, rfl, .inr h, fun l hl => q _ _ (same_new hl) (rep_newL hl a)⟩
  · cases e
theorem cv_tupOf : CaV K T (fun xs H Q => ∃ p ys, xs = [.ref p] ∧ ((SqL K H p ys ∧ ∀ l, H l = none → Q (.ref l) (upd H l (.tup ys))) ∨ (SqT K H p ys ∧ Q (.ref p) H))) dTupOf := fun H vs ds d r e Q q => by
  unfold dTupOf at e
  split at e
  · cases e
    cases r with
    | cons h t =>
      cases t
      cases h with
      | lst h a => exact ⟨_, _, rfl, .inl ⟨h, fun l hl => q _ _ (same_new hl) (rep_newT hl a)⟩⟩
  · cases e
    cases r with
    | cons h t =>
      cases t
      cases h with
      | tup h a => exact ⟨_, _, rfl, .inr ⟨h, q _ H (Same.refl H) (.tup h a)⟩⟩
  · cases e
end
end DL

/-! DL3: pure expressions by the text's own syntax. -/
namespace DL
open PySem PySem.Spec PyProof.Rows L2
section
variable {X : Cx} {T : Tab} {pos : Pos} {a b e c : Expr} {es : List Expr} {ga gb ge : View → Option DD} {gc gd : View → Option Bool} {gs : View → Option (List DD)}
/-- arguments, with their number -/
def XAn (X : Cx) (T : Tab) (es : List Expr) (g : View → Option (List DD)) : Prop := (∃ t : TA, PA X es t ∧ VOkA X.K T t g) ∧ ∀ w ds, g w = some ds → ds.length = es.length
theorem xv_var (i : Nat) {x : Str} {pos : Pos} (hN : X.N[i]? = some x := by rfl) (hv : Vis X.env.scope x := by first | exact Or.inl rfl | exact Or.inr (Or.inl rfl) | exact Or.inr (Or.inr rfl)) (hd : (x == ("__debug__" : Str)) = false := by decide)
    (hcd : (x == ("__classdict__" : Str)) = false := by decide) : XV X T (.Name x pos) (gVar i) := ⟨_, pe_var hN hv hd hcd, vok_var⟩
theorem xv_int {i j pos} : XV X T (.Constant (.int i) j pos) (gC (.int i)) := ⟨_, pe_int, vok_c fun _ => .int i⟩
theorem xv_bl {b j pos} : XV X T (.Constant (.bool b) j pos) (gC (.bl b)) := ⟨_, pe_bl, vok_c fun _ => .bl b⟩
theorem xv_non {j pos} : XV X T (.Constant .none j pos) (gC .non) := ⟨_, pe_non, vok_c fun _ => .non⟩
theorem xv_str {x j pos} : XV X T (.Constant (.str x) j pos) (gC (.str x)) := ⟨_, pe_str, vok_c fun _ => .str x⟩
theorem xv_glob {x : Str} {v : V} {u : Value} {d : DD} (hg : Gl X x) (hm : X.mg x = some u) (r : RelV v u) (hr : ∀ H, Rep X.K T H v d) (hd : (x == ("__debug__" : Str)) = false := by decide) : XV X T (.Name x pos) (gC d) := ⟨_, pe_glob hg hm r hd, vok_c hr⟩
theorem xv_add (ha : XV X T a ga) (hb : XV X T b gb) : XV X T (.BinOp a .Add b pos) (gOp2 dAdd ga gb) :=
  let ⟨_, p, v⟩ := ha; let ⟨_, q, u⟩ := hb; ⟨_, pe_op op_addAny p q, vok_op ov_add v u⟩
theorem xv_sub (ha : XV X T a ga) (hb : XV X T b gb) : XV X T (.BinOp a .Sub b pos) (gOp2 dSub ga gb) :=
  let ⟨_, p, v⟩ := ha; let ⟨_, q, u⟩ := hb; ⟨_, pe_op op_sub p q, vok_op ov_sub v u⟩
theorem xv_mul (ha : XV X T a ga) (hb : XV X T b gb) : XV X T (.BinOp a .Mult b pos) (gOp2 dMul ga gb) :=
  let ⟨_, p, v⟩ := ha; let ⟨_, q, u⟩ := hb; ⟨_, pe_op op_mulB p q, vok_op ov_mul v u⟩
theorem xv_div (ha : XV X T a ga) (hb : XV X T b gb) : XV X T (.BinOp a .FloorDiv b pos) (gOp2 dDiv ga gb) :=
  let ⟨_, p, v⟩ := ha; let ⟨_, q, u⟩ := hb; ⟨_, pe_op op_divB p q, vok_op ov_div v u⟩
theorem xv_mod (ha : XV X T a ga) (hb : XV X T b gb) : XV X T (.BinOp a .Mod b pos) (gOp2 dMod ga gb) :=
  let ⟨_, p, v⟩ := ha; let ⟨_, q, u⟩ := hb; ⟨_, pe_op op_modN p q, vok_op ov_mod v u⟩
theorem xv_pow (ha : XV X T a ga) (hb : XV X T b gb) : XV X T (.BinOp a .Pow b pos) (gOp2 dPow ga gb) :=
  let ⟨_, p, v⟩ := ha; let ⟨_, q, u⟩ := hb; ⟨_, pe_op op_pow p q, vok_op ov_pow v u⟩
theorem xv_neg (ha : XV X T a ga) : XV X T (.UnaryOp .USub a pos) (gOp1 dNeg ga) :=
  let ⟨_, p, v⟩ := ha; ⟨_, pe_un un_neg p, vok_un uv_neg v⟩
theorem xv_not (ha : XV X T a ga) : XV X T (.UnaryOp .Not a pos) (gOp1 dNot ga) :=
  let ⟨_, p, v⟩ := ha; ⟨_, pe_not p, vok_notV v⟩
theorem xv_cmp {op : CmpOp} {r : R2} {f : DD → DD → Option DD} (ho : OpR X (compareOp op) r) (hf : OpV X.K T r f) (ha : XV X T a ga) (hb : XV X T b gb) (hm : behindInMarks op b = false) : XV X T (.Compare a [op] [b] pos) (gOp2 f ga gb) :=
  let ⟨_, p, v⟩ := ha; let ⟨_, q, u⟩ := hb; ⟨_, pe_cmpR ho p q hm, vok_op hf v u⟩
theorem xv_eq (hu : X.A.units + 64 < cLine) (ha : XV X T a ga) (hb : XV X T b gb) : XV X T (.Compare a [.Eq] [b] pos) (gOp2 dEq ga gb) := xv_cmp (op_eqD hu) ov_eq ha hb (nomark _)
theorem xv_ne (hu : X.A.units + 64 < cLine) (ha : XV X T a ga) (hb : XV X T b gb) : XV X T (.Compare a [.NotEq] [b] pos) (gOp2 dNe ga gb) := xv_cmp (op_neD hu) ov_ne ha hb (nomark _)
theorem xv_lt (ha : XV X T a ga) (hb : XV X T b gb) : XV X T (.Compare a [.Lt] [b] pos) (gOp2 dLt ga gb) := xv_cmp op_lt ov_cmp ha hb (nomark _)
theorem xv_le (ha : XV X T a ga) (hb : XV X T b gb) : XV X T (.Compare a [.LtE] [b] pos) (gOp2 dLe ga gb) := xv_cmp op_le ov_cmp ha hb (nomark _)
theorem xv_gt (ha : XV X T a ga) (hb : XV X T b gb) : XV X T (.Compare a [.Gt] [b] pos) (gOp2 dGt ga gb) := xv_cmp op_gt ov_cmp ha hb (nomark _)
theorem xv_ge (ha : XV X T a ga) (hb : XV X T b gb) : XV X T (.Compare a [.GtE] [b] pos) (gOp2 dGe ga gb) := xv_cmp op_ge ov_cmp ha hb (nomark _)
theorem vok_isN {K : PySem.W.Frag} {ta : TE} (v : VOk K T ta ga) : VOk K T (tIsN ta) (gOp1 dIsN ga) := fun σ w H d E e Q q => by
  obtain ⟨x, ex, e⟩ := Option.bind_eq_some_iff.mp e
  refine v σ w H x E ex _ fun u H1 s1 r1 => ?_
  cases r1 with
  | non => cases e; exact q _ H1 s1 (.bl true)
  | _ => cases e; exact q _ H1 s1 (.bl false)
theorem vok_notN {K : PySem.W.Frag} {ta : TE} (v : VOk K T ta ga) : VOk K T (tNotN ta) (gOp1 dNotN ga) := fun σ w H d E e Q q => by
  obtain ⟨x, ex, e⟩ := Option.bind_eq_some_iff.mp e
  refine v σ w H x E ex _ fun u H1 s1 r1 => ?_
  cases r1 with
  | non => cases e; exact q _ H1 s1 (.bl false)
  | _ => cases e; exact q _ H1 s1 (.bl true)
theorem xv_isN {j pos'} (ha : XV X T a ga) : XV X T (.Compare a [.Is] [.Constant .none j pos'] pos) (gOp1 dIsN ga) :=
  let ⟨_, p, v⟩ := ha; ⟨_, pe_cmp (pc_isN p) rfl, vok_isN v⟩
theorem xv_notN {j pos'} (ha : XV X T a ga) : XV X T (.Compare a [.IsNot] [.Constant .none j pos'] pos) (gOp1 dNotN ga) :=
  let ⟨_, p, v⟩ := ha; ⟨_, pe_cmp (pc_notN p) rfl, vok_notN v⟩
/-! ### and, or as values -/
theorem xv_one {op : BoolOp} (ha : XV X T a ga) : XV X T (.BoolOp op [a] pos) ga := let ⟨_, p, v⟩ := ha; ⟨_, pe_one p, v⟩
theorem xv_and {rest : List Expr} (ha : XV X T a ga) (hb : XV X T (.BoolOp .And (b :: rest) pos) gb) : XV X T (.BoolOp .And (a :: b :: rest) pos) (gAndV ga gb) :=
  let ⟨_, p, v⟩ := ha; let ⟨_, q, u⟩ := hb; ⟨_, pe_and p q, vok_andV v u⟩
theorem xv_or {rest : List Expr} (ha : XV X T a ga) (hb : XV X T (.BoolOp .Or (b :: rest) pos) gb) : XV X T (.BoolOp .Or (a :: b :: rest) pos) (gOrV ga gb) :=
  let ⟨_, p, v⟩ := ha; let ⟨_, q, u⟩ := hb; ⟨_, pe_or p q, vok_orV v u⟩
theorem xv_if (hc : XT X T c gc) (ha : XV X T a ga) (hb : XV X T b gb) : XV X T (.IfExp c a b pos) (gIf gc ga gb) :=
  let ⟨_, r, z⟩ := hc; let ⟨_, p, v⟩ := ha; let ⟨_, q, u⟩ := hb; ⟨_, pe_ifExp r p q, vok_if z v u⟩
/-! ### tests -/
theorem xt_val (h : XV X T e ge) (he : ∀ whole, isTrue e X.env whole = (do let v ← whole; standAt e.pos; holding [v] (truthy v)) := by intro _; rfl) : XT X T e (gTest ge) :=
  let ⟨_, p, v⟩ := h; ⟨_, pt_val p he, vok_test v⟩
theorem xt_cmp {op : CmpOp} {r : R2} {f : DD → DD → Option DD} (ho : OpR X (compareOp op) r) (hf : OpV X.K T r f) (ha : XV X T a ga) (hb : XV X T b gb) (hm : behindInMarks op b = false) : XT X T (.Compare a [op] [b] pos) (gTest (gOp2 f ga gb)) :=
  let ⟨_, p, v⟩ := ha; let ⟨_, q, u⟩ := hb; ⟨_, pt_cmpR ho p q hm, vok_test (vok_op hf v u)⟩
theorem xt_eq (hu : X.A.units + 64 < cLine) (ha : XV X T a ga) (hb : XV X T b gb) : XT X T (.Compare a [.Eq] [b] pos) (gTest (gOp2 dEq ga gb)) := xt_cmp (op_eqD hu) ov_eq ha hb (nomark _)
theorem xt_ne (hu : X.A.units + 64 < cLine) (ha : XV X T a ga) (hb : XV X T b gb) : XT X T (.Compare a [.NotEq] [b] pos) (gTest (gOp2 dNe ga gb)) := xt_cmp (op_neD hu) ov_ne ha hb (nomark _)
theorem xt_lt (ha : XV X T a ga) (hb : XV X T b gb) : XT X T (.Compare a [.Lt] [b] pos) (gTest (gOp2 dLt ga gb)) := xt_cmp op_lt ov_cmp ha hb (nomark _)
theorem xt_le (ha : XV X T a ga) (hb : XV X T b gb) : XT X T (.Compare a [.LtE] [b] pos) (gTest (gOp2 dLe ga gb)) := xt_cmp op_le ov_cmp ha hb (nomark _)
theorem xt_gt (ha : XV X T a ga) (hb : XV X T b gb) : XT X T (.Compare a [.Gt] [b] pos) (gTest (gOp2 dGt ga gb)) := xt_cmp op_gt ov_cmp ha hb (nomark _)
theorem xt_ge (ha : XV X T a ga) (hb : XV X T b gb) : XT X T (.Compare a [.GtE] [b] pos) (gTest (gOp2 dGe ga gb)) := xt_cmp op_ge ov_cmp ha hb (nomark _)
theorem xt_isN {j pos'} (ha : XV X T a ga) : XT X T (.Compare a [.Is] [.Constant .none j pos'] pos) (gTest (gOp1 dIsN ga)) :=
  let ⟨_, p, v⟩ := ha; ⟨_, pt_cmp (pc_isN p) rfl, vok_test (vok_isN v)⟩
theorem xt_notN {j pos'} (ha : XV X T a ga) : XT X T (.Compare a [.IsNot] [.Constant .none j pos'] pos) (gTest (gOp1 dNotN ga)) :=
  let ⟨_, p, v⟩ := ha; ⟨_, pt_cmp (pc_notN p) rfl, vok_test (vok_notN v)⟩
theorem xt_not (ha : XT X T a gc) : XT X T (.UnaryOp .Not a pos) (gNot gc) := let ⟨_, p, v⟩ := ha; ⟨_, pt_not p, vok_not v⟩
theorem xw_and1 (ha : XT X T a gc) : XW X T (.BoolOp .And [a] pos) gc := let ⟨_, p, v⟩ := ha; ⟨_, pw_and1 p, v⟩
theorem xw_or1 (ha : XT X T a gc) : XW X T (.BoolOp .Or [a] pos) gc := let ⟨_, p, v⟩ := ha; ⟨_, pw_or1 p, v⟩
theorem xw_and {rest : List Expr} (ha : XT X T a gc) (hb : XW X T (.BoolOp .And (b :: rest) pos) gd) : XW X T (.BoolOp .And (a :: b :: rest) pos) (gAnd gc gd) :=
  let ⟨_, p, v⟩ := ha; let ⟨_, q, u⟩ := hb; ⟨_, pw_and p q, vok_and v u⟩
theorem xw_or {rest : List Expr} (ha : XT X T a gc) (hb : XW X T (.BoolOp .Or (b :: rest) pos) gd) : XW X T (.BoolOp .Or (a :: b :: rest) pos) (gOr gc gd) :=
  let ⟨_, p, v⟩ := ha; let ⟨_, q, u⟩ := hb; ⟨_, pw_or p q, vok_or v u⟩
theorem xt_w (h : XW X T e gc) : XT X T e gc := let ⟨_, p, v⟩ := h; ⟨_, p.pt, v⟩
/-! ### arguments, displays -/
theorem xa_nil : XAn X T [] gNil := ⟨⟨_, pa_nil, vok_nil⟩, fun w ds e => by cases e; rfl⟩
theorem xa_cons (ha : XV X T e ge) (hr : XAn X T es gs) (hs : starEach (e :: es) X.env = (false, eval e X.env) :: starEach es X.env := by rfl) : XAn X T (e :: es) (gCons ge gs) :=
  let ⟨_, p, v⟩ := ha; let ⟨⟨_, q, u⟩, n⟩ := hr; ⟨⟨_, pa_cons p q hs, vok_cons v u⟩, fun w ds e => by
    obtain ⟨x, _, e⟩ := Option.bind_eq_some_iff.mp e
    obtain ⟨xs, es, e⟩ := Option.bind_eq_some_iff.mp e
    cases e
    rw [List.length_cons, n w xs es, List.length_cons]⟩
theorem xv_tup {x1} (h : XAn X T es gs) (hz : decide (es.length ≤ 1000) = true := by rfl) : XV X T (.Tuple es x1 pos) (gArgs dTup gs) :=
  let ⟨⟨_, q, u⟩, n⟩ := h; ⟨_, pe_tup q, vok_tup u n (Nat.le_trans (of_decide_eq_true hz) (by decide))⟩
theorem xv_lst (h : XAn X T es gs) (hz : decide (es.length ≤ 1000) = true := by rfl) : XV X T (.List es pos) (gArgs dLst gs) :=
  let ⟨⟨_, q, u⟩, n⟩ := h; ⟨_, pe_lst q, vok_lst u n (Nat.le_trans (of_decide_eq_true hz) (by decide))⟩
theorem xv_ix (ha : XV X T a ga) (hb : XV X T b gb) (hs : PlainIx b := by intro _ _; rfl) : XV X T (.Subscript a b pos) (gOp2 dIx ga gb) :=
  let ⟨_, p, v⟩ := ha; let ⟨_, q, u⟩ := hb; ⟨_, pe_ix ix_seq p q hs, vok_op ov_ix v u⟩
/-! ### built-ins -/
theorem xv_callB {x : Str} {id : String} {p : Pos} {r : List V → Hp → VK → Prop} {f : List DD → Option DD} (hc : CallR X (.builtin id) r) (hf : CaV X.K T r f) (hg : Gl X x) (hm : X.mg x = none) (hv : bootBuiltins x = some (.builtin id)) (ha : XAn X T (e :: es) gs)
    (hn : x ≠ "__name__" := by decide) (hdb : (x == ("__debug__" : Str)) = false := by decide)
    (he : starEach (e :: es) X.env = (false, eval e X.env) :: starEach es X.env := by rfl) (hpl : (backTo pos (starEach es X.env)).any (·.1) = false := by rfl) : XV X T (.Call (.Name x p) (e :: es) [] pos) (gArgs f gs) :=
  let ⟨⟨_, q, u⟩, n⟩ := ha; ⟨_, pe_callB hc hg hm hv q hn hdb he hpl, vok_cb hf u⟩
theorem xv_callTy {x : Str} {ty : String} {p : Pos} {r : List V → Hp → VK → Prop} {f : List DD → Option DD} (hc : CallR X (.type ty) r) (hf : CaV X.K T r f) (hg : Gl X x) (hm : X.mg x = none) (hv : bootBuiltins x = some (.type ty)) (ha : XAn X T (e :: es) gs)
    (hn : x ≠ "__name__" := by decide) (hdb : (x == ("__debug__" : Str)) = false := by decide)
    (he : starEach (e :: es) X.env = (false, eval e X.env) :: starEach es X.env := by rfl) (hpl : (backTo pos (starEach es X.env)).any (·.1) = false := by rfl) : XV X T (.Call (.Name x p) (e :: es) [] pos) (gArgs f gs) :=
  let ⟨⟨_, q, u⟩, n⟩ := ha; ⟨_, pe_callTy hc hg hm hv q hn hdb he hpl, vok_cb hf u⟩
end
/-! ### isinstance of data -/
inductive Ty where
  | non | bl | int | str | tup | lst | dct
def Ty.nm : Ty → String
  | .non => "NoneType" | .bl => "bool" | .int => "int" | .str => "str" | .tup => "tuple" | .lst => "list" | .dct => "dict"
def DD.ty : DD → Option Ty
  | .non => some .non | .bl _ => some .bl | .int _ => some .int | .str _ => some .str | .tup _ => some .tup | .lst _ => some .lst
  | .ins _ _ => none | .exc _ _ => none
/-- a thing of the type m is a t -/
def Ty.is : Ty → Ty → Bool
  | .non, .non => true | .bl, .bl => true | .int, .int => true | .int, .bl => true | .str, .str => true | .tup, .tup => true | .lst, .lst => true | .dct, .dct => true
  | _, _ => false
theorem kit_is {K : PySem.W.Frag} (t m : Ty) (ht : t ≠ .non) : PySem.W.kitOne K (.type m.nm) (.type t.nm) = some (t.is m) := by
  cases t <;> first
    | exact absurd rfl ht
    | (cases m <;> exact kit_ty (by decide +kernel))
def dIsi (t : Ty) (d : DD) : Option DD := (d.ty).map fun m => .bl (t.is m)
def dIsi2 (t u : Ty) (d : DD) : Option DD := (d.ty).map fun m => .bl (t.is m || u.is m)
theorem rep_ty {K : PySem.W.Frag} {T : Tab} {H : Hp} {v : V} {d : DD} {m : Ty} (r : Rep K T H v d) (e : d.ty = some m) : TyX K H v (.type m.nm) := by
  cases r with
  | non => cases e; exact .base .non
  | bl b => cases e; exact .base (.bl b)
  | int i => cases e; exact .base (.int i)
  | str s => cases e; exact .base (.str s)
  | tup h _ =>
    cases e
    rcases h with (h | ⟨o, h⟩) | ⟨o, its, n, h, c, _⟩
    · exact .base (.tup h)
    · exact .fTuple h
    · exact .kTuple h c
  | lst h _ =>
    cases e
    rcases h with (h | ⟨o, h⟩) | ⟨o, its, n, h, c, _⟩
    · exact .base (.lst h)
    · exact .base (.frz h)
    · exact .kList h c
  | ins _ _ _ _ _ _ => cases e
  | exc0 _ _ => cases e
  | excd _ _ _ _ _ _ => cases e
section
variable {X : Cx} {T : Tab} {pos : Pos} {e : Expr} {ge : View → Option DD}
theorem xv_isi {x t : Str} {ty : Ty} {p q : Pos} (ht : ty ≠ .non) (hg : Gl X x) (hm : X.mg x = none) (hv : bootBuiltins x = some (.builtin "isinstance")) (hgt : Gl X t) (hmt : X.mg t = none) (hvt : bootBuiltins t = some (.type ty.nm)) (he : XV X T e ge)
    (hn : x ≠ "__name__" := by decide) (hdb : (x == ("__debug__" : Str)) = false := by decide) (hnt : t ≠ "__name__" := by decide) (hdt : (t == ("__debug__" : Str)) = false := by decide)
    (h1 : starEach [e, .Name t q] X.env = (false, eval e X.env) :: starEach [.Name t q] X.env := by rfl) (hpl : (backTo pos (starEach [.Name t q] X.env)).any (·.1) = false := by rfl) :
    XV X T (.Call (.Name x p) [e, .Name t q] [] pos) (gOp1 (dIsi ty) ge) := by
  obtain ⟨te, pe, v⟩ := he
  refine ⟨_, pe_callB call_isi hg hm hv (pa_cons pe (pa_cons (pe_bltn (v := .ty ty.nm) hgt hmt hvt rfl hnt hdt) pa_nil) h1) hn hdb h1 hpl, fun σ w H d E e Q q => ?_⟩
  obtain ⟨x1, ex, e⟩ := Option.bind_eq_some_iff.mp e
  obtain ⟨m, em, e⟩ := Option.map_eq_some_iff.mp e
  subst e
  refine v σ w H x1 E ex _ fun u H1 s1 r1 => ?_
  exact ⟨u, .ty ty.nm, _, _, _, rfl, .ty _, rep_ty r1 em, kit_is ty m ht, q _ H1 s1 (.bl _)⟩
theorem xv_isi2 {x t t2 : Str} {ty ty2 : Ty} {p q q2 q3 : Pos} {x1} (ht : ty ≠ .non) (ht2 : ty2 ≠ .non) (hg : Gl X x) (hm : X.mg x = none) (hv : bootBuiltins x = some (.builtin "isinstance")) (hgt : Gl X t) (hmt : X.mg t = none) (hvt : bootBuiltins t = some (.type ty.nm))
    (hgt2 : Gl X t2) (hmt2 : X.mg t2 = none) (hvt2 : bootBuiltins t2 = some (.type ty2.nm)) (he : XV X T e ge)
    (hn : x ≠ "__name__" := by decide) (hdb : (x == ("__debug__" : Str)) = false := by decide) (hnt : t ≠ "__name__" := by decide) (hdt : (t == ("__debug__" : Str)) = false := by decide) (hnt2 : t2 ≠ "__name__" := by decide) (hdt2 : (t2 == ("__debug__" : Str)) = false := by decide)
    (h0 : starEach [.Name t q, .Name t2 q2] X.env = (false, eval (.Name t q) X.env) :: starEach [.Name t2 q2] X.env := by rfl)
    (h1 : starEach [e, .Tuple [.Name t q, .Name t2 q2] x1 q3] X.env = (false, eval e X.env) :: starEach [.Tuple [.Name t q, .Name t2 q2] x1 q3] X.env := by rfl) (hpl : (backTo pos (starEach [.Tuple [.Name t q, .Name t2 q2] x1 q3] X.env)).any (·.1) = false := by rfl) :
    XV X T (.Call (.Name x p) [e, .Tuple [.Name t q, .Name t2 q2] x1 q3] [] pos) (gOp1 (dIsi2 ty ty2) ge) := by
  obtain ⟨te, pe, v⟩ := he
  refine ⟨_, pe_callB call_isiT hg hm hv (pa_cons pe (pa_cons (pe_tup (pa_cons (pe_bltn (v := .ty ty.nm) hgt hmt hvt rfl hnt hdt) (pa_cons (pe_bltn (v := .ty ty2.nm) hgt2 hmt2 hvt2 rfl hnt2 hdt2) pa_nil) h0)) pa_nil) h1) hn hdb h1 hpl, fun σ w H d E e Q q => ?_⟩
  obtain ⟨x1, ex, e⟩ := Option.bind_eq_some_iff.mp e
  obtain ⟨m, em, e⟩ := Option.map_eq_some_iff.mp e
  subst e
  refine v σ w H x1 E ex _ fun u H1 s1 r1 => ?_
  refine ⟨by show 2 ≤ sizeLine; decide, fun tp htp => ?_⟩
  refine ⟨u, tp, [.ty ty.nm, .ty ty2.nm], _, [.type ty.nm, .type ty2.nm], _, rfl, upd_same, .cons (.ty _) (.cons (.ty _) .nil), rep_ty (r1.mono (same_new htp)) em, ?_, q _ _ (s1.trans (same_new htp)) (.bl _)⟩
  refine kitAny_cons (kit_is ty m ht) (fun hb => ?_) (fun hb => by rw [hb, Bool.true_or])
  rw [hb, Bool.false_or]
  exact kitAny_cons (kit_is ty2 m ht2) (fun hb => by rw [hb]; exact kitAny_nil) (fun hb => hb)
end
end DL

/-! DL4: what changes things: expressions, tests, statements as steps of the environment. -/
namespace DL
open PySem PySem.Spec PyProof.Rows L2

inductive Res (α : Type) where
  | ok (a : α) (ρ : Env)
  | ex (c : String) (ds : List DD) (ρ : Env)
  | bad
abbrev Act (α : Type) := Env → Res α
def sRet {α : Type} (a : α) : Act α := fun ρ => .ok a ρ
def sBind {α β : Type} (f : Act α) (k : α → Act β) : Act β := fun ρ => match f ρ with
  | .ok a ρ' => k a ρ'
  | .ex c ds ρ' => .ex c ds ρ'
  | .bad => .bad
/-- a pure expression without lists -/
def sV (g : View → Option DD) : Act OO := fun ρ => match g ρ.views with
  | some d => if d.td = true then .ok (.dat d) ρ else .bad
  | none => .bad
def sT (g : View → Option Bool) : Act Bool := fun ρ => match g ρ.views with
  | some b => .ok b ρ
  | none => .bad
def sOpt {α : Type} (o : Option α) : Act α := fun ρ => match o with
  | some a => .ok a ρ
  | none => .bad
inductive Fl where
  | nx | ret (o : OO) | brk | cnt

def KeepL (S : List Addr) (H H' : Hp) : Prop := ∀ a, 0 < S.count a → H' a = H a
theorem KeepL.refl {S : List Addr} {H : Hp} : KeepL S H H := fun _ _ => rfl
theorem KeepL.trans {S : List Addr} {H H1 H2 : Hp} (a : KeepL S H H1) (b : KeepL S H1 H2) : KeepL S H H2 := fun x h => (b x h).trans (a x h)
/-- an exception of the class c with the fields ds -/
def ExR (K : PySem.W.Frag) (T : Tab) (F : Hp) (c : String) (ds : List DD) (cls : Value) (dd : Option Addr) : Prop :=
  ∃ C ns, T.cls c = some (C, ns) ∧ cls = .ref C ∧ ((ns = [] ∧ ds = [] ∧ dd = none) ∨
    ∃ (dx : Addr) (fs : List (Str × V)) (vs : List V), dd = some dx ∧ F dx = some (.xd fs) ∧ (∀ (i : Nat) (n : Str) (v : V), ns[i]? = some n → vs[i]? = some v → fs.lookup n = some v) ∧ vs.length = ns.length ∧ RepAll K T F vs ds)
theorem ExR.mono {K : PySem.W.Frag} {T : Tab} {F F' : Hp} {c : String} {ds : List DD} {cls : Value} {dd : Option Addr} (e : Same F F') (h : ExR K T F c ds cls dd) : ExR K T F' c ds cls dd := by
  obtain ⟨C, ns, h1, h2, h3⟩ := h
  refine ⟨C, ns, h1, h2, ?_⟩
  rcases h3 with h3 | ⟨dx, fs, vs, a1, a2, a3, a4, a5⟩
  · exact .inl h3
  · exact .inr ⟨dx, fs, vs, a1, e _ _ a2, a3, a4, a5.mono e⟩
/-- what is wanted of an outcome -/
def PostX {α : Type} (K : PySem.W.Frag) (T : Tab) (W : WX) (ps : List V) (σ : L2.St) (F H : Hp) (S : List Addr) (Qa : α → Env → Hp → Hp → Prop) : Res α → Prop
  | .ok a ρ' => ∀ F' H', Same F F' → KeepL S H H' → Qa a ρ' F' H'
  | .ex c ds ρ' => ∀ cls dd F' H', Same F F' → KeepL S H H' → SA K T ps F' H' σ ρ' S → ExR K T F' c ds cls dd → W cls dd σ H'
  | .bad => False
section
variable {K : PySem.W.Frag} {T : Tab} {W : WX} {ps : List V} {σ : L2.St} {F F' H H' : Hp} {S : List Addr} {α β : Type}
theorem PostX.later {Qa : α → Env → Hp → Hp → Prop} {r : Res α} (h : PostX K T W ps σ F H S Qa r) (e : Same F F') (k : KeepL S H H') : PostX K T W ps σ F' H' S Qa r := by
  cases r with
  | ok a ρ' => exact fun F2 H2 e2 k2 => h F2 H2 (e.trans e2) (k.trans k2)
  | ex c ds ρ' => exact fun cls dd F2 H2 e2 k2 => h cls dd F2 H2 (e.trans e2) (k.trans k2)
  | bad => exact h
theorem PostX.bind {Qb : β → Env → Hp → Hp → Prop} {f : Act α} {k : α → Act β} {ρ : Env} (h : PostX K T W ps σ F H S Qb (sBind f k ρ)) :
    PostX K T W ps σ F H S (fun a ρ' F' H' => PostX K T W ps σ F' H' S Qb (k a ρ')) (f ρ) := by
  unfold sBind at h
  cases z : f ρ with
  | ok a ρ' =>
    rw [z] at h
    exact fun F2 H2 e2 k2 => PostX.later h e2 k2
  | ex c ds ρ' => rw [z] at h; exact h
  | bad => rw [z] at h; exact h
theorem PostX.imp {Qa Qb : α → Env → Hp → Hp → Prop} {r : Res α} (h : PostX K T W ps σ F H S Qa r) (i : ∀ a ρ' F' H', Same F F' → KeepL S H H' → Qa a ρ' F' H' → Qb a ρ' F' H') : PostX K T W ps σ F H S Qb r := by
  cases r with
  | ok a ρ' => exact fun F2 H2 e2 k2 => i a ρ' F2 H2 e2 k2 (h F2 H2 e2 k2)
  | ex c ds ρ' => exact h
  | bad => exact h
/-- here and now -/
theorem PostX.now {Qa : α → Env → Hp → Hp → Prop} {a : α} {ρ : Env} (h : PostX K T W ps σ F H S Qa (.ok a ρ)) : Qa a ρ F H := h F H (Same.refl F) .refl
theorem SA.keep {ρ : Env} (s : SA K T ps F H σ ρ S) (e : Same H H') : KeepL S H H' := fun a ha => by
  cases q : H a with
  | none => exact absurd q (s.ga.th a ha)
  | some o => exact e _ _ q
end
/-- an expression, a frozen argument list, a test: as steps -/
def EOk (K : PySem.W.Frag) (T : Tab) (W : WX) (t : TE) (f : Act OO) : Prop := ∀ (ps : List V) (σ : L2.St) (ρ : Env) (F H : Hp) (S : List Addr) (Q : VK), SA K T ps F H σ ρ S →
  PostX K T W ps σ F H S (fun o ρ' F' H' => ∀ v B, SA K T ps F' H' σ ρ' (B ++ S) → Own K T F' H' v o B → Q v H') (f ρ) → t σ H Q
def EOkD (K : PySem.W.Frag) (T : Tab) (W : WX) (t : TE) (f : Act DD) : Prop := ∀ (ps : List V) (σ : L2.St) (ρ : Env) (F H : Hp) (S : List Addr) (Q : VK), SA K T ps F H σ ρ S →
  PostX K T W ps σ F H S (fun d ρ' F' H' => ∀ v, SA K T ps F' H' σ ρ' S → Rep K T F' v d → Q v H') (f ρ) → t σ H Q
def EOkA (K : PySem.W.Frag) (T : Tab) (W : WX) (t : TA) (f : Act (List DD)) : Prop := ∀ (ps : List V) (σ : L2.St) (ρ : Env) (F H : Hp) (S : List Addr) (Q : List V → Hp → Prop), SA K T ps F H σ ρ S →
  PostX K T W ps σ F H S (fun ds ρ' F' H' => ∀ vs, SA K T ps F' H' σ ρ' S → RepAll K T F' vs ds → Q vs H') (f ρ) → t σ H Q
def EOkT (K : PySem.W.Frag) (T : Tab) (W : WX) (t : TT) (f : Act Bool) : Prop := ∀ (ps : List V) (σ : L2.St) (ρ : Env) (F H : Hp) (S : List Addr) (Q : Bool → Hp → Prop), SA K T ps F H σ ρ S →
  PostX K T W ps σ F H S (fun b ρ' F' H' => SA K T ps F' H' σ ρ' S → Q b H') (f ρ) → t σ H Q
/-- what is wanted behind a statement -/
def PostS (K : PySem.W.Frag) (T : Tab) (W : WX) (ps : List V) (F H : Hp) (S : List Addr) (D : Ends) : Res Fl → Prop
  | .ok .nx ρ' => ∀ σ' F' H', Same F F' → KeepL S H H' → SA K T ps F' H' σ' ρ' S → D.nx σ' H'
  | .ok (.ret o) ρ' => ∀ v σ' F' H' B, Same F F' → KeepL S H H' → SA K T ps F' H' σ' ρ' (B ++ S) → Own K T F' H' v o B → D.rt v H'
  | .ok .brk ρ' => ∀ σ' F' H', Same F F' → KeepL S H H' → SA K T ps F' H' σ' ρ' S → D.bk σ' H'
  | .ok .cnt ρ' => ∀ σ' F' H', Same F F' → KeepL S H H' → SA K T ps F' H' σ' ρ' S → D.ct σ' H'
  | .ex c ds ρ' => ∀ cls dd σ' F' H', Same F F' → KeepL S H H' → SA K T ps F' H' σ' ρ' S → ExR K T F' c ds cls dd → W cls dd σ' H'
  | .bad => False
def SOk (K : PySem.W.Frag) (T : Tab) (W : WX) (t : TS) (f : Act Fl) : Prop := ∀ (ps : List V) (σ : L2.St) (ρ : Env) (F H : Hp) (S : List Addr) (D : Ends), SA K T ps F H σ ρ S → PostS K T W ps F H S D (f ρ) → t D σ H
theorem PostS.later {K : PySem.W.Frag} {T : Tab} {W : WX} {ps : List V} {F F' H H' : Hp} {S : List Addr} {D : Ends} {r : Res Fl} (h : PostS K T W ps F H S D r) (e : Same F F') (k : KeepL S H H') : PostS K T W ps F' H' S D r := by
  cases r with
  | ok a ρ' =>
    cases a with
    | nx => exact fun σ2 F2 H2 e2 k2 => h σ2 F2 H2 (e.trans e2) (k.trans k2)
    | ret o => exact fun v σ2 F2 H2 B e2 k2 => h v σ2 F2 H2 B (e.trans e2) (k.trans k2)
    | brk => exact fun σ2 F2 H2 e2 k2 => h σ2 F2 H2 (e.trans e2) (k.trans k2)
    | cnt => exact fun σ2 F2 H2 e2 k2 => h σ2 F2 H2 (e.trans e2) (k.trans k2)
  | ex c ds ρ' => exact fun cls dd σ2 F2 H2 e2 k2 => h cls dd σ2 F2 H2 (e.trans e2) (k.trans k2)
  | bad => exact h
/-- an expression's step, then a statement's -/
theorem PostS.bind {K : PySem.W.Frag} {T : Tab} {W : WX} {ps : List V} {σ : L2.St} {F H : Hp} {S : List Addr} {D : Ends} {α : Type} {f : Act α} {k : α → Act Fl} {ρ : Env} (h : PostS K T W ps F H S D (sBind f k ρ)) :
    PostX K T W ps σ F H S (fun a ρ' F' H' => PostS K T W ps F' H' S D (k a ρ')) (f ρ) := by
  unfold sBind at h
  cases z : f ρ with
  | ok a ρ' =>
    rw [z] at h
    exact fun F2 H2 e2 k2 => PostS.later h e2 k2
  | ex c ds ρ' => rw [z] at h; exact fun cls dd F2 H2 => h cls dd σ F2 H2
  | bad => rw [z] at h; exact h

/-! ### the syntax's judgements -/
def XE (X : Cx) (T : Tab) (W : WX) (e : Expr) (f : Act OO) : Prop := ∃ t : TE, PE X e t ∧ EOk X.K T W t f
def XD (X : Cx) (T : Tab) (W : WX) (e : Expr) (f : Act DD) : Prop := ∃ t : TE, PE X e t ∧ EOkD X.K T W t f
def XAs (X : Cx) (T : Tab) (W : WX) (es : List Expr) (f : Act (List DD)) : Prop := (∃ t : TA, PA X es t ∧ EOkA X.K T W t f) ∧ ∀ ρ ds ρ', f ρ = .ok ds ρ' → ds.length = es.length
def XTe (X : Cx) (T : Tab) (W : WX) (e : Expr) (f : Act Bool) : Prop := ∃ t : TT, PT X e t ∧ EOkT X.K T W t f
def XWe (X : Cx) (T : Tab) (W : WX) (e : Expr) (f : Act Bool) : Prop := ∃ t : TT, PW X e t ∧ EOkT X.K T W t f
def XS (X : Cx) (T : Tab) (W : WX) (st : Stmt) (f : Act Fl) : Prop := ∃ t : TS, PS X st t ∧ SOk X.K T W t f
def XSs (X : Cx) (T : Tab) (W : WX) (sts : List Stmt) (f : Act Fl) : Prop := ∃ t : TS, PSs X sts t ∧ SOk X.K T W t f

/-! ### steps for expressions -/
section
variable {K : PySem.W.Frag} {T : Tab} {W : WX}
theorem eok_v {t : TE} {g : View → Option DD} (h : VOk K T t g) : EOk K T W t (sV g) := fun ps σ ρ F H S Q s p => by
  unfold sV at p
  cases z : g ρ.views with
  | none => rw [z] at p; exact p.elim
  | some d =>
    rw [z] at p
    dsimp only at p
    split at p
    · rename_i td
      refine h σ ρ.views H d s.views z Q fun v H' e r => ?_
      have s' := s.ext e
      refine p (grow F H') H' (grow_same s.ga.sm e) (s.keep e) v [] s' (.dat (r.toF s'.ga.ft td))
    · exact p.elim
theorem eok_t {t : TT} {g : View → Option Bool} (h : VOkT K T t g) : EOkT K T W t (sT g) := fun ps σ ρ F H S Q s p => by
  unfold sT at p
  cases z : g ρ.views with
  | none => rw [z] at p; exact p.elim
  | some d =>
    rw [z] at p
    refine h σ ρ.views H d s.views z Q fun H' e => ?_
    exact p (grow F H') H' (grow_same s.ga.sm e) (s.keep e) (s.ext e)
/-- the thing frozen -/
def sFz (f : Act OO) : Act DD := sBind f fun o => sRet o.view
theorem eok_fz {t : TE} {f : Act OO} (h : EOk K T W t f) : EOkD K T W t (sFz f) := fun ps σ ρ F H S Q s p => by
  refine h ps σ ρ F H S Q s (PostX.imp (PostX.bind p) fun o ρ' F' H' e k q v B s' w => ?_)
  obtain ⟨F2, e2, s2, r2⟩ := s'.freeze w
  exact q F2 H' e2 .refl v s2 r2
/-- a frozen datum, handed on -/
def sDat (f : Act DD) : Act OO := sBind f fun d => sRet (.dat d)
theorem eok_dat {t : TE} {f : Act DD} (h : EOkD K T W t f) : EOk K T W t (sDat f) := fun ps σ ρ F H S Q s p => by
  refine h ps σ ρ F H S Q s (PostX.imp (PostX.bind p) fun d ρ' F' H' e k q v s' r => ?_)
  exact PostX.now q v [] s' (.dat r)
/-- a name that holds frozen data -/
def sName (i : Nat) : Act OO := fun ρ => match ρ.sl[i]? with
  | some (.own (.dat d)) => .ok (.dat d) ρ
  | _ => .bad
theorem eok_name {i : Nat} : EOk K T W (tVar i) (sName i) := fun ps σ ρ F H S Q s p => by
  unfold sName at p
  split at p
  · rename_i d z
    obtain ⟨A, B, r, b, g⟩ := id s
    obtain ⟨x, A0, A1, A2, h1, _, h3, _⟩ := r.focus z
    cases h3 with
    | own h =>
      cases h with
      | dat r' => exact ⟨_, h1, PostX.now p _ [] s (.dat r')⟩
  · exact p.elim
/-- a new thing in the place of .. -/
theorem SA.new {ps : List V} {σ : L2.St} {ρ : Env} {F H : Hp} {S : List Addr} {q : Addr} {o : HO} (s : SA K T ps F H σ ρ S) (hq : H q = none) (hf : isFz o = false) : SA K T ps F (upd H q o) σ ρ (q :: S) := by
  obtain ⟨A, B, r, b, g⟩ := s
  have fq : F q = none := by
    cases z : F q with
    | none => rfl
    | some u => rw [g.sm _ _ z] at hq; cases hq
  have cq : (A ++ (B ++ S)).count q = 0 := by
    by_cases c : 0 < (A ++ (B ++ S)).count q
    · exact absurd hq (g.th q c)
    · omega
  have kk : ∀ a, 0 < (A ++ (B ++ S)).count a → upd H q o a = H a := fun a ha => upd_ne fun z => by rw [z] at ha; omega
  refine ⟨A, B, r.frame (fun _ _ z => z) fun a ha => kk a (by simp only [List.count_append]; omega), b.frame (fun _ _ z => z) fun a ha => kk a (by simp only [List.count_append]; omega), ⟨fun a => ?_, fun a ha => ?_, fun a ha => ?_, fun a u e => ?_, fun a u e z => ?_⟩⟩
  · have n := g.nd a
    simp only [List.count_append, List.count_cons] at n cq ⊢
    by_cases h : a = q
    · subst h; simp; omega
    · have : (q == a) = false := by simpa using fun z => h z.symm
      rw [this]; simp; omega
  · by_cases h : a = q
    · subst h; exact fq
    · have : (q == a) = false := by simpa using fun z => h z.symm
      refine g.fr a ?_
      simp only [List.count_append, List.count_cons, this] at ha ⊢
      simpa using ha
  · by_cases h : a = q
    · subst h; rw [upd_same]; simp
    · have : (q == a) = false := by simpa using fun z => h z.symm
      rw [upd_ne h]
      refine g.th a ?_
      simp only [List.count_append, List.count_cons, this] at ha ⊢
      simpa using ha
  · rw [upd_ne (fun z => by rw [z, fq] at e; cases e)]
    exact g.sm a u e
  · by_cases h : a = q
    · subst h
      rw [upd_same] at e
      cases e
      rw [hf] at z; cases z
    · rw [upd_ne h] at e
      exact g.ft a u e z
/-- a new frozen tuple -/
theorem SA.newT {ps : List V} {σ : L2.St} {ρ : Env} {F H : Hp} {S : List Addr} {q : Addr} {vs : List V} {ds : List DD} (s : SA K T ps F H σ ρ S) (hq : H q = none) (r : RepAll K T F vs ds) :
    ∃ F', Same F F' ∧ SA K T ps F' (upd H q (.tup vs)) σ ρ S ∧ Rep K T F' (.ref q) (.tup ds) := by
  have e : Same H (upd H q (.tup vs)) := same_new hq
  have sm := grow_same s.ga.sm e
  refine ⟨grow F (upd H q (.tup vs)), sm, s.ext e, .tup (.inl (.inl ?_)) (r.mono sm)⟩
  unfold grow
  rw [upd_same]
  rfl
/-- a new list of frozen things -/
theorem SA.newL {ps : List V} {σ : L2.St} {ρ : Env} {F H : Hp} {S : List Addr} {q : Addr} {vs : List V} {ds : List DD} (s : SA K T ps F H σ ρ S) (hq : H q = none) (r : RepAll K T F vs ds) :
    SA K T ps F (upd H q (.lst vs)) σ ρ ([q] ++ S) ∧ Own K T F (upd H q (.lst vs)) (.ref q) (.lst (ds.map .dat)) [q] :=
  ⟨s.new hq rfl, .lst upd_same (OwnAll.dats r)⟩
def sNil : Act (List DD) := sRet []
def sCons (a : Act DD) (r : Act (List DD)) : Act (List DD) := sBind a fun d => sBind r fun ds => sRet (d :: ds)
theorem eok_nil : EOkA K T W tNil sNil := fun ps σ ρ F H S Q s p => PostX.now p [] s .nil
theorem eok_cons {ta : TE} {tr : TA} {fa : Act DD} {fr : Act (List DD)} (ha : EOkD K T W ta fa) (hr : EOkA K T W tr fr) : EOkA K T W (tCons ta tr) (sCons fa fr) := fun ps σ ρ F H S Q s p => by
  refine ha ps σ ρ F H S _ s (PostX.imp (PostX.bind p) fun d ρ' F' H' e k q v s' r => ?_)
  refine hr ps σ ρ' F' H' S _ s' (PostX.imp (PostX.bind q) fun ds ρ2 F2 H2 e2 k2 q2 vs s2 r2 => ?_)
  exact PostX.now q2 _ s2 (.cons (r.mono e2) r2)
def sTup (f : Act (List DD)) : Act OO := sBind f fun ds => sRet (.dat (.tup ds))
def sLst (f : Act (List DD)) : Act OO := sBind f fun ds => sRet (.lst (ds.map .dat))
theorem eok_tup {t : TA} {f : Act (List DD)} {n : Nat} (h : EOkA K T W t f) (hn : ∀ ρ ds ρ', f ρ = .ok ds ρ' → ds.length = n) (hz : n ≤ sizeLine) : EOk K T W (tTup t) (sTup f) := fun ps σ ρ F H S Q s p => by
  refine h ps σ ρ F H S _ s ?_
  have p' := PostX.bind p
  cases z : f ρ with
  | ex c ds ρ' => rw [z] at p'; exact p'
  | bad => rw [z] at p'; exact p'
  | ok ds ρ' =>
    rw [z] at p'
    intro F1 H1 e1 k1 vs s1 r1
    refine ⟨by rw [r1.length, hn ρ ds ρ' z]; exact hz, fun q hq => ?_⟩
    obtain ⟨F2, e2, s2, r2⟩ := s1.newT hq r1
    exact PostX.now (PostX.later (p' F1 H1 e1 k1) e2 (s1.keep (same_new hq))) (.ref q) [] s2 (.dat r2)
theorem eok_lst {t : TA} {f : Act (List DD)} {n : Nat} (h : EOkA K T W t f) (hn : ∀ ρ ds ρ', f ρ = .ok ds ρ' → ds.length = n) (hz : n ≤ sizeLine) : EOk K T W (tLst t) (sLst f) := fun ps σ ρ F H S Q s p => by
  refine h ps σ ρ F H S _ s ?_
  have p' := PostX.bind p
  cases z : f ρ with
  | ex c ds ρ' => rw [z] at p'; exact p'
  | bad => rw [z] at p'; exact p'
  | ok ds ρ' =>
    rw [z] at p'
    intro F1 H1 e1 k1 vs s1 r1
    refine ⟨by rw [r1.length, hn ρ ds ρ' z]; exact hz, fun q hq => ?_⟩
    obtain ⟨s2, w2⟩ := s1.newL hq r1
    exact PostX.now (PostX.later (p' F1 H1 e1 k1) (Same.refl F1) (s1.keep (same_new hq))) (.ref q) [q] s2 w2
/-- an operator on frozen things, its answer without lists -/
def sOp2 (f : DD → DD → Option DD) (a b : Act DD) : Act OO := sBind a fun x => sBind b fun y => fun ρ => match f x y with
  | some d => if d.td = true then .ok (.dat d) ρ else .bad
  | none => .bad
def sOp1 (f : DD → Option DD) (a : Act DD) : Act OO := sBind a fun x => fun ρ => match f x with
  | some d => if d.td = true then .ok (.dat d) ρ else .bad
  | none => .bad
def sArgs (f : List DD → Option DD) (a : Act (List DD)) : Act OO := sBind a fun x => fun ρ => match f x with
  | some d => if d.td = true then .ok (.dat d) ρ else .bad
  | none => .bad
/-- .. a new list of things without lists -/
def sArgsL (f : List DD → Option DD) (a : Act (List DD)) : Act OO := sBind a fun x => fun ρ => match f x with
  | some (.lst ds) => .ok (.lst (ds.map .dat)) ρ
  | _ => .bad
theorem eok_op2 {r : R2} {f : DD → DD → Option DD} {ta tb : TE} {fa fb : Act DD} (hf : OpV K T r f) (ha : EOkD K T W ta fa) (hb : EOkD K T W tb fb) : EOk K T W (tOp r ta tb) (sOp2 f fa fb) := fun ps σ ρ F H S Q s p => by
  refine ha ps σ ρ F H S _ s (PostX.imp (PostX.bind p) fun x ρ1 F1 H1 e1 k1 p1 v1 s1 r1 => ?_)
  refine hb ps σ ρ1 F1 H1 S _ s1 (PostX.imp (PostX.bind p1) fun y ρ2 F2 H2 e2 k2 p2 v2 s2 r2 => ?_)
  cases z : f x y with
  | none => rw [z] at p2; exact p2.elim
  | some d =>
    rw [z] at p2
    dsimp only at p2
    split at p2
    · rename_i td
      refine hf H2 v1 v2 x y d ((r1.mono e2).mono s2.ga.sm) (r2.mono s2.ga.sm) z Q fun v H' e r => ?_
      have s' := s2.ext e
      exact p2 (grow F2 H') H' (grow_same s2.ga.sm e) (s2.keep e) v [] s' (.dat (r.toF s'.ga.ft td))
    · exact p2.elim
theorem eok_op1 {r : V → Hp → VK → Prop} {f : DD → Option DD} {ta : TE} {fa : Act DD} (hf : UnV K T r f) (ha : EOkD K T W ta fa) : EOk K T W (tUn r ta) (sOp1 f fa) := fun ps σ ρ F H S Q s p => by
  refine ha ps σ ρ F H S _ s (PostX.imp (PostX.bind p) fun x ρ2 F2 H2 e2 k2 p2 v2 s2 r2 => ?_)
  cases z : f x with
  | none => rw [z] at p2; exact p2.elim
  | some d =>
    rw [z] at p2
    dsimp only at p2
    split at p2
    · rename_i td
      refine hf H2 v2 x d (r2.mono s2.ga.sm) z Q fun v H' e r => ?_
      have s' := s2.ext e
      exact p2 (grow F2 H') H' (grow_same s2.ga.sm e) (s2.keep e) v [] s' (.dat (r.toF s'.ga.ft td))
    · exact p2.elim
theorem eok_cb {r : List V → Hp → VK → Prop} {f : List DD → Option DD} {t : TA} {fa : Act (List DD)} (hf : CaV K T r f) (ha : EOkA K T W t fa) : EOk K T W (tCB r t) (sArgs f fa) := fun ps σ ρ F H S Q s p => by
  refine ha ps σ ρ F H S _ s (PostX.imp (PostX.bind p) fun x ρ2 F2 H2 e2 k2 p2 v2 s2 r2 => ?_)
  cases z : f x with
  | none => rw [z] at p2; exact p2.elim
  | some d =>
    rw [z] at p2
    dsimp only at p2
    split at p2
    · rename_i td
      refine hf H2 v2 x d (r2.mono s2.ga.sm) z Q fun v H' e r => ?_
      have s' := s2.ext e
      exact p2 (grow F2 H') H' (grow_same s2.ga.sm e) (s2.keep e) v [] s' (.dat (r.toF s'.ga.ft td))
    · exact p2.elim
/-- a built-in that gives a new list of its argument's things -/
def CaL (K : PySem.W.Frag) (T : Tab) (r : List V → Hp → VK → Prop) (f : List DD → Option DD) : Prop := ∀ (F H : Hp) (vs : List V) (ds es : List DD), Same F H → RepAll K T F vs ds → f ds = some (.lst es) → ∀ Q : VK, (∀ p ws, H p = none → RepAll K T F ws es → Q (.ref p) (upd H p (.lst ws))) → r vs H Q
theorem eok_cl {r : List V → Hp → VK → Prop} {f : List DD → Option DD} {t : TA} {fa : Act (List DD)} (hf : CaL K T r f) (ha : EOkA K T W t fa) : EOk K T W (tCB r t) (sArgsL f fa) := fun ps σ ρ F H S Q s p => by
  refine ha ps σ ρ F H S _ s (PostX.imp (PostX.bind p) fun x ρ2 F2 H2 e2 k2 p2 v2 s2 r2 => ?_)
  split at p2
  · rename_i es z
    refine hf F2 H2 v2 x es s2.ga.sm r2 z Q fun q ws hq rw' => ?_
    obtain ⟨s3, w3⟩ := s2.newL hq rw'
    exact p2 F2 _ (Same.refl F2) (s2.keep (same_new hq)) (.ref q) [q] s3 w3
  · exact p2.elim
theorem cl_listOf : CaL K T (fun xs H Q => ∃ p ys, xs = [.ref p] ∧ (SqL K H p ys ∨ SqT K H p ys) ∧ ∀ l, H l = none → Q (.ref l) (upd H l (.lst ys))) dListOf := fun F H vs ds es sm r e Q q => by
  unfold dListOf at e
  split at e
  · cases e
    cases r with
    | cons h t =>
      cases t
      cases h with
      | lst h a => exact ⟨_, _, rfl, .inl (Same.sqL sm h), fun l hl => q l _ hl a⟩
  · cases e
    cases r with
    | cons h t =>
      cases t
      cases h with
      | tup h a => exact ⟨_, _, rfl, .inr (Same.sqT sm h), fun l hl => q l _ hl a⟩
  · cases e
/-- operators that give new lists -/
def sOp2L (f : DD → DD → Option DD) (a b : Act DD) : Act OO := sBind a fun x => sBind b fun y => fun ρ => match f x y with
  | some (.lst ds) => .ok (.lst (ds.map .dat)) ρ
  | _ => .bad
theorem eok_catL {ta tb : TE} {fa fb : Act DD} (ha : EOkD K T W ta fa) (hb : EOkD K T W tb fb) : EOk K T W (tOp (rAddAny K) ta tb) (sOp2L dAdd fa fb) := fun ps σ ρ F H S Q s p => by
  refine ha ps σ ρ F H S _ s (PostX.imp (PostX.bind p) fun x ρ1 F1 H1 e1 k1 p1 v1 s1 r1 => ?_)
  refine hb ps σ ρ1 F1 H1 S _ s1 (PostX.imp (PostX.bind p1) fun y ρ2 F2 H2 e2 k2 p2 v2 s2 r2 => ?_)
  split at p2
  · rename_i ds z
    unfold dAdd at z
    split at z
    · cases z
    · split at z
      · rename_i hz
        cases z
        have q1 := r1.mono e2
        cases q1 with
        | lst h1 a1 =>
          cases r2 with
          | lst h2 a2 =>
            refine .inr (.inl ⟨_, _, _, _, rfl, rfl, Same.sqL s2.ga.sm h1, Same.sqL s2.ga.sm h2, by rw [a1.length, a2.length]; exact hz, fun q hq => ?_⟩)
            obtain ⟨s3, w3⟩ := s2.newL hq (a1.append a2)
            exact p2 F2 _ (Same.refl F2) (s2.keep (same_new hq)) (.ref q) [q] s3 w3
      · cases z
    · split at z <;> cases z
    · split at z <;> cases z
    · cases z
  · exact p2.elim
/-! ### tests -/
def sTe (f : Act DD) : Act Bool := sBind f fun d => sOpt (match d with | .bl b => some b | _ => none)
theorem eok_te {t : TE} {f : Act DD} (h : EOkD K T W t f) : EOkT K T W (tB t) (sTe f) := fun ps σ ρ F H S Q s p => by
  refine h ps σ ρ F H S _ s (PostX.imp (PostX.bind p) fun d ρ1 F1 H1 e1 k1 p1 v1 s1 r1 => ?_)
  cases r1 <;> first
    | exact p1.elim
    | exact ⟨_, rfl, PostX.now p1 s1⟩
def sAnd (a b : Act Bool) : Act Bool := sBind a fun x => if x = true then b else sRet false
def sOr (a b : Act Bool) : Act Bool := sBind a fun x => if x = true then sRet true else b
def sNot (a : Act Bool) : Act Bool := sBind a fun x => sRet (!x)
theorem eok_and {ta tb : TT} {fa fb : Act Bool} (ha : EOkT K T W ta fa) (hb : EOkT K T W tb fb) : EOkT K T W (tAnd ta tb) (sAnd fa fb) := fun ps σ ρ F H S Q s p => by
  refine ha ps σ ρ F H S _ s (PostX.imp (PostX.bind p) fun x ρ1 F1 H1 e1 k1 p1 s1 => ?_)
  cases x with
  | true => exact iteT (hb ps σ ρ1 F1 H1 S Q s1 p1)
  | false => exact iteF (PostX.now p1 s1)
theorem eok_or {ta tb : TT} {fa fb : Act Bool} (ha : EOkT K T W ta fa) (hb : EOkT K T W tb fb) : EOkT K T W (tOr ta tb) (sOr fa fb) := fun ps σ ρ F H S Q s p => by
  refine ha ps σ ρ F H S _ s (PostX.imp (PostX.bind p) fun x ρ1 F1 H1 e1 k1 p1 s1 => ?_)
  cases x with
  | true => exact iteT (PostX.now p1 s1)
  | false => exact iteF (hb ps σ ρ1 F1 H1 S Q s1 p1)
theorem eok_not {ta : TT} {fa : Act Bool} (ha : EOkT K T W ta fa) : EOkT K T W (tNot ta) (sNot fa) := fun ps σ ρ F H S Q s p => by
  refine ha ps σ ρ F H S _ s (PostX.imp (PostX.bind p) fun x ρ1 F1 H1 e1 k1 p1 s1 => ?_)
  exact PostX.now p1 s1
/-- and, or, not as values -/
def sBl (f : Act Bool) : Act OO := sBind f fun b => sRet (.dat (.bl b))
def sAndV (a b : Act DD) : Act DD := sBind a fun d => match d with
  | .bl x => if x = true then b else sRet (.bl false)
  | _ => fun _ => .bad
def sOrV (a b : Act DD) : Act DD := sBind a fun d => match d with
  | .bl x => if x = true then sRet (.bl true) else b
  | _ => fun _ => .bad
def sNotV (a : Act DD) : Act DD := sBind a fun d => match d with
  | .bl x => sRet (.bl (!x))
  | _ => fun _ => .bad
theorem eok_andV {ta tb : TE} {fa fb : Act DD} (ha : EOkD K T W ta fa) (hb : EOkD K T W tb fb) : EOkD K T W (tAndV ta tb) (sAndV fa fb) := fun ps σ ρ F H S Q s p => by
  refine ha ps σ ρ F H S _ s (PostX.imp (PostX.bind p) fun d ρ1 F1 H1 e1 k1 p1 v1 s1 r1 => ?_)
  cases r1 <;> try exact p1.elim
  rename_i b
  refine ⟨b, rfl, ?_⟩
  cases b with
  | true => exact iteT (hb ps σ ρ1 F1 H1 S Q s1 p1)
  | false => exact iteF (PostX.now p1 _ s1 (.bl false))
theorem eok_orV {ta tb : TE} {fa fb : Act DD} (ha : EOkD K T W ta fa) (hb : EOkD K T W tb fb) : EOkD K T W (tOrV ta tb) (sOrV fa fb) := fun ps σ ρ F H S Q s p => by
  refine ha ps σ ρ F H S _ s (PostX.imp (PostX.bind p) fun d ρ1 F1 H1 e1 k1 p1 v1 s1 r1 => ?_)
  cases r1 <;> try exact p1.elim
  rename_i b
  refine ⟨b, rfl, ?_⟩
  cases b with
  | true => exact iteT (PostX.now p1 _ s1 (.bl true))
  | false => exact iteF (hb ps σ ρ1 F1 H1 S Q s1 p1)
theorem eok_notV {ta : TE} {fa : Act DD} (ha : EOkD K T W ta fa) : EOkD K T W (tNotV ta) (sNotV fa) := fun ps σ ρ F H S Q s p => by
  refine ha ps σ ρ F H S _ s (PostX.imp (PostX.bind p) fun d ρ1 F1 H1 e1 k1 p1 v1 s1 r1 => ?_)
  cases r1 <;> try exact p1.elim
  exact ⟨_, rfl, PostX.now p1 _ s1 (.bl _)⟩
def sIfE (c : Act Bool) (a b : Act OO) : Act OO := sBind c fun x => if x = true then a else b
theorem eok_if {tc : TT} {ta tb : TE} {fc : Act Bool} {fa fb : Act OO} (hc : EOkT K T W tc fc) (ha : EOk K T W ta fa) (hb : EOk K T W tb fb) : EOk K T W (tIf tc ta tb) (sIfE fc fa fb) := fun ps σ ρ F H S Q s p => by
  refine hc ps σ ρ F H S _ s (PostX.imp (PostX.bind p) fun x ρ1 F1 H1 e1 k1 p1 s1 => ?_)
  cases x with
  | true => exact iteT (ha ps σ ρ1 F1 H1 S Q s1 p1)
  | false => exact iteF (hb ps σ ρ1 F1 H1 S Q s1 p1)
end

/-! ### the same by the text's syntax -/
section
variable {X : Cx} {T : Tab} {W : WX} {pos : Pos} {a b e c : Expr} {es : List Expr} {fa fb fe : Act DD} {oa ob oe : Act OO} {fc fd : Act Bool} {fs : Act (List DD)} {ge : View → Option DD} {gc : View → Option Bool}
theorem xe_v (h : XV X T e ge) : XE X T W e (sV ge) := let ⟨_, p, v⟩ := h; ⟨_, p, eok_v v⟩
theorem xd_fz (h : XE X T W e oe) : XD X T W e (sFz oe) := let ⟨_, p, v⟩ := h; ⟨_, p, eok_fz v⟩
theorem xe_dat (h : XD X T W e fe) : XE X T W e (sDat fe) := let ⟨_, p, v⟩ := h; ⟨_, p, eok_dat v⟩
theorem xd_v (h : XV X T e ge) : XD X T W e (sFz (sV ge)) := xd_fz (xe_v h)
theorem xe_name (i : Nat) {x : Str} {pos : Pos} (hN : X.N[i]? = some x := by rfl) (hv : Vis X.env.scope x := by first | exact Or.inl rfl | exact Or.inr (Or.inl rfl) | exact Or.inr (Or.inr rfl)) (hd : (x == ("__debug__" : Str)) = false := by decide)
    (hcd : (x == ("__classdict__" : Str)) = false := by decide) : XE X T W (.Name x pos) (sName i) := ⟨_, pe_var hN hv hd hcd, eok_name⟩
theorem sNil_len : ∀ ρ ds ρ', sNil ρ = .ok ds ρ' → ds.length = ([] : List Expr).length := fun ρ ds ρ' e => by cases e; rfl
theorem xas_nil : XAs X T W [] sNil := ⟨⟨_, pa_nil, eok_nil⟩, sNil_len⟩
theorem xas_cons (ha : XD X T W e fe) (hr : XAs X T W es fs) (hs : starEach (e :: es) X.env = (false, eval e X.env) :: starEach es X.env := by rfl) : XAs X T W (e :: es) (sCons fe fs) :=
  let ⟨_, p, v⟩ := ha; let ⟨⟨_, q, u⟩, n⟩ := hr; ⟨⟨_, pa_cons p q hs, eok_cons v u⟩, fun ρ ds ρ' e => by
    unfold sCons sBind at e
    cases z : fe ρ with
    | ok d ρ1 =>
      rw [z] at e
      dsimp only at e
      cases z2 : fs ρ1 with
      | ok ds1 ρ2 =>
        rw [z2] at e
        cases e
        rw [List.length_cons, n _ _ _ z2, List.length_cons]
      | ex c ds1 ρ2 => rw [z2] at e; cases e
      | bad => rw [z2] at e; cases e
    | ex c ds1 ρ2 => rw [z] at e; cases e
    | bad => rw [z] at e; cases e⟩
theorem xe_tup {x1} (h : XAs X T W es fs) (hz : decide (es.length ≤ 1000) = true := by rfl) : XE X T W (.Tuple es x1 pos) (sTup fs) :=
  let ⟨⟨_, q, u⟩, n⟩ := h; ⟨_, pe_tup q, eok_tup u n (Nat.le_trans (of_decide_eq_true hz) (by decide))⟩
theorem xe_lst (h : XAs X T W es fs) (hz : decide (es.length ≤ 1000) = true := by rfl) : XE X T W (.List es pos) (sLst fs) :=
  let ⟨⟨_, q, u⟩, n⟩ := h; ⟨_, pe_lst q, eok_lst u n (Nat.le_trans (of_decide_eq_true hz) (by decide))⟩
theorem xe_add (ha : XD X T W a fa) (hb : XD X T W b fb) : XE X T W (.BinOp a .Add b pos) (sOp2 dAdd fa fb) := let ⟨_, p, v⟩ := ha; let ⟨_, q, u⟩ := hb; ⟨_, pe_op op_addAny p q, eok_op2 ov_add v u⟩
theorem xe_cat (ha : XD X T W a fa) (hb : XD X T W b fb) : XE X T W (.BinOp a .Add b pos) (sOp2L dAdd fa fb) := let ⟨_, p, v⟩ := ha; let ⟨_, q, u⟩ := hb; ⟨_, pe_op op_addAny p q, eok_catL v u⟩
theorem xe_sub (ha : XD X T W a fa) (hb : XD X T W b fb) : XE X T W (.BinOp a .Sub b pos) (sOp2 dSub fa fb) := let ⟨_, p, v⟩ := ha; let ⟨_, q, u⟩ := hb; ⟨_, pe_op op_sub p q, eok_op2 ov_sub v u⟩
theorem xe_mul (ha : XD X T W a fa) (hb : XD X T W b fb) : XE X T W (.BinOp a .Mult b pos) (sOp2 dMul fa fb) := let ⟨_, p, v⟩ := ha; let ⟨_, q, u⟩ := hb; ⟨_, pe_op op_mulB p q, eok_op2 ov_mul v u⟩
theorem xe_div (ha : XD X T W a fa) (hb : XD X T W b fb) : XE X T W (.BinOp a .FloorDiv b pos) (sOp2 dDiv fa fb) := let ⟨_, p, v⟩ := ha; let ⟨_, q, u⟩ := hb; ⟨_, pe_op op_divB p q, eok_op2 ov_div v u⟩
theorem xe_mod (ha : XD X T W a fa) (hb : XD X T W b fb) : XE X T W (.BinOp a .Mod b pos) (sOp2 dMod fa fb) := let ⟨_, p, v⟩ := ha; let ⟨_, q, u⟩ := hb; ⟨_, pe_op op_modN p q, eok_op2 ov_mod v u⟩
theorem xe_neg (ha : XD X T W a fa) : XE X T W (.UnaryOp .USub a pos) (sOp1 dNeg fa) := let ⟨_, p, v⟩ := ha; ⟨_, pe_un un_neg p, eok_op1 uv_neg v⟩
theorem xe_cmp {op : CmpOp} {r : R2} {f : DD → DD → Option DD} (ho : OpR X (compareOp op) r) (hf : OpV X.K T r f) (ha : XD X T W a fa) (hb : XD X T W b fb) (hm : behindInMarks op b = false) : XE X T W (.Compare a [op] [b] pos) (sOp2 f fa fb) :=
  let ⟨_, p, v⟩ := ha; let ⟨_, q, u⟩ := hb; ⟨_, pe_cmpR ho p q hm, eok_op2 hf v u⟩
theorem xe_eq (hu : X.A.units + 64 < cLine) (ha : XD X T W a fa) (hb : XD X T W b fb) : XE X T W (.Compare a [.Eq] [b] pos) (sOp2 dEq fa fb) := xe_cmp (op_eqD hu) ov_eq ha hb (nomark _)
theorem xe_ne (hu : X.A.units + 64 < cLine) (ha : XD X T W a fa) (hb : XD X T W b fb) : XE X T W (.Compare a [.NotEq] [b] pos) (sOp2 dNe fa fb) := xe_cmp (op_neD hu) ov_ne ha hb (nomark _)
theorem xe_lt (ha : XD X T W a fa) (hb : XD X T W b fb) : XE X T W (.Compare a [.Lt] [b] pos) (sOp2 dLt fa fb) := xe_cmp op_lt ov_cmp ha hb (nomark _)
theorem xe_le (ha : XD X T W a fa) (hb : XD X T W b fb) : XE X T W (.Compare a [.LtE] [b] pos) (sOp2 dLe fa fb) := xe_cmp op_le ov_cmp ha hb (nomark _)
theorem xe_gt (ha : XD X T W a fa) (hb : XD X T W b fb) : XE X T W (.Compare a [.Gt] [b] pos) (sOp2 dGt fa fb) := xe_cmp op_gt ov_cmp ha hb (nomark _)
theorem xe_ge (ha : XD X T W a fa) (hb : XD X T W b fb) : XE X T W (.Compare a [.GtE] [b] pos) (sOp2 dGe fa fb) := xe_cmp op_ge ov_cmp ha hb (nomark _)
theorem xe_ix (ha : XD X T W a fa) (hb : XD X T W b fb) (hs : PlainIx b := by intro _ _; rfl) : XE X T W (.Subscript a b pos) (sOp2 dIx fa fb) := let ⟨_, p, v⟩ := ha; let ⟨_, q, u⟩ := hb; ⟨_, pe_ix ix_seq p q hs, eok_op2 ov_ix v u⟩
theorem xe_callB {x : Str} {id : String} {p : Pos} {r : List V → Hp → VK → Prop} {f : List DD → Option DD} (hc : CallR X (.builtin id) r) (hf : CaV X.K T r f) (hg : Gl X x) (hm : X.mg x = none) (hv : bootBuiltins x = some (.builtin id)) (ha : XAs X T W (e :: es) fs)
    (hn : x ≠ "__name__" := by decide) (hdb : (x == ("__debug__" : Str)) = false := by decide)
    (he : starEach (e :: es) X.env = (false, eval e X.env) :: starEach es X.env := by rfl) (hpl : (backTo pos (starEach es X.env)).any (·.1) = false := by rfl) : XE X T W (.Call (.Name x p) (e :: es) [] pos) (sArgs f fs) :=
  let ⟨⟨_, q, u⟩, n⟩ := ha; ⟨_, pe_callB hc hg hm hv q hn hdb he hpl, eok_cb hf u⟩
theorem xe_callTy {x : Str} {ty : String} {p : Pos} {r : List V → Hp → VK → Prop} {f : List DD → Option DD} (hc : CallR X (.type ty) r) (hf : CaV X.K T r f) (hg : Gl X x) (hm : X.mg x = none) (hv : bootBuiltins x = some (.type ty)) (ha : XAs X T W (e :: es) fs)
    (hn : x ≠ "__name__" := by decide) (hdb : (x == ("__debug__" : Str)) = false := by decide)
    (he : starEach (e :: es) X.env = (false, eval e X.env) :: starEach es X.env := by rfl) (hpl : (backTo pos (starEach es X.env)).any (·.1) = false := by rfl) : XE X T W (.Call (.Name x p) (e :: es) [] pos) (sArgs f fs) :=
  let ⟨⟨_, q, u⟩, n⟩ := ha; ⟨_, pe_callTy hc hg hm hv q hn hdb he hpl, eok_cb hf u⟩
theorem xe_callTyL {x : Str} {ty : String} {p : Pos} {r : List V → Hp → VK → Prop} {f : List DD → Option DD} (hc : CallR X (.type ty) r) (hf : CaL X.K T r f) (hg : Gl X x) (hm : X.mg x = none) (hv : bootBuiltins x = some (.type ty)) (ha : XAs X T W (e :: es) fs)
    (hn : x ≠ "__name__" := by decide) (hdb : (x == ("__debug__" : Str)) = false := by decide)
    (he : starEach (e :: es) X.env = (false, eval e X.env) :: starEach es X.env := by rfl) (hpl : (backTo pos (starEach es X.env)).any (·.1) = false := by rfl) : XE X T W (.Call (.Name x p) (e :: es) [] pos) (sArgsL f fs) :=
  let ⟨⟨_, q, u⟩, n⟩ := ha; ⟨_, pe_callTy hc hg hm hv q hn hdb he hpl, eok_cl hf u⟩
theorem xe_if (hc : XTe X T W c fc) (ha : XE X T W a oa) (hb : XE X T W b ob) : XE X T W (.IfExp c a b pos) (sIfE fc oa ob) := let ⟨_, r, z⟩ := hc; let ⟨_, p, v⟩ := ha; let ⟨_, q, u⟩ := hb; ⟨_, pe_ifExp r p q, eok_if z v u⟩
/-! and, or, not as values -/
theorem xd_one {op : BoolOp} (ha : XD X T W a fa) : XD X T W (.BoolOp op [a] pos) fa := let ⟨_, p, v⟩ := ha; ⟨_, pe_one p, v⟩
theorem xd_and {rest : List Expr} (ha : XD X T W a fa) (hb : XD X T W (.BoolOp .And (b :: rest) pos) fb) : XD X T W (.BoolOp .And (a :: b :: rest) pos) (sAndV fa fb) := let ⟨_, p, v⟩ := ha; let ⟨_, q, u⟩ := hb; ⟨_, pe_and p q, eok_andV v u⟩
theorem xd_or {rest : List Expr} (ha : XD X T W a fa) (hb : XD X T W (.BoolOp .Or (b :: rest) pos) fb) : XD X T W (.BoolOp .Or (a :: b :: rest) pos) (sOrV fa fb) := let ⟨_, p, v⟩ := ha; let ⟨_, q, u⟩ := hb; ⟨_, pe_or p q, eok_orV v u⟩
theorem xd_not (ha : XD X T W a fa) : XD X T W (.UnaryOp .Not a pos) (sNotV fa) := let ⟨_, p, v⟩ := ha; ⟨_, pe_not p, eok_notV v⟩
/-! tests -/
theorem xte_v (h : XT X T e gc) : XTe X T W e (sT gc) := let ⟨_, p, v⟩ := h; ⟨_, p, eok_t v⟩
theorem xte_val (h : XD X T W e fe) (he : ∀ whole, isTrue e X.env whole = (do let v ← whole; standAt e.pos; holding [v] (truthy v)) := by intro _; rfl) : XTe X T W e (sTe fe) := let ⟨_, p, v⟩ := h; ⟨_, pt_val p he, eok_te v⟩
theorem xte_cmp {op : CmpOp} {r : R2} {f : DD → DD → Option DD} (ho : OpR X (compareOp op) r) (hf : OpV X.K T r f) (ha : XD X T W a fa) (hb : XD X T W b fb) (hm : behindInMarks op b = false) : XTe X T W (.Compare a [op] [b] pos) (sTe (sFz (sOp2 f fa fb))) :=
  let ⟨_, p, v⟩ := ha; let ⟨_, q, u⟩ := hb; ⟨_, pt_cmpR ho p q hm, eok_te (eok_fz (eok_op2 hf v u))⟩
theorem xte_eq (hu : X.A.units + 64 < cLine) (ha : XD X T W a fa) (hb : XD X T W b fb) : XTe X T W (.Compare a [.Eq] [b] pos) (sTe (sFz (sOp2 dEq fa fb))) := xte_cmp (op_eqD hu) ov_eq ha hb (nomark _)
theorem xte_ne (hu : X.A.units + 64 < cLine) (ha : XD X T W a fa) (hb : XD X T W b fb) : XTe X T W (.Compare a [.NotEq] [b] pos) (sTe (sFz (sOp2 dNe fa fb))) := xte_cmp (op_neD hu) ov_ne ha hb (nomark _)
theorem xte_lt (ha : XD X T W a fa) (hb : XD X T W b fb) : XTe X T W (.Compare a [.Lt] [b] pos) (sTe (sFz (sOp2 dLt fa fb))) := xte_cmp op_lt ov_cmp ha hb (nomark _)
theorem xte_le (ha : XD X T W a fa) (hb : XD X T W b fb) : XTe X T W (.Compare a [.LtE] [b] pos) (sTe (sFz (sOp2 dLe fa fb))) := xte_cmp op_le ov_cmp ha hb (nomark _)
theorem xte_gt (ha : XD X T W a fa) (hb : XD X T W b fb) : XTe X T W (.Compare a [.Gt] [b] pos) (sTe (sFz (sOp2 dGt fa fb))) := xte_cmp op_gt ov_cmp ha hb (nomark _)
theorem xte_ge (ha : XD X T W a fa) (hb : XD X T W b fb) : XTe X T W (.Compare a [.GtE] [b] pos) (sTe (sFz (sOp2 dGe fa fb))) := xte_cmp op_ge ov_cmp ha hb (nomark _)
theorem xte_not (ha : XTe X T W a fc) : XTe X T W (.UnaryOp .Not a pos) (sNot fc) := let ⟨_, p, v⟩ := ha; ⟨_, pt_not p, eok_not v⟩
theorem xwe_and1 (ha : XTe X T W a fc) : XWe X T W (.BoolOp .And [a] pos) fc := let ⟨_, p, v⟩ := ha; ⟨_, pw_and1 p, v⟩
theorem xwe_or1 (ha : XTe X T W a fc) : XWe X T W (.BoolOp .Or [a] pos) fc := let ⟨_, p, v⟩ := ha; ⟨_, pw_or1 p, v⟩
theorem xwe_and {rest : List Expr} (ha : XTe X T W a fc) (hb : XWe X T W (.BoolOp .And (b :: rest) pos) fd) : XWe X T W (.BoolOp .And (a :: b :: rest) pos) (sAnd fc fd) := let ⟨_, p, v⟩ := ha; let ⟨_, q, u⟩ := hb; ⟨_, pw_and p q, eok_and v u⟩
theorem xwe_or {rest : List Expr} (ha : XTe X T W a fc) (hb : XWe X T W (.BoolOp .Or (b :: rest) pos) fd) : XWe X T W (.BoolOp .Or (a :: b :: rest) pos) (sOr fc fd) := let ⟨_, p, v⟩ := ha; let ⟨_, q, u⟩ := hb; ⟨_, pw_or p q, eok_or v u⟩
theorem xte_w (h : XWe X T W e fc) : XTe X T W e fc := let ⟨_, p, v⟩ := h; ⟨_, p.pt, v⟩
end
end DL

/-! DL5: statements, targets, loops. -/
namespace DL
open PySem PySem.Spec PyProof.Rows L2
def sNx : Act Fl := sRet .nx
def sSeq (f g : Act Fl) : Act Fl := fun ρ => match f ρ with
  | .ok .nx ρ' => g ρ'
  | .ok (.ret o) ρ' => .ok (.ret o) ρ'
  | .ok .brk ρ' => .ok .brk ρ'
  | .ok .cnt ρ' => .ok .cnt ρ'
  | .ex c ds ρ' => .ex c ds ρ'
  | .bad => .bad
def sIf (c : Act Bool) (a b : Act Fl) : Act Fl := sBind c fun x => if x = true then a else b
def Env.store (i : Nat) (o : OO) : Act Fl := fun ρ => if i < ρ.sl.length then .ok .nx (ρ.put i (.own o)) else .bad
def sSet (i : Nat) (f : Act OO) : Act Fl := sBind f fun o => Env.store i o
def sReturn (f : Act OO) : Act Fl := sBind f fun o => sRet (.ret o)
def sRetVar (i : Nat) : Act Fl := fun ρ => match ρ.sl[i]? with
  | some (.own o) => .ok (.ret o) (ρ.put i .no)
  | _ => .bad
def sDrop (f : Act OO) : Act Fl := sBind f fun _ => sNx
section
variable {K : PySem.W.Frag} {T : Tab} {W : WX}
theorem sok_nil : SOk K T W tNext sNx := fun ps σ ρ F H S D s p => p σ F H (Same.refl F) .refl s
theorem sok_seq {t u : TS} {f g : Act Fl} (hf : SOk K T W t f) (hg : SOk K T W u g) : SOk K T W (tSeq t u) (sSeq f g) := fun ps σ ρ F H S D s p => by
  refine hf ps σ ρ F H S { D with nx := u D } s ?_
  unfold sSeq at p
  cases z : f ρ with
  | ok a ρ' =>
    rw [z] at p
    cases a with
    | nx => exact fun σ' F' H' e k s' => hg ps σ' ρ' F' H' S D s' (PostS.later p e k)
    | ret o => exact p
    | brk => exact p
    | cnt => exact p
  | ex c ds ρ' => rw [z] at p; exact p
  | bad => rw [z] at p; exact p
theorem sok_if {tc : TT} {ta tb : TS} {fc : Act Bool} {fa fb : Act Fl} (hc : EOkT K T W tc fc) (ha : SOk K T W ta fa) (hb : SOk K T W tb fb) : SOk K T W (tIfS tc ta tb) (sIf fc fa fb) := fun ps σ ρ F H S D s p => by
  refine hc ps σ ρ F H S _ s (PostX.imp (PostS.bind p) fun x ρ1 F1 H1 e1 k1 p1 s1 => ?_)
  cases x with
  | true => exact iteT (ha ps σ ρ1 F1 H1 S D s1 p1)
  | false => exact iteF (hb ps σ ρ1 F1 H1 S D s1 p1)
theorem sok_set {te : TE} {f : Act OO} {i : Nat} (h : EOk K T W te f) : SOk K T W (tAsg te (gName i)) (sSet i f) := fun ps σ ρ F H S D s p => by
  refine h ps σ ρ F H S _ s (PostX.imp (PostS.bind p) fun o ρ1 F1 H1 e1 k1 p1 v B s1 w => ?_)
  unfold Env.store at p1
  split at p1
  · rename_i hi
    exact p1 _ F1 H1 (Same.refl F1) .refl (s1.store w hi)
  · exact p1.elim
theorem sok_ret {te : TE} {f : Act OO} (h : EOk K T W te f) : SOk K T W (tRet te) (sReturn f) := fun ps σ ρ F H S D s p => by
  refine h ps σ ρ F H S _ s (PostX.imp (PostS.bind p) fun o ρ1 F1 H1 e1 k1 p1 v B s1 w => ?_)
  exact p1 v σ F1 H1 B (Same.refl F1) .refl s1 w
theorem sok_retN : SOk K T W tRetN (sRet (.ret (.dat .non))) := fun ps σ ρ F H S D s p => p .non σ F H [] (Same.refl F) .refl s (.dat .non)
theorem sok_retVar {i : Nat} : SOk K T W (tRet (tVar i)) (sRetVar i) := fun ps σ ρ F H S D s p => by
  unfold sRetVar at p
  split at p
  · rename_i o z
    obtain ⟨v, B0, h1, w, s'⟩ := s.move z
    exact ⟨v, h1, p v σ F H B0 (Same.refl F) .refl s' w⟩
  · exact p.elim
theorem sok_drop {te : TE} {f : Act OO} (h : EOk K T W te f) : SOk K T W (tDrop te) (sDrop f) := fun ps σ ρ F H S D s p => by
  refine h ps σ ρ F H S _ s (PostX.imp (PostS.bind p) fun o ρ1 F1 H1 e1 k1 p1 v B s1 w => ?_)
  exact p1 σ F1 H1 (Same.refl F1) .refl (s1.sub fun a => by simp only [List.count_append]; omega)
theorem sok_cnt : SOk K T W tCont (sRet .cnt) := fun ps σ ρ F H S D s p => p σ F H (Same.refl F) .refl s
theorem sok_brk : SOk K T W tBreak (sRet .brk) := fun ps σ ρ F H S D s p => p σ F H (Same.refl F) .refl s

/-! ### targets -/
abbrev UT := DD → Env → Option Env
def PostU (K : PySem.W.Frag) (T : Tab) (ps : List V) (F H : Hp) (S : List Addr) (Q : L2.St → Hp → Prop) : Option Env → Prop
  | some ρ' => ∀ σ' F' H', Same F F' → KeepL S H H' → SA K T ps F' H' σ' ρ' S → Q σ' H'
  | none => False
def GOk (K : PySem.W.Frag) (T : Tab) (tg : TG) (f : UT) : Prop := ∀ (ps : List V) (σ : L2.St) (ρ : Env) (F H : Hp) (S : List Addr) (v : V) (d : DD) (Q : L2.St → Hp → Prop), SA K T ps F H σ ρ S → Rep K T F v d → PostU K T ps F H S Q (f d ρ) → tg v σ H Q
def GOks (K : PySem.W.Frag) (T : Tab) (tg : TGs) (f : List DD → Env → Option Env) : Prop := ∀ (ps : List V) (σ : L2.St) (ρ : Env) (F H : Hp) (S : List Addr) (vs : List V) (ds : List DD) (Q : L2.St → Hp → Prop), SA K T ps F H σ ρ S → RepAll K T F vs ds → PostU K T ps F H S Q (f ds ρ) → tg vs σ H Q
def uName (i : Nat) : UT := fun d ρ => if i < ρ.sl.length then some (ρ.put i (.own (.dat d))) else none
def uNil : List DD → Env → Option Env
  | [], ρ => some ρ
  | _, _ => none
def uCons (f : UT) (g : List DD → Env → Option Env) : List DD → Env → Option Env
  | d :: ds, ρ => (f d ρ).bind fun ρ' => g ds ρ'
  | [], _ => none
def uTup (n : Nat) (g : List DD → Env → Option Env) : UT
  | .tup ds, ρ => if ds.length = n then g ds ρ else none
  | _, _ => none
theorem gok_name {i : Nat} : GOk K T (gName i) (uName i) := fun ps σ ρ F H S v d Q s r p => by
  unfold uName at p
  split at p
  · rename_i hi
    exact p _ F H (Same.refl F) .refl ((show SA K T ps F H σ ρ ([] ++ S) from s).store (.dat r) hi)
  · exact p.elim
theorem gok_nil : GOks K T L2.gNil uNil := fun ps σ ρ F H S vs ds Q s r p => by
  cases r with
  | nil => exact ⟨rfl, p σ F H (Same.refl F) .refl s⟩
  | cons h t => exact p.elim
theorem PostU.later {ps : List V} {F F' H H' : Hp} {S : List Addr} {Q : L2.St → Hp → Prop} {r : Option Env} (h : PostU K T ps F H S Q r) (e : Same F F') (k : KeepL S H H') : PostU K T ps F' H' S Q r := by
  cases r with
  | none => exact h
  | some ρ => exact fun σ2 F2 H2 e2 k2 => h σ2 F2 H2 (e.trans e2) (k.trans k2)
theorem gok_cons {t : TG} {u : TGs} {f : UT} {g : List DD → Env → Option Env} (hf : GOk K T t f) (hg : GOks K T u g) : GOks K T (L2.gCons t u) (uCons f g) := fun ps σ ρ F H S vs ds Q s r p => by
  cases r with
  | nil => exact p.elim
  | @cons v vs d ds h t =>
    refine ⟨_, _, rfl, hf ps σ ρ F H S _ d _ s h ?_⟩
    have p : PostU K T ps F H S Q ((f d ρ).bind fun ρ' => g ds ρ') := p
    cases z : f d ρ with
    | some ρ' =>
      rw [z] at p
      exact fun σ' F' H' e k s' => hg ps σ' ρ' F' H' S _ ds Q s' (t.mono e) (PostU.later p e k)
    | none => rw [z] at p; exact p
theorem gok_tup {n : Nat} {u : TGs} {g : List DD → Env → Option Env} (hg : GOks K T u g) : GOk K T (gTup K n u) (uTup n g) := fun ps σ ρ F H S v d Q s r p => by
  unfold uTup at p
  split at p
  · split at p
    · rename_i hn
      cases r with
      | tup h a => exact ⟨_, _, rfl, Same.sqT s.ga.sm h, by rw [a.length]; exact hn, hg ps σ ρ F H S _ _ Q s a p⟩
    · exact p.elim
  · exact p.elim
def uGo (g : Env → Option Env) : Act Fl := fun ρ => match g ρ with
  | some ρ' => .ok .nx ρ'
  | none => .bad
/-- a value through a target -/
def sUn (f : Act DD) (g : UT) : Act Fl := sBind f fun d => uGo (g d)
theorem postU_of {ps : List V} {F H : Hp} {S : List Addr} {D : Ends} {g : Env → Option Env} {ρ : Env} (p : PostS K T W ps F H S D (uGo g ρ)) : PostU K T ps F H S D.nx (g ρ) := by
  unfold uGo at p
  cases z : g ρ with
  | some ρ' => rw [z] at p; exact p
  | none => rw [z] at p; exact p
theorem sok_un {te : TE} {tg : TG} {f : Act DD} {g : UT} (h : EOkD K T W te f) (hg : GOk K T tg g) : SOk K T W (tAsg te tg) (sUn f g) := fun ps σ ρ F H S D s p => by
  refine h ps σ ρ F H S _ s (PostX.imp (PostS.bind p) fun d ρ1 F1 H1 e1 k1 p1 v s1 r1 => ?_)
  exact hg ps σ ρ1 F1 H1 S v d D.nx s1 r1 (postU_of p1)
/-- a, b = x, y, names of this def alone -/
def sPar (i j : Nat) (f : Act (List DD)) : Act Fl := sBind f fun ds => uGo (uCons (uName i) (uCons (uName j) uNil) ds)
theorem sok_par {ta : TA} {f : Act (List DD)} {i j : Nat} (h : EOkA K T W ta f) : SOk K T W (tPar i j ta) (sPar i j f) := fun ps σ ρ F H S D s p => by
  refine h ps σ ρ F H S _ s (PostX.imp (PostS.bind p) fun ds ρ1 F1 H1 e1 k1 p1 vs s1 r1 => ?_)
  have q := postU_of p1
  have g := gok_cons (gok_name (i := i)) (gok_cons (gok_name (i := j)) (gok_nil (K := K) (T := T))) ps σ ρ1 F1 H1 S vs ds D.nx s1 r1 q
  obtain ⟨v, r, e, v2, r2, e2, e3, g⟩ := g
  subst e e2 e3
  exact ⟨v, v2, rfl, g⟩
def sPar3 (i j l : Nat) (f : Act (List DD)) : Act Fl := sBind f fun ds => uGo (uCons (uName i) (uCons (uName j) (uCons (uName l) uNil)) ds)
theorem sok_par3 {ta : TA} {f : Act (List DD)} {i j l : Nat} (h : EOkA K T W ta f) : SOk K T W (tPar3 i j l ta) (sPar3 i j l f) := fun ps σ ρ F H S D s p => by
  refine h ps σ ρ F H S _ s (PostX.imp (PostS.bind p) fun ds ρ1 F1 H1 e1 k1 p1 vs s1 r1 => ?_)
  have q := postU_of p1
  have g := gok_cons (gok_name (i := i)) (gok_cons (gok_name (i := j)) (gok_cons (gok_name (i := l)) (gok_nil (K := K) (T := T)))) ps σ ρ1 F1 H1 S vs ds D.nx s1 r1 q
  obtain ⟨v, r, e, v2, r2, e2, v3, r3, e3, e4, g⟩ := g
  subst e e2 e3 e4
  exact ⟨v, v2, v3, rfl, g⟩

/-! ### what is walked -/
structure Wk (K : PySem.W.Frag) (T : Tab) (J : It) (F : Hp) (ds : List DD) : Prop where
  go : ∀ i H, Same F H → i < ds.length → J.go i H
  stop : ∀ i H, Same F H → ds.length ≤ i → J.stop i H
  yld : ∀ i H x H', i < ds.length → Same F H → J.yld i H x H' → ∃ d, ds[i]? = some d ∧ Same H H' ∧ ∀ F', Same F F' → Same F' H → Rep K T (grow F' H') x d
def IOk (K : PySem.W.Frag) (T : Tab) (W : WX) (wi : TI) (f : Act (List DD)) : Prop := ∀ (ps : List V) (σ : L2.St) (ρ : Env) (F H : Hp) (S : List Addr) (R : It → Hp → Prop), SA K T ps F H σ ρ S →
  PostX K T W ps σ F H S (fun ds ρ' F' H' => ∀ J, SA K T ps F' H' σ ρ' S → Wk K T J F' ds → R J H') (f ρ) → wi σ H R
theorem Wk.mono {J : It} {F F' : Hp} {ds : List DD} (w : Wk K T J F ds) (e : Same F F') : Wk K T J F' ds :=
  ⟨fun i H s => w.go i H (e.trans s), fun i H s => w.stop i H (e.trans s), fun i H x H' hi s y => by
    obtain ⟨d, h1, h2, h3⟩ := w.yld i H x H' hi (e.trans s) y
    exact ⟨d, h1, h2, fun F2 e2 s2 => h3 F2 (e.trans e2) s2⟩⟩
theorem wk_list {a : Addr} {F : Hp} {vs : List V} {ds : List DD} (h : SqL K F a vs) (r : RepAll K T F vs ds) : Wk K T (Itl K a) F ds where
  go := fun i H s hi => by
    obtain ⟨v, hv, _⟩ := r.get (List.getElem?_eq_getElem hi)
    exact ⟨vs, v, Same.sqL s h, hv⟩
  stop := fun i H s hi => ⟨vs, Same.sqL s h, by rw [r.length]; exact hi⟩
  yld := fun i H x H' hi s y => by
    obtain ⟨e, y⟩ := y
    subst e
    obtain ⟨d, hd, rd⟩ := r.get' (y vs (Same.sqL s h))
    exact ⟨d, hd, Same.refl _, fun F' e s' => rd.mono (e.trans (grow_same s' (Same.refl _)))⟩
theorem wk_tup {a : Addr} {F : Hp} {vs : List V} {ds : List DD} (h : SqT K F a vs) (r : RepAll K T F vs ds) : Wk K T (Itt K a) F ds where
  go := fun i H s hi => by
    obtain ⟨v, hv, _⟩ := r.get (List.getElem?_eq_getElem hi)
    exact ⟨vs, v, Same.sqT s h, hv⟩
  stop := fun i H s hi => ⟨vs, Same.sqT s h, by rw [r.length]; exact hi⟩
  yld := fun i H x H' hi s y => by
    obtain ⟨e, y⟩ := y
    subst e
    obtain ⟨d, hd, rd⟩ := r.get' (y vs (Same.sqT s h))
    exact ⟨d, hd, Same.refl _, fun F' e s' => rd.mono (e.trans (grow_same s' (Same.refl _)))⟩
def rangeD (lo : Int) (n : Nat) : List DD := (List.range n).map fun (i : Nat) => .int (lo + (i : Int))
theorem wk_range {F : Hp} {lo : Int} {n : Nat} : Wk K T (Itr lo n) F (rangeD lo n) where
  go := fun i H s hi => by
    show i < n
    simpa [rangeD] using hi
  stop := fun i H s hi => by
    show n ≤ i
    simpa [rangeD] using hi
  yld := fun i H x H' hi s y => by
    obtain ⟨e, y⟩ := y
    subst e y
    have hi' : i < n := by simpa [rangeD] using hi
    exact ⟨.int (lo + (i : Int)), by simp [rangeD, hi'], Same.refl _, fun F' e s' => .int _⟩
end
/-- a list or a tuple that is walked -/
def iSeq (K : PySem.W.Frag) (tl : TE) : TI := fun σ H R => tl σ H fun x H1 => ∃ a, x = .ref a ∧ (((∃ xs, SqL K H1 a xs) ∧ R (Itl K a) H1) ∨ ((∃ xs, SqT K H1 a xs) ∧ R (Itt K a) H1))
theorem pi_seq {X : Cx} {tg l : Expr} {tl : TE} (hl : PE X l tl) : PI X tg l (iSeq X.K tl) := by
  refine ⟨fun pins s σ H R I h => ?_⟩
  refine thn (hl.run pins s σ H _ I h) fun v s1 ⟨x, H1, I1, r1, q1⟩ => ?_
  obtain ⟨a, e, q⟩ := q1
  subst e
  cases r1
  rcases q with ⟨⟨xs, hq⟩, q⟩ | ⟨⟨xs, hq⟩, q⟩
  · obtain ⟨its, rv, p, hz⟩ := I1.list hq
    refine wpAny_pyIter_list p.isList ?_
    refine ⟨s1.heap.objs.size, [s1.heap.objs.size], _, _, H1, rfl, I1.kept (t' := s1.toks) fun b o e => Heap.get?_push_of_some _ e, turn_list a _, ⟨_, Heap.get?_push_size _ rfl, rfl, rfl⟩, fun b hb => ?_, q⟩
    have e : b = s1.heap.objs.size := by simpa using hb
    subst e
    exact I1.fpOk (Nat.le_refl _) (I1.hok.fresh (Nat.le_refl _))
  · obtain ⟨its, rv, p, hz⟩ := I1.tuple hq
    refine wpAny_pyIter_tuple (show s1.heap.IsTuple a its.toArray from p) ?_
    refine ⟨s1.heap.objs.size, [s1.heap.objs.size], _, _, H1, rfl, I1.kept (t' := s1.toks) fun b o e => Heap.get?_push_of_some _ e, turn_tuple a _, ⟨_, Heap.get?_push_size _ rfl, rfl, rfl⟩, fun b hb => ?_, q⟩
    have e : b = s1.heap.objs.size := by simpa using hb
    subst e
    exact I1.fpOk (Nat.le_refl _) (I1.hok.fresh (Nat.le_refl _))
section
variable {K : PySem.W.Frag} {T : Tab} {W : WX}
def dItems : DD → Option (List DD)
  | .lst ds => some ds
  | .tup ds => some ds
  | _ => none
def sItems (f : Act DD) : Act (List DD) := sBind f fun d => sOpt (dItems d)
theorem iok_seq {tl : TE} {f : Act DD} (h : EOkD K T W tl f) : IOk K T W (iSeq K tl) (sItems f) := fun ps σ ρ F H S R s p => by
  refine h ps σ ρ F H S _ s (PostX.imp (PostX.bind p) fun d ρ1 F1 H1 e1 k1 p1 v s1 r1 => ?_)
  cases r1 with
  | lst h a => exact ⟨_, rfl, .inl ⟨⟨_, Same.sqL s1.ga.sm h⟩, PostX.now p1 _ s1 (wk_list h a)⟩⟩
  | tup h a => exact ⟨_, rfl, .inr ⟨⟨_, Same.sqT s1.ga.sm h⟩, PostX.now p1 _ s1 (wk_tup h a)⟩⟩
  | _ => exact p1.elim
def dRange1 : List DD → Option (List DD)
  | [.int j] => if -(2 ^ 62) ≤ j ∧ j < 2 ^ 62 then some (rangeD 0 j.toNat) else none
  | _ => none
def dRange2 : List DD → Option (List DD)
  | [.int i, .int j] => if -(2 ^ 62) ≤ i ∧ i < 2 ^ 62 ∧ -(2 ^ 62) ≤ j ∧ j < 2 ^ 62 then some (rangeD i (j - i).toNat) else none
  | _ => none
def sRange (g : List DD → Option (List DD)) (f : Act (List DD)) : Act (List DD) := sBind f fun ds => sOpt (g ds)
theorem iok_range1 {t : TA} {f : Act (List DD)} (h : EOkA K T W t f) : IOk K T W (iRng1 t) (sRange dRange1 f) := fun ps σ ρ F H S R s p => by
  refine h ps σ ρ F H S _ s (PostX.imp (PostX.bind p) fun ds ρ1 F1 H1 e1 k1 p1 vs s1 r1 => ?_)
  unfold dRange1 at p1
  split at p1
  · split at p1
    · rename_i hb
      cases r1 with
      | cons h t =>
        cases h; cases t
        exact ⟨_, rfl, hb.1, hb.2, PostX.now p1 _ s1 wk_range⟩
    · exact p1.elim
  · exact p1.elim
theorem iok_range2 {t : TA} {f : Act (List DD)} (h : EOkA K T W t f) : IOk K T W (iRng2 t) (sRange dRange2 f) := fun ps σ ρ F H S R s p => by
  refine h ps σ ρ F H S _ s (PostX.imp (PostX.bind p) fun ds ρ1 F1 H1 e1 k1 p1 vs s1 r1 => ?_)
  unfold dRange2 at p1
  split at p1
  · split at p1
    · rename_i hb
      cases r1 with
      | cons h t =>
        cases h
        cases t with
        | cons h t =>
          cases h; cases t
          exact ⟨_, _, rfl, hb, PostX.now p1 _ s1 wk_range⟩
    · exact p1.elim
  · exact p1.elim

/-! ### for -/
def loopF (g : UT) (b : Act Fl) : List DD → Act Fl
  | [], ρ => .ok .nx ρ
  | d :: ds, ρ => match g d ρ with
    | none => .bad
    | some ρ1 => match b ρ1 with
      | .ok .nx ρ2 => loopF g b ds ρ2
      | .ok .cnt ρ2 => loopF g b ds ρ2
      | .ok .brk ρ2 => .ok .nx ρ2
      | .ok (.ret o) ρ2 => .ok (.ret o) ρ2
      | .ex c es ρ2 => .ex c es ρ2
      | .bad => .bad
def sFor (fi : Act (List DD)) (g : UT) (b : Act Fl) : Act Fl := sBind fi fun ds => loopF g b ds
theorem sok_for {wi : TI} {tg : TG} {tb : TS} {fi : Act (List DD)} {g : UT} {b : Act Fl} (hi : IOk K T W wi fi) (hg : GOk K T tg g) (hb : SOk K T W tb b) : SOk K T W (tFor wi tg tb) (sFor fi g b) := fun ps σ ρ F H S D s p => by
  refine hi ps σ ρ F H S _ s (PostX.imp (PostS.bind p) fun ds ρ1 F1 H1 e1 k1 p1 J s1 wk => ?_)
  refine ⟨fun i m σ' H' => m = ds.length - i ∧ i ≤ ds.length ∧ ∃ ρ' F', SA K T ps F' H' σ' ρ' S ∧ Same F1 F' ∧ KeepL S H1 H' ∧ PostS K T W ps F' H' S D (loopF g b (ds.drop i) ρ'),
    ⟨ds.length, by simp, Nat.zero_le _, ρ1, F1, s1, Same.refl F1, .refl, by simpa using p1⟩, ?_⟩
  rintro i m σ2 H2 ⟨rfl, hi', ρ2, F2, s2, e2, k2, p2⟩
  by_cases hlt : i < ds.length
  · refine .inr ⟨wk.go i H2 (e2.trans s2.ga.sm) hlt, fun σ' H' => i + 1 ≤ ds.length ∧ ∃ ρ' F', SA K T ps F' H' σ' ρ' S ∧ Same F1 F' ∧ KeepL S H1 H' ∧ PostS K T W ps F' H' S D (loopF g b (ds.drop (i + 1)) ρ'), ?_, fun x H3 y => ?_⟩
    · rintro σ' H' ⟨h1, ρ', F', h2, h3, h4, h5⟩
      exact ⟨ds.length - (i + 1), by omega, rfl, h1, ρ', F', h2, h3, h4, h5⟩
    · obtain ⟨d, hd, sm, rp⟩ := wk.yld i H2 x H3 hlt (e2.trans s2.ga.sm) y
      have edrop : ds.drop i = d :: ds.drop (i + 1) := by
        rw [List.drop_eq_getElem_cons hlt]
        rw [List.getElem?_eq_getElem hlt] at hd
        rw [Option.some.inj hd]
      rw [edrop] at p2
      have s3 := s2.ext sm
      have g3 := grow_same s2.ga.sm sm
      have r3 := rp F2 e2 s2.ga.sm
      have p3 := PostS.later p2 g3 (s2.keep sm)
      have k3 := s2.keep sm
      refine hg ps σ2 ρ2 (grow F2 H3) H3 S x d _ s3 r3 ?_
      unfold loopF at p3
      cases z : g d ρ2 with
      | none => rw [z] at p3; exact p3
      | some ρ4 =>
        rw [z] at p3
        intro σ4 F4 H4 e4 k4 s4
        refine hb ps σ4 ρ4 F4 H4 S _ s4 ?_
        have p4 := PostS.later p3 e4 k4
        dsimp only at p4
        have fin : ∀ (ρ5 : Env), PostS K T W ps F4 H4 S D (loopF g b (ds.drop (i + 1)) ρ5) → ∀ σ5 F5 H5, Same F4 F5 → KeepL S H4 H5 → SA K T ps F5 H5 σ5 ρ5 S →
            i + 1 ≤ ds.length ∧ ∃ ρ' F', SA K T ps F' H5 σ5 ρ' S ∧ Same F1 F' ∧ KeepL S H1 H5 ∧ PostS K T W ps F' H5 S D (loopF g b (ds.drop (i + 1)) ρ') :=
          fun ρ5 p5 σ5 F5 H5 e5 k5 s5 => ⟨hlt, ρ5, F5, s5, ((e2.trans g3).trans e4).trans e5, ((k2.trans k3).trans k4).trans k5, PostS.later p5 e5 k5⟩
        cases z2 : b ρ4 with
        | ok a ρ5 =>
          rw [z2] at p4
          cases a with
          | nx => exact fin ρ5 p4
          | cnt => exact fin ρ5 p4
          | brk => exact p4
          | ret o => exact p4
        | ex c es ρ5 => rw [z2] at p4; exact p4
        | bad => rw [z2] at p4; exact p4
  · have ei : i = ds.length := by omega
    subst ei
    refine .inl ⟨wk.stop _ H2 (e2.trans s2.ga.sm) (Nat.le_refl _), ?_⟩
    rw [List.drop_length] at p2
    exact p2 σ2 F2 H2 (Same.refl F2) .refl s2

/-! ### while -/
def loopW : Nat → Act Bool → Act Fl → Env → Res Fl
  | 0, _, _, _ => .bad
  | n + 1, c, b, ρ => match c ρ with
    | .ok true ρ1 => match b ρ1 with
      | .ok .nx ρ2 => loopW n c b ρ2
      | .ok .cnt ρ2 => loopW n c b ρ2
      | .ok .brk ρ2 => .ok .nx ρ2
      | .ok (.ret o) ρ2 => .ok (.ret o) ρ2
      | .ex x es ρ2 => .ex x es ρ2
      | .bad => .bad
    | .ok false ρ1 => .ok .nx ρ1
    | .ex x es ρ1 => .ex x es ρ1
    | .bad => .bad
theorem loopW_mono {c : Act Bool} {b : Act Fl} : ∀ (n : Nat) (ρ : Env) (r : Res Fl), loopW n c b ρ = r → r ≠ .bad → loopW (n + 1) c b ρ = r := by
  intro n
  induction n with
  | zero => intro ρ r h hr; exact absurd h.symm hr
  | succ n ih =>
    intro ρ r h hr
    rw [loopW] at h ⊢
    cases z : c ρ with
    | bad => rw [z] at h; exact h
    | ex x es ρ1 => rw [z] at h; exact h
    | ok a ρ1 =>
      rw [z] at h
      cases a with
      | false => exact h
      | true =>
        dsimp only at h ⊢
        cases z2 : b ρ1 with
        | bad => rw [z2] at h; exact h
        | ex x es ρ2 => rw [z2] at h; exact h
        | ok f ρ2 =>
          rw [z2] at h
          cases f with
          | nx => exact ih ρ2 r h hr
          | cnt => exact ih ρ2 r h hr
          | brk => exact h
          | ret o => exact h
theorem loopW_more {c : Act Bool} {b : Act Fl} {n : Nat} {ρ : Env} {r : Res Fl} (h : loopW n c b ρ = r) (hr : r ≠ .bad) : ∀ k, loopW (n + k) c b ρ = r
  | 0 => h
  | k + 1 => loopW_mono (n + k) ρ r (loopW_more h hr k) hr
noncomputable def sWh (c : Act Bool) (b : Act Fl) : Act Fl := fun ρ => by
  classical
  exact if h : ∃ n, loopW n c b ρ ≠ .bad then loopW (Classical.choose h) c b ρ else .bad
theorem sWh_eq {c : Act Bool} {b : Act Fl} {n : Nat} {ρ : Env} {r : Res Fl} (h : loopW n c b ρ = r) (hr : r ≠ .bad) : sWh c b ρ = r := by
  have ex : ∃ n, loopW n c b ρ ≠ .bad := ⟨n, by rw [h]; exact hr⟩
  unfold sWh
  rw [dif_pos ex]
  have q := Classical.choose_spec ex
  have h1 := loopW_more (n := Classical.choose ex) rfl q n
  have h2 := loopW_more h hr (Classical.choose ex)
  rw [Nat.add_comm] at h2
  rw [← h1, h2]
theorem sWh_some {c : Act Bool} {b : Act Fl} {ρ : Env} (h : sWh c b ρ ≠ .bad) : ∃ n, loopW n c b ρ = sWh c b ρ := by
  by_cases ex : ∃ n, loopW n c b ρ ≠ .bad
  · refine ⟨Classical.choose ex, ?_⟩
    unfold sWh
    rw [dif_pos ex]
  · exact absurd (by unfold sWh; rw [dif_neg ex]) h
theorem sok_while {tc : TT} {tb : TS} {c : Act Bool} {b : Act Fl} (hc : EOkT K T W tc c) (hb : SOk K T W tb b) : SOk K T W (tWhile tc tb) (sWh c b) := fun ps σ ρ F H S D s p => by
  obtain ⟨n, hn⟩ := sWh_some (c := c) (b := b) (ρ := ρ) (fun z => by rw [z] at p; exact p)
  rw [← hn] at p
  refine ⟨fun m σ' H' => ∃ ρ' F', SA K T ps F' H' σ' ρ' S ∧ Same F F' ∧ KeepL S H H' ∧ PostS K T W ps F' H' S D (loopW m c b ρ'), ⟨n, ρ, F, s, Same.refl F, .refl, p⟩, ?_⟩
  rintro m σ2 H2 ⟨ρ2, F2, s2, e2, k2, p2⟩
  cases m with
  | zero => exact p2.elim
  | succ m =>
    rw [loopW] at p2
    refine hc ps σ2 ρ2 F2 H2 S _ s2 ?_
    cases z : c ρ2 with
    | bad => rw [z] at p2; exact p2
    | ex x es ρ3 => rw [z] at p2; exact fun cls dd F3 H3 => p2 cls dd σ2 F3 H3
    | ok a ρ3 =>
      rw [z] at p2
      intro F3 H3 e3 k3 s3
      cases a with
      | false => exact iteF (p2 σ2 F3 H3 e3 k3 s3)
      | true =>
        refine iteT ⟨fun σ' H' => ∃ ρ' F', SA K T ps F' H' σ' ρ' S ∧ Same F F' ∧ KeepL S H H' ∧ PostS K T W ps F' H' S D (loopW m c b ρ'), fun σ' H' h => ⟨m, Nat.lt_succ_self m, h⟩, ?_⟩
        refine hb ps σ2 ρ3 F3 H3 S _ s3 ?_
        have p3 := PostS.later p2 e3 k3
        dsimp only at p3
        have fin : ∀ (ρ5 : Env), PostS K T W ps F3 H3 S D (loopW m c b ρ5) → ∀ σ5 F5 H5, Same F3 F5 → KeepL S H3 H5 → SA K T ps F5 H5 σ5 ρ5 S →
            ∃ ρ' F', SA K T ps F' H5 σ5 ρ' S ∧ Same F F' ∧ KeepL S H H5 ∧ PostS K T W ps F' H5 S D (loopW m c b ρ') :=
          fun ρ5 p5 σ5 F5 H5 e5 k5 s5 => ⟨ρ5, F5, s5, (e2.trans e3).trans e5, (k2.trans k3).trans k5, PostS.later p5 e5 k5⟩
        cases z2 : b ρ3 with
        | bad => rw [z2] at p3; exact p3
        | ex x es ρ4 => rw [z2] at p3; exact p3
        | ok f ρ4 =>
          rw [z2] at p3
          cases f with
          | nx => exact fin ρ4 p3
          | cnt => exact fin ρ4 p3
          | brk => exact p3
          | ret o => exact p3
end
end DL

/-! DL6: defs: what they promise, how they are called. -/
namespace DL
open PySem PySem.Spec PyProof.Rows L2
inductive Out where
  | ret (o : OO) | exc (c : String) (ds : List DD)
/-- a def: from the data handed in and the things that it may change to what comes back and what they are then -/
abbrev Fn := List DD → List OO → Option (Out × List OO)
inductive ArgsR (K : PySem.W.Frag) (T : Tab) (F : Hp) : List Bool → List V → List DD → List V → Prop
  | nil : ArgsR K T F [] [] [] []
  | rd {sig : List Bool} {v : V} {vs : List V} {d : DD} {ds : List DD} {ps : List V} : Rep K T F v d → ArgsR K T F sig vs ds ps → ArgsR K T F (false :: sig) (v :: vs) (d :: ds) ps
  | io {sig : List Bool} {v : V} {vs : List V} {ds : List DD} {ps : List V} : ArgsR K T F sig vs ds ps → ArgsR K T F (true :: sig) (v :: vs) ds (v :: ps)
def PostF (K : PySem.W.Frag) (T : Tab) (F H : Hp) (S : List Addr) (ps : List V) (Q : VK) (E : XK) : Option (Out × List OO) → Prop
  | none => False
  | some (.ret o, os') => ∀ v F' H' B A', Same F F' → KeepL S H H' → OwnAll K T F' H' ps os' A' → Own K T F' H' v o B → GA F' H' (A' ++ (B ++ S)) → Q v H'
  | some (.exc c es, os') => ∀ cls dd F' H' A', Same F F' → KeepL S H H' → OwnAll K T F' H' ps os' A' → GA F' H' (A' ++ S) → ExR K T F' c es cls dd → E cls dd H'
def spD (K : PySem.W.Frag) (T : Tab) (sig : List Bool) (G : Fn) : Sp := fun vs H Q E => ∃ (F : Hp) (S : List Addr) (ds : List DD) (ps : List V) (os : List OO) (A : List Addr),
  ArgsR K T F sig vs ds ps ∧ OwnAll K T F H ps os A ∧ GA F H (A ++ S) ∧ PostF K T F H S ps Q E (G ds os)
def islots : List Bool → Nat → List DD → List Slot
  | [], _, _ => []
  | false :: sig, k, d :: ds => .own (.dat d) :: islots sig k ds
  | false :: sig, k, [] => .no :: islots sig k []
  | true :: sig, k, ds => .ptr k :: islots sig (k + 1) ds
def ienv (sig : List Bool) (n : Nat) (ds : List DD) (os : List OO) : Env := ⟨islots sig 0 ds ++ List.replicate (n - sig.length) .no, os⟩
/-- a body as a def's function -/
def gof (sig : List Bool) (n : Nat) (f : Act Fl) : Fn := fun ds os => match f (ienv sig n ds os) with
  | .ok .nx ρ => some (.ret (.dat .non), ρ.bo)
  | .ok (.ret o) ρ => some (.ret o, ρ.bo)
  | .ok .brk _ => none
  | .ok .cnt _ => none
  | .ex c es ρ => some (.exc c es, ρ.bo)
  | .bad => none
section
variable {K : PySem.W.Frag} {T : Tab}
theorem ArgsR.length {F : Hp} : ∀ {sig : List Bool} {vs : List V} {ds : List DD} {ps : List V}, ArgsR K T F sig vs ds ps → vs.length = sig.length
  | _, _, _, _, .nil => rfl
  | _, _, _, _, .rd _ t => congrArg (· + 1) t.length
  | _, _, _, _, .io t => congrArg (· + 1) t.length
theorem ArgsR.pure {F : Hp} : ∀ {vs : List V} {ds : List DD}, RepAll K T F vs ds → ArgsR K T F (List.replicate vs.length false) vs ds []
  | _, _, .nil => .nil
  | _, _, .cons h t => .rd h (ArgsR.pure t)
theorem EnvR.append {ps : List V} {F H : Hp} : ∀ {σ τ : L2.St} {s t : List Slot} {A B : List Addr}, EnvR K T ps F H σ s A → EnvR K T ps F H τ t B → EnvR K T ps F H (σ ++ τ) (s ++ t) (A ++ B)
  | _, _, _, _, _, _, .nil, r => r
  | _, _, _, _, _, _, .cons h q, r => by
    rw [List.append_assoc]
    exact .cons h (q.append r)
theorem EnvR.nos {ps : List V} {F H : Hp} : ∀ n : Nat, EnvR K T ps F H (List.replicate n none) (List.replicate n .no) []
  | 0 => .nil
  | n + 1 => by
    have q := EnvR.cons (.no (x := none)) (EnvR.nos (ps := ps) (F := F) (H := H) n)
    exact q
theorem ArgsR.env {qs : List V} {F H : Hp} : ∀ {sig : List Bool} {vs : List V} {ds : List DD} {ps : List V} {k : Nat}, ArgsR K T F sig vs ds ps → (∀ (j : Nat) v, ps[j]? = some v → qs[k + j]? = some v) → EnvR K T qs F H (vs.map some) (islots sig k ds) []
  | _, _, _, _, _, .nil, _ => .nil
  | _, _, _, _, k, .rd h t, hq => by
    have q := EnvR.cons (.own (.dat h) (H := H) (ps := qs)) (t.env (k := k) hq)
    exact q
  | _, _, _, _, k, .io t, hq => by
    have q := EnvR.cons (.ptr (K := K) (T := T) (F := F) (H := H) (hq 0 _ rfl)) (t.env (k := k + 1) fun j v e => by
      have := hq (j + 1) v (by simpa using e)
      rw [show k + 1 + j = k + (j + 1) by omega]
      exact this)
    exact q
theorem spD_len {sig : List Bool} {G : Fn} {n : Nat} (hn : sig.length = n) : ∀ vs H Q E, spD K T sig G vs H Q E → vs.length = n := fun vs H Q E ⟨_, _, _, _, _, _, h, _⟩ => by rw [h.length, hn]
/-- what a body does, from the promise's side -/
theorem spD_body {W : WX} {sig : List Bool} {n : Nat} {f : Act Fl} {t : TS} {N : List Str} {vs : List V} {H : Hp} {Q : VK} {E : XK} (hN : N.length = n) (hs : sig.length ≤ n) (hW : W = fun cls d _ H => E cls d H) (h : SOk K T W t f) (sp : spD K T sig (gof sig n f) vs H Q E) :
    t { nx := fun _ H' => Q .non H', rt := Q } (L2.start N vs) H := by
  obtain ⟨F, S, ds, ps, os, A, ha, ho, g, p⟩ := sp
  subst hW
  have hl := ha.length
  refine h ps (L2.start N vs) (ienv sig n ds os) F H S _ ⟨[], A, ?_, ho, by simpa using g⟩ ?_
  · unfold L2.start ienv
    rw [hN, hl]
    have q := (ha.env (H := H) (qs := ps) (k := 0) fun j v e => by simpa using e).append (EnvR.nos (ps := ps) (F := F) (H := H) (n - sig.length))
    exact q
  · unfold gof at p
    cases z : f (ienv sig n ds os) with
    | bad => rw [z] at p; exact p
    | ex c es ρ =>
      rw [z] at p
      intro cls dd σ' F' H' e k s' x
      obtain ⟨A2, B2, _, b2, g2⟩ := s'
      exact p cls dd F' H' B2 e k b2 (g2.sub fun a => by simp only [List.count_append]; omega) x
    | ok a ρ =>
      rw [z] at p
      cases a with
      | nx =>
        intro σ' F' H' e k s'
        obtain ⟨A2, B2, _, b2, g2⟩ := s'
        exact p .non F' H' [] B2 e k b2 (.dat .non) (g2.sub fun a => by simp only [List.count_append, List.count_nil]; omega)
      | ret o =>
        intro v σ' F' H' B e k s' w
        obtain ⟨A2, B2, _, b2, g2⟩ := s'
        exact p v F' H' B B2 e k b2 w (g2.sub fun a => by simp only [List.count_append]; omega)
      | brk => exact p.elim
      | cnt => exact p.elim
end
section
variable {P : Program} {w : World} {K : PySem.W.Frag} {mg : Str → Option Value} {base : Heap} {T : Tab}
/-- THE RULE for a def: its body as a step -/
theorem fn_ok {x qual : Str} {st : Stmt} {f : Addr} {fd : FuncData} {N ps : List Str} {k n : Nat} {sig : List Bool} {b : Act Fl} (F : Fun K x qual st f fd) (S : FnScope N ps (defScope st)) (hs : sig.length = ps.length) (hN : N.length = n) (hle : sig.length ≤ n)
    (hbody : ∀ (cdv : Value) (A : Around) (outer : List PySem.Env) (s : Shared) (H : Hp) (E : XK), Room k (A.deeper (envOfC qual (defScope st) s.heap.objs.size f cdv)) →
      PassesOwn (model P w) (A.deeper (envOfC qual (defScope st) s.heap.objs.size f cdv)) (envOfC qual (defScope st) s.heap.objs.size f cdv) (cxOf (L2.CX P w) P w K mg base N qual (defScope st) f cdv A outer s H E).xe →
      Takes (cxOf (L2.CX P w) P w K mg base N qual (defScope st) f cdv A outer s H E) (fun cls d _ H => E cls d H) → XSs (cxOf (L2.CX P w) P w K mg base N qual (defScope st) f cdv A outer s H E) T (fun cls d _ H => E cls d H) (defBody st) b) :
    FnOk P w K mg base (L2.CX P w) (k + 1) f fd ps (spD K T sig (gof sig n b)) := by
  refine F.okX S (spD_len hs) fun cdv A outer s H vs Q E hr sp => ?_
  obtain ⟨t, h1, h2⟩ := hbody cdv A outer s H E hr (passes_of (X := cxOf (L2.CX P w) P w K mg base N _ _ f cdv A outer s H E) rfl) (takes_of rfl rfl rfl rfl)
  exact ⟨t, h1, spD_body hN hle rfl h2 sp⟩
/-- a def with defaults -/
theorem fn_okD {x qual : Str} {params : Arguments} {body : List Stmt} {scope : Scope} {dvs : List V} {kws : List (Str × V)} {f : Addr} {fd : FuncData} {N ps : List Str} {k n : Nat} {sig : List Bool} {b : Act Fl} (F : FunD K x qual params body scope dvs kws f fd) (S : FnScope N ps scope) (hs : sig.length = ps.length) (hN : N.length = n) (hle : sig.length ≤ n)
    (hbody : ∀ (cdv : Value) (A : Around) (outer : List PySem.Env) (s : Shared) (H : Hp) (E : XK), Room k (A.deeper (envOfC qual scope s.heap.objs.size f cdv)) →
      PassesOwn (model P w) (A.deeper (envOfC qual scope s.heap.objs.size f cdv)) (envOfC qual scope s.heap.objs.size f cdv) (cxOf (L2.CX P w) P w K mg base N qual scope f cdv A outer s H E).xe →
      Takes (cxOf (L2.CX P w) P w K mg base N qual scope f cdv A outer s H E) (fun cls d _ H => E cls d H) → XSs (cxOf (L2.CX P w) P w K mg base N qual scope f cdv A outer s H E) T (fun cls d _ H => E cls d H) body b) :
    FnOk P w K mg base (L2.CX P w) (k + 1) f fd ps (spD K T sig (gof sig n b)) := by
  refine F.ok S (spD_len hs) fun cdv A outer s H vs Q E hr sp => ?_
  obtain ⟨t, h1, h2⟩ := hbody cdv A outer s H E hr (passes_of (X := cxOf (L2.CX P w) P w K mg base N _ _ f cdv A outer s H E) rfl) (takes_of rfl rfl rfl rfl)
  exact ⟨t, h1, spD_body hN hle rfl h2 sp⟩
/-- the same promise by another name of its function -/
theorem fn_eq {f : Addr} {fd : FuncData} {ps : List Str} {k : Nat} {sig : List Bool} {G G' : Fn} (h : FnOk P w K mg base (L2.CX P w) k f fd ps (spD K T sig G)) (e : ∀ ds os r, G' ds os = some r → G ds os = some r) : FnOk P w K mg base (L2.CX P w) k f fd ps (spD K T sig G') :=
  h.imp fun vs H Q E ⟨F, S, ds, ps, os, A, h1, h2, h3, p⟩ => ⟨F, S, ds, ps, os, A, h1, h2, h3, by
    cases z : G' ds os with
    | none => rw [z] at p; exact p.elim
    | some r => rw [z] at p; rw [e ds os r z]; exact p⟩
end

/-! ### calls -/
def gCall (G : Fn) (gs : View → Option (List DD)) : View → Option DD := fun w => (gs w).bind fun ds => match G ds [] with
  | some (.ret o, _) => some o.view
  | _ => none
def callRd (G : Fn) (ds : List DD) : Act OO := fun ρ => match G ds [] with
  | some (.ret o, _) => .ok o ρ
  | some (.exc c es, _) => .ex c es ρ
  | none => .bad
def sCall (G : Fn) (f : Act (List DD)) : Act OO := sBind f (callRd G)
/-- the i-th place is handed in, to be changed -/
def callIo (G : Fn) (i : Nat) (ds : List DD) : Act OO := fun ρ => match ρ.pl i with
  | some o => match G ds [o] with
    | some (.ret r, [o']) => .ok r (ρ.pset i o')
    | some (.exc c es, [o']) => .ex c es (ρ.pset i o')
    | _ => .bad
  | none => .bad
def sCallIo (G : Fn) (i : Nat) (f : Act (List DD)) : Act OO := fun ρ => match ρ.pl i with
  | some _ => sBind f (callIo G i) ρ
  | none => .bad
section
variable {K : PySem.W.Frag} {T : Tab} {W : WX}
theorem vok_call {sig : List Bool} {G : Fn} {t : TA} {gs : View → Option (List DD)} {E : XK} (hs : ∀ w ds, gs w = some ds → sig = List.replicate ds.length false) (h : VOkA K T t gs) : VOk K T (tCall (spD K T sig G) [] E t) (gCall G gs) := fun σ w H d En e Q q => by
  obtain ⟨ds, ex, e⟩ := Option.bind_eq_some_iff.mp e
  refine h σ w H ds En ex _ fun vs H1 s1 r1 => ?_
  show spD K T sig G (vs ++ []) H1 Q E
  rw [List.append_nil]
  refine ⟨H1, [], ds, [], [], [], ?_, .nil, ⟨fun a => by simp, fun a ha => by simp at ha, fun a ha => by simp at ha, Same.refl _, fun a o e _ => e⟩, ?_⟩
  · rw [hs w ds ex, ← r1.length]
    exact ArgsR.pure r1
  · split at e
    · rename_i o x z
      cases e
      rw [z]
      intro v F' H' B A' e1 k1 b1 w1 g1
      exact q v H' (s1.trans (e1.trans g1.sm)) (w1.rep g1.sm fun _ _ => rfl)
    · cases e
/-- around a call all that the frame has is kept -/
theorem SA.frame {ps : List V} {σ : L2.St} {ρ : Env} {F H F' H' : Hp} {S A B R : List Addr} (ra : EnvR K T ps F H σ ρ.sl A) (rb : OwnAll K T F H ps ρ.bo B) (e : Same F F') (k : KeepL (A ++ (B ++ S)) H H') (g : GA F' H' (R ++ (A ++ (B ++ S)))) : SA K T ps F' H' σ ρ (R ++ S) :=
  ⟨A, B, ra.frame e fun a ha => k a (by simp only [List.count_append]; omega), rb.frame e fun a ha => k a (by simp only [List.count_append]; omega), g.sub fun a => by simp only [List.count_append]; omega⟩
theorem eok_call {sig : List Bool} {G : Fn} {t : TA} {f : Act (List DD)} (hs : ∀ ρ ds ρ', f ρ = .ok ds ρ' → sig = List.replicate ds.length false) (h : EOkA K T W t f) : EOk K T W (tCallS (spD K T sig G) (WE W) t) (sCall G f) := fun ps σ ρ F H S Q s p => by
  refine h ps σ ρ F H S _ s ?_
  have p' := PostX.bind p
  cases zf : f ρ with
  | ex c es ρ1 => rw [zf] at p'; exact p'
  | bad => rw [zf] at p'; exact p'
  | ok ds ρ1 =>
    rw [zf] at p'
    intro F1 H1 e1 k1 vs s1 r1
    have p1 := p' F1 H1 e1 k1
    dsimp only [callRd] at p1
    obtain ⟨A, B, ra, rb, g⟩ := id s1
    refine ⟨F1, A ++ (B ++ S), ds, [], [], [], ?_, .nil, by simpa using g, ?_⟩
    · rw [hs ρ ds ρ1 zf, ← r1.length]
      exact ArgsR.pure r1
    · cases z : G ds [] with
      | none => rw [z] at p1; exact p1
      | some r =>
        obtain ⟨r, os⟩ := r
        rw [z] at p1
        cases r with
        | ret o =>
          intro v F' H' B' A' e2 k2 b2 w2 g2
          refine p1 F' H' e2 (fun a ha => k2 a (by simp only [List.count_append]; omega)) v B' ?_ w2
          exact SA.frame ra rb e2 k2 (g2.sub fun a => by simp only [List.count_append]; omega)
        | exc c es =>
          intro cls dd F' H' A' e2 k2 b2 g2 x2
          refine p1 cls dd F' H' e2 (fun a ha => k2 a (by simp only [List.count_append]; omega)) ?_ x2
          exact SA.frame (R := []) ra rb e2 k2 (g2.sub fun a => by simp only [List.count_append, List.count_nil]; omega)
/-- mixed arguments: frozen data, and names of places -/
def EOkG (K : PySem.W.Frag) (T : Tab) (W : WX) (sig : List Bool) (is : List Nat) (t : TA) (f : Act (List DD)) : Prop := ∀ (ps : List V) (σ : L2.St) (ρ : Env) (F H : Hp) (S : List Addr) (Q : List V → Hp → Prop), SA K T ps F H σ ρ S →
  PostX K T W ps σ F H S (fun ds ρ' F' H' => ∀ vs qs, SA K T ps F' H' σ ρ' S → ArgsR K T F' sig vs ds qs → (∀ (j i : Nat) v, is[j]? = some i → σ[i]? = some (some v) → qs[j]? = some v) → qs.length = is.length → Q vs H') (f ρ) →
  (∀ i ∈ is, ∃ v, σ[i]? = some (some v)) → t σ H Q
theorem ArgsR.mono {F F' : Hp} (e : Same F F') : ∀ {sig : List Bool} {vs : List V} {ds : List DD} {ps : List V}, ArgsR K T F sig vs ds ps → ArgsR K T F' sig vs ds ps
  | _, _, _, _, .nil => .nil
  | _, _, _, _, .rd h t => .rd (h.mono e) (t.mono e)
  | _, _, _, _, .io t => .io (t.mono e)
theorem eokg_nil : EOkG K T W [] [] tNil sNil := fun ps σ ρ F H S Q s p _ => PostX.now p [] [] s .nil (fun j i v e => by simp at e) rfl
theorem eokg_rd {sig : List Bool} {is : List Nat} {ta : TE} {tr : TA} {fa : Act DD} {fr : Act (List DD)} (ha : EOkD K T W ta fa) (hr : EOkG K T W sig is tr fr) : EOkG K T W (false :: sig) is (tCons ta tr) (sCons fa fr) := fun ps σ ρ F H S Q s p hi => by
  refine ha ps σ ρ F H S _ s (PostX.imp (PostX.bind p) fun d ρ' F' H' e k q v s' r => ?_)
  refine hr ps σ ρ' F' H' S _ s' (PostX.imp (PostX.bind q) fun ds ρ2 F2 H2 e2 k2 q2 vs qs s2 r2 h1 h2 => ?_) hi
  exact PostX.now q2 _ qs s2 (.rd (r.mono e2) r2) h1 h2
theorem eokg_io {sig : List Bool} {is : List Nat} {i : Nat} {tr : TA} {fr : Act (List DD)} (hr : EOkG K T W sig is tr fr) : EOkG K T W (true :: sig) (i :: is) (tCons (tVar i) tr) fr := fun ps σ ρ F H S Q s p hi => by
  obtain ⟨v, hv⟩ := hi i List.mem_cons_self
  refine ⟨v, hv, hr ps σ ρ F H S _ s (PostX.imp p fun ds ρ2 F2 H2 e2 k2 q2 vs qs s2 r2 h1 h2 => ?_) fun j hj => hi j (List.mem_cons_of_mem _ hj)⟩
  refine q2 _ (v :: qs) s2 (.io r2) (fun j i' v' e1 e2 => ?_) (by rw [List.length_cons, h2, List.length_cons])
  cases j with
  | zero =>
    simp at e1
    subst e1
    rw [hv] at e2
    cases e2
    rfl
  | succ j => exact h1 j i' v' (by simpa using e1) e2
theorem eok_callIo {sig : List Bool} {G : Fn} {i : Nat} {t : TA} {f : Act (List DD)} (h : EOkG K T W sig [i] t f) : EOk K T W (tCallS (spD K T sig G) (WE W) t) (sCallIo G i f) := fun ps σ ρ F H S Q s p => by
  unfold sCallIo at p
  cases z0 : ρ.pl i with
  | none => rw [z0] at p; exact p.elim
  | some o0 =>
    rw [z0] at p
    obtain ⟨v0, _, _, hv0, _⟩ := s.place z0
    refine h ps σ ρ F H S _ s (PostX.imp (PostX.bind p) fun ds ρ1 F1 H1 e1 k1 p1 vs qs s1 r1 h1 h2 => ?_) (fun j hj => by
      have e : j = i := by simpa using hj
      subst e
      exact ⟨v0, hv0⟩)
    have eq : qs = [v0] := by
      have q0 := h1 0 i v0 rfl hv0
      match qs, h2, q0 with
      | [x], _, q0 => simpa using q0
    subst eq
    unfold callIo at p1
    cases z : ρ1.pl i with
    | none => rw [z] at p1; exact p1.elim
    | some o =>
      rw [z] at p1
      dsimp only at p1
      obtain ⟨v, A1, R, hv, w1, g1, back⟩ := s1.place z
      rw [hv0] at hv
      cases hv
      refine ⟨F1, R ++ S, ds, [v0], [o], A1 ++ [], r1, .cons w1 .nil, by rw [List.append_nil]; exact g1, ?_⟩
      cases zg : G ds [o] with
      | none => rw [zg] at p1; exact p1.elim
      | some r =>
        obtain ⟨r, os⟩ := r
        rw [zg] at p1
        cases r with
        | ret r =>
          match os, p1 with
          | [o'], p1 =>
            intro v F' H' B' A' e2 k2 b2 w2 g2
            cases b2 with
            | @cons _ _ _ _ A2 B2 x y =>
              cases y
              refine p1 F' H' e2 (fun a ha => k2 a (by simp only [List.count_append]; omega)) v B' ?_ w2
              exact back x e2 (fun a ha => k2 a (by simp only [List.count_append]; omega)) (g2.sub fun a => by simp only [List.count_append, List.count_nil]; omega)
          | [], p1 => exact p1.elim
          | _ :: _ :: _, p1 => exact p1.elim
        | exc c es =>
          match os, p1 with
          | [o'], p1 =>
            intro cls dd F' H' A' e2 k2 b2 g2 x2
            cases b2 with
            | @cons _ _ _ _ A2 B2 x y =>
              cases y
              refine p1 cls dd F' H' e2 (fun a ha => k2 a (by simp only [List.count_append]; omega)) ?_ x2
              exact back x e2 (fun a ha => k2 a (by simp only [List.count_append]; omega)) (g2.sub fun a => by simp only [List.count_append, List.count_nil]; omega)
          | [], p1 => exact p1.elim
          | _ :: _ :: _, p1 => exact p1.elim
end
end DL

/-! DL7: calls, places, statements by the text's syntax. -/
namespace DL
open PySem PySem.Spec PyProof.Rows L2
/-! ### places -/
section
variable {K : PySem.W.Frag} {T : Tab} {W : WX} {ps : List V} {σ : L2.St} {ρ : Env} {F H : Hp} {S : List Addr}
theorem SA.listUpd {i : Nat} {os : List OO} (s : SA K T ps F H σ ρ S) (h : ρ.pl i = some (.lst os)) : ∃ p vs A R, σ[i]? = some (some (.ref p)) ∧ H p = some (.lst vs) ∧ OwnAll K T F H vs os A ∧ GA F H ((p :: A) ++ (R ++ S)) ∧
    ∀ {vs' : List V} {os' : List OO} {A' S' : List Addr}, OwnAll K T F H vs' os' A' → (∀ a, ((p :: A') ++ (R ++ S')).count a ≤ ((p :: A) ++ (R ++ S)).count a) →
      SA K T ps F (upd H p (.lst vs')) σ (ρ.pset i (.lst os')) S' ∧ KeepL S' H (upd H p (.lst vs')) := by
  obtain ⟨v, A1, R, hv, w, g, back⟩ := s.place h
  cases w with
  | @lst p vs _ A hp r =>
    refine ⟨p, vs, A, R, hv, hp, r, g, fun {vs' os' A' S'} r' hc => ?_⟩
    have g' := g.sub hc
    have np : ∀ a, 0 < (A' ++ (R ++ S')).count a → a ≠ p := fun a ha z => by
      subst z
      have := g'.nd a
      simp only [List.count_append, List.cons_append, List.count_cons_self] at this ha
      omega
    have ku : ∀ a, a ≠ p → upd H p (.lst vs') a = H a := fun a z => upd_ne z
    have fp : F p = none := g.fr p (by simp [List.count_cons_self])
    have g2 : GA F (upd H p (.lst vs')) ((p :: A') ++ (R ++ S')) := ⟨g'.nd, g'.fr, fun a ha => by
        by_cases z : a = p
        · subst z; rw [upd_same]; simp
        · rw [ku a z]; exact g'.th a ha, fun a o e => by
        rw [ku a (fun z => by rw [z, fp] at e; cases e)]
        exact g'.sm a o e, fun a o e z => by
        by_cases za : a = p
        · subst za; rw [upd_same] at e; cases e; cases z
        · rw [ku a za] at e; exact g'.ft a o e z⟩
    refine ⟨back (A1' := p :: A') (.lst upd_same (r'.frame (fun _ _ z => z) fun a ha => ku a (np a (by simp only [List.count_append]; omega)))) (fun _ _ z => z) (fun a ha => ku a (np a (by simp only [List.count_append]; omega))) g2, fun a ha => ku a (np a (by simp only [List.count_append]; omega))⟩
theorem OwnAll.erase : ∀ {vs : List V} {os : List OO} {A : List Addr} {k : Nat} {o : OO}, OwnAll K T F H vs os A → os[k]? = some o →
    ∃ v A1 A', vs[k]? = some v ∧ Own K T F H v o A1 ∧ OwnAll K T F H (vs.eraseIdx k) (os.eraseIdx k) A' ∧ ∀ a, A'.count a + A1.count a = A.count a
  | _, _, _, _, _, .nil, e => by simp at e
  | _, _, _, 0, _, .cons (v := v) (A := A) (B := B) h r, e => by
    simp at e; subst e
    exact ⟨v, A, B, rfl, h, r, fun a => by simp only [List.count_append]; omega⟩
  | _, _, _, k + 1, _, .cons (A := A) (B := B) h r, e => by
    obtain ⟨v, A1, A', h1, h2, h3, h4⟩ := OwnAll.erase (k := k) r (by simpa using e)
    exact ⟨v, A1, A ++ A', by simpa using h1, h2, .cons h h3, fun a => by have := h4 a; simp only [List.count_append]; omega⟩
theorem OwnAll.setDat {v : V} {d : DD} (h : Rep K T F v d) : ∀ {vs : List V} {os : List OO} {A : List Addr} {k : Nat}, OwnAll K T F H vs os A → k < os.length → ∃ A', OwnAll K T F H (vs.set k v) (os.set k (.dat d)) A' ∧ ∀ a, A'.count a ≤ A.count a
  | _, _, _, _, .nil, e => absurd e (Nat.not_lt_zero _)
  | _, _, _, 0, .cons (A := A) (B := B) h' r, e => ⟨[] ++ B, .cons (.dat h) r, fun a => by simp only [List.count_append, List.count_nil]; omega⟩
  | _, _, _, k + 1, .cons (A := A) (B := B) h' r, e => by
    obtain ⟨A', h3, h4⟩ := OwnAll.setDat h (k := k) r (by simpa using e)
    exact ⟨A ++ A', .cons h' h3, fun a => by have := h4 a; simp only [List.count_append]; omega⟩
/-- xs.append(e) -/
def appAt (i : Nat) (o : OO) : Act Fl := fun ρ => match ρ.pl i with
  | some (.lst os) => if os.length < sizeLine then .ok .nx (ρ.pset i (.lst (os ++ [o]))) else .bad
  | _ => .bad
def sApp (i : Nat) (f : Act OO) : Act Fl := fun ρ => match ρ.pl i with
  | some (.lst _) => sBind f (appAt i) ρ
  | _ => .bad
theorem sok_app {te : TE} {f : Act OO} {i : Nat} (h : EOk K T W te f) : SOk K T W (tDrop (tBM K "list" rAppend (tVar i) (tCons te tNil))) (sApp i f) := fun ps σ ρ F H S D s p => by
  unfold sApp at p
  split at p
  · rename_i os0 z0
    obtain ⟨p0, vs0, _, _, hv0, hp0, _, _, _⟩ := s.listUpd z0
    refine ⟨_, hv0, .inl ⟨rfl, vs0, .inl (.inl hp0)⟩, ?_⟩
    refine h ps σ ρ F H S _ s (PostX.imp (PostS.bind p) fun o ρ1 F1 H1 e1 k1 p1 v B s1 w => ?_)
    unfold appAt at p1
    split at p1
    · rename_i os z
      split at p1
      · rename_i hz
        obtain ⟨p2, vs, A, R, hv, hp, r, g, back⟩ := s1.listUpd z
        rw [hv0] at hv
        cases hv
        obtain ⟨s2, k2⟩ := back (vs' := vs ++ [v]) (os' := os ++ [o]) (A' := A ++ (B ++ [])) (S' := S) (r.append (.cons w .nil)) fun a => by simp only [List.count_append, List.cons_append, List.count_cons, List.count_nil]; omega
        exact ⟨p0, vs, v, rfl, rfl, hp, by rw [r.length]; exact hz, p1 σ F1 _ (Same.refl F1) k2 s2⟩
      · exact p1.elim
    · exact p1.elim
  · exact p.elim
/-- xs[i] = e -/
def setAt (i : Nat) (d : DD) (k : DD) : Act Fl := fun ρ => match ρ.pl i with
  | some (.lst os) => match k with
    | .int n => match ixN os.length n with
      | some j => .ok .nx (ρ.pset i (.lst (os.set j (.dat d))))
      | none => .bad
    | _ => .bad
  | _ => .bad
def setAt0 (i : Nat) (fi : Act DD) (d : DD) : Act Fl := fun ρ => match ρ.pl i with
  | some (.lst _) => sBind fi (setAt i d) ρ
  | _ => .bad
def sSetIx (i : Nat) (fv fi : Act DD) : Act Fl := sBind fv (setAt0 i fi)
theorem sok_setIx {te ti : TE} {fv fi : Act DD} {i : Nat} (h : EOkD K T W te fv) (hi : EOkD K T W ti fi) : SOk K T W (tAsg te (gSub (tVar i) ti rSetL)) (sSetIx i fv fi) := fun ps σ ρ F H S D s p => by
  refine h ps σ ρ F H S _ s (PostX.imp (PostS.bind p) fun d ρ0 F0 H0 e0 k0 p0 v s0 rv => ?_)
  unfold setAt0 at p0
  split at p0
  · rename_i os0 z0
    obtain ⟨q0, vs0, _, _, hv0, hp0, _, _, _⟩ := s0.listUpd z0
    refine ⟨_, hv0, ?_⟩
    refine hi ps σ ρ0 F0 H0 S _ s0 (PostX.imp (PostS.bind p0) fun k ρ1 F1 H1 e1 k1 p1 u s1 ru => ?_)
    unfold setAt at p1
    split at p1
    · rename_i os z
      split at p1
      · split at p1
        · rename_i n j zj
          obtain ⟨p2, vs, A, R, hv, hp, r, g, back⟩ := s1.listUpd z
          rw [hv0] at hv
          cases hv
          have hl := r.length
          obtain ⟨A', r', hc⟩ := OwnAll.setDat (rv.mono e1) r (ixN_seq zj).2.1
          obtain ⟨s2, k2⟩ := back (S' := S) r' fun a => by have := hc a; simp only [List.count_append, List.cons_append, List.count_cons]; omega
          cases ru
          exact ⟨q0, vs, _, j, rfl, rfl, hp, by rw [hl]; exact zj, p1 σ F1 _ (Same.refl F1) k2 s2⟩
        · exact p1.elim
      · exact p1.elim
    · exact p1.elim
  · exact p0.elim
/-- xs.pop(i) -/
def popAt (i : Nat) (k : DD) : Act OO := fun ρ => match ρ.pl i with
  | some (.lst os) => match k with
    | .int n => if -(2 ^ 63) ≤ n ∧ n < 2 ^ 63 then match seqIndex? n os.length with
      | some j => match os[j]? with
        | some o => .ok o (ρ.pset i (.lst (os.eraseIdx j)))
        | none => .bad
      | none => .bad
      else .bad
    | _ => .bad
  | _ => .bad
def sPopAt (i : Nat) (f : Act DD) : Act OO := fun ρ => match ρ.pl i with
  | some (.lst _) => sBind f (popAt i) ρ
  | _ => .bad
theorem eok_popAt {ti : TE} {f : Act DD} {i : Nat} (h : EOkD K T W ti f) : EOk K T W (tBM K "list" rPopAt (tVar i) (tCons ti tNil)) (sPopAt i f) := fun ps σ ρ F H S Q s p => by
  unfold sPopAt at p
  split at p
  · rename_i os0 z0
    obtain ⟨p0, vs0, _, _, hv0, hp0, _, _, _⟩ := s.listUpd z0
    refine ⟨_, hv0, .inl ⟨rfl, vs0, .inl (.inl hp0)⟩, ?_⟩
    refine h ps σ ρ F H S _ s (PostX.imp (PostX.bind p) fun k ρ1 F1 H1 e1 k1 p1 u s1 ru => ?_)
    unfold popAt at p1
    split at p1
    · rename_i os z
      split at p1
      · split at p1
        · rename_i n hb
          split at p1
          · rename_i j zj
            split at p1
            · rename_i o zo
              obtain ⟨p2, vs, A, R, hv, hp, r, g, back⟩ := s1.listUpd z
              rw [hv0] at hv
              cases hv
              have hl := r.length
              obtain ⟨v, A1, A', h1, h2, h3, h4⟩ := r.erase zo
              obtain ⟨s2, k2⟩ := back (S' := A1 ++ S) h3 fun a => by have := h4 a; simp only [List.count_append, List.cons_append, List.count_cons]; omega
              cases ru
              refine ⟨p0, vs, _, j, v, rfl, rfl, hp, hb.1, hb.2, by rw [hl]; exact zj, h1, ?_⟩
              refine p1 F1 _ (Same.refl F1) (fun a ha => k2 a (by simp only [List.count_append]; omega)) v A1 s2 (h2.frame (fun _ _ z => z) fun a ha => k2 a (by simp only [List.count_append]; omega))
            · exact p1.elim
          · exact p1.elim
        · exact p1.elim
      · exact p1.elim
    · exact p1.elim
  · exact p.elim
end

/-! ### by the syntax -/
/-- a def of the text, known by its function -/
structure DefOk (P : Program) (w : World) (K : PySem.W.Frag) (mg : Str → Option Value) (base : Heap) (T : Tab) (x : Str) (f : Addr) (fd : FuncData) (k : Nat) (ps : List Str) (sig : List Bool) (G : Fn) : Prop where
  hm : mg x = some (.ref f)
  kp : PySem.W.keepIn K (.ref f) = true
  ok : FnOk P w K mg base (L2.CX P w) k f fd ps (spD K T sig G)
section
variable {X : Cx} {T : Tab} {W : WX} {pos : Pos} {a b e c : Expr} {es : List Expr} {fa fb fe : Act DD} {oa ob oe : Act OO} {fc : Act Bool} {fs : Act (List DD)} {ge : View → Option DD} {gs : View → Option (List DD)}
variable {x : Str} {f : Addr} {fd : FuncData} {k : Nat} {ps : List Str} {sig : List Bool} {G : Fn} {p : Pos}
theorem xv_call (D : DefOk X.prog X.w X.K X.mg X.base T x f fd k ps sig G) (hr : Room k X.A) (hb : Binds X.K fd ps []) (hs : sig = List.replicate (e :: es).length false) (ha : XAn X T (e :: es) gs) (hg : Gl X x := by rfl)
    (hdb : (x == ("__debug__" : Str)) = false := by decide) (he : starEach (e :: es) X.env = (false, eval e X.env) :: starEach es X.env := by rfl) (hpl : (backTo pos (starEach es X.env)).any (·.1) = false := by rfl) :
    XV X T (.Call (.Name x p) (e :: es) [] pos) (gCall G gs) :=
  let ⟨⟨_, q, u⟩, n⟩ := ha; ⟨_, pe_call D.ok hr hg D.hm D.kp hb .nil passL q hdb he hpl, vok_call (sig := sig) (fun w ds z => by rw [hs, n w ds z]) u⟩
theorem xe_call (D : DefOk X.prog X.w X.K X.mg X.base T x f fd k ps sig G) (hr : Room k X.A) (tk : Takes X W) (hb : Binds X.K fd ps []) (hs : sig = List.replicate (e :: es).length false) (ha : XAs X T W (e :: es) fs) (hg : Gl X x := by rfl)
    (hdb : (x == ("__debug__" : Str)) = false := by decide) (he : starEach (e :: es) X.env = (false, eval e X.env) :: starEach es X.env := by rfl) (hpl : (backTo pos (starEach es X.env)).any (·.1) = false := by rfl) :
    XE X T W (.Call (.Name x p) (e :: es) [] pos) (sCall G fs) :=
  let ⟨⟨_, q, u⟩, n⟩ := ha; ⟨_, pe_callS D.ok hr hg D.hm D.kp hb (passAt tk) q hdb he hpl, eok_call (sig := sig) (fun w ds w' z => by rw [hs, n w ds w' z]) u⟩
/-- mixed arguments -/
def XGa (X : Cx) (T : Tab) (W : WX) (sig : List Bool) (is : List Nat) (es : List Expr) (f : Act (List DD)) : Prop := ∃ t : TA, PA X es t ∧ EOkG X.K T W sig is t f
theorem xga_nil : XGa X T W [] [] [] sNil := ⟨_, pa_nil, eokg_nil⟩
theorem xga_rd {is : List Nat} (ha : XD X T W e fe) (hr : XGa X T W sig is es fs) (hs : starEach (e :: es) X.env = (false, eval e X.env) :: starEach es X.env := by rfl) : XGa X T W (false :: sig) is (e :: es) (sCons fe fs) :=
  let ⟨_, q, v⟩ := ha; let ⟨_, q2, u⟩ := hr; ⟨_, pa_cons q q2 hs, eokg_rd v u⟩
theorem xga_io (i : Nat) {is : List Nat} {y : Str} {py : Pos} (hr : XGa X T W sig is es fs) (hN : X.N[i]? = some y := by rfl) (hv : Vis X.env.scope y := by first | exact Or.inl rfl | exact Or.inr (Or.inl rfl) | exact Or.inr (Or.inr rfl)) (hd : (y == ("__debug__" : Str)) = false := by decide)
    (hcd : (y == ("__classdict__" : Str)) = false := by decide) (hs : starEach (.Name y py :: es) X.env = (false, eval (.Name y py) X.env) :: starEach es X.env := by rfl) : XGa X T W (true :: sig) (i :: is) (.Name y py :: es) fs :=
  let ⟨_, q2, u⟩ := hr; ⟨_, pa_cons (pe_var hN hv hd hcd) q2 hs, eokg_io u⟩
theorem xe_callIo {i : Nat} (D : DefOk X.prog X.w X.K X.mg X.base T x f fd k ps sig G) (hr : Room k X.A) (tk : Takes X W) (hb : Binds X.K fd ps []) (ha : XGa X T W sig [i] (e :: es) fs) (hg : Gl X x := by rfl)
    (hdb : (x == ("__debug__" : Str)) = false := by decide) (he : starEach (e :: es) X.env = (false, eval e X.env) :: starEach es X.env := by rfl) (hpl : (backTo pos (starEach es X.env)).any (·.1) = false := by rfl) :
    XE X T W (.Call (.Name x p) (e :: es) [] pos) (sCallIo G i fs) :=
  let ⟨_, q, u⟩ := ha; ⟨_, pe_callS D.ok hr hg D.hm D.kp hb (passAt tk) q hdb he hpl, eok_callIo u⟩
/-! targets, walks -/
def XG (X : Cx) (T : Tab) (tg : Expr) (f : UT) : Prop := ∃ g : TG, PG X tg g ∧ GOk X.K T g f
def XGs (X : Cx) (T : Tab) (ts : List Expr) (f : List DD → Env → Option Env) : Prop := ∃ g : TGs, PGs X ts g ∧ GOks X.K T g f
def XI (X : Cx) (T : Tab) (W : WX) (tg iter : Expr) (f : Act (List DD)) : Prop := ∃ wi : TI, PI X tg iter wi ∧ IOk X.K T W wi f
variable {tg : Expr} {ts : List Expr} {u : UT} {us : List DD → Env → Option Env}
theorem xg_name (i : Nat) {y : Str} (hN : X.N.Nodup) (hi : X.N[i]? = some y := by rfl) (hx : Loc X.env.scope y := by first | exact Or.inl rfl | exact Or.inr rfl) (hf : X.fn y = true ∨ X.env.scope.names.lookup y = some .local := by first | exact .inl rfl | exact .inr rfl) : XG X T (.Name y pos) (uName i) := ⟨_, pg_name hN hi hx hf, gok_name⟩
theorem xgs_nil : XGs X T [] uNil := ⟨_, pgs_nil, gok_nil⟩
theorem xgs_cons (h : XG X T tg u) (hr : XGs X T ts us) (hs : (assignEach (tg :: ts) X.env).map (·.2) = assign tg X.env :: (assignEach ts X.env).map (·.2) := by rfl) : XGs X T (tg :: ts) (uCons u us) := let ⟨_, q, v⟩ := h; let ⟨_, q2, v2⟩ := hr; ⟨_, pgs_cons q q2 hs, gok_cons v v2⟩
theorem xg_tup {kk : Nat} {n : Nat} (hc : X.calm = true) (h : XGs X T ts us) (hn : (assignEach ts X.env).length = n := by rfl) (hst : (assignEach ts X.env).findIdx? (·.1) = none := by rfl) : XG X T (.Tuple ts kk pos) (uTup n us) :=
  let ⟨_, q, v⟩ := h; ⟨_, pg_tup hc q hn hst, gok_tup v⟩
theorem xi_seq (h : XD X T W e fe) : XI X T W tg e (sItems fe) := let ⟨_, q, v⟩ := h; ⟨_, pi_seq q, iok_seq v⟩
theorem xi_range1 {q : Pos} (hm : X.mg "range" = none) (ha : XAs X T W [a] fs) (hg : Gl X "range" := by rfl) (hs : starEach [a] X.env = [(false, eval a X.env)] := by rfl) : XI X T W tg (.Call (.Name "range" q) [a] [] pos) (sRange dRange1 fs) :=
  let ⟨⟨_, q, v⟩, _⟩ := ha; ⟨_, pi_range1 hg hm q hs, iok_range1 v⟩
theorem xi_range2 {q : Pos} (hm : X.mg "range" = none) (ha : XAs X T W [a, b] fs) (hg : Gl X "range" := by rfl) (hs : starEach [a, b] X.env = [(false, eval a X.env), (false, eval b X.env)] := by rfl) (hs2 : starEach [b] X.env = [(false, eval b X.env)] := by rfl) :
    XI X T W tg (.Call (.Name "range" q) [a, b] [] pos) (sRange dRange2 fs) :=
  let ⟨⟨_, q, v⟩, _⟩ := ha; ⟨_, pi_range2 hg hm q hs hs2, iok_range2 v⟩
/-! statements -/
variable {st : Stmt} {sts : List Stmt} {sa sb : List Stmt} {f1 f2 : Act Fl} {fi : Act (List DD)}
theorem xss_nil : XSs X T W [] sNx := ⟨_, pss_nil, sok_nil⟩
theorem xss_cons (h : XS X T W st f1) (hr : XSs X T W sts f2) : XSs X T W (st :: sts) (sSeq f1 f2) := let ⟨_, q, v⟩ := h; let ⟨_, q2, v2⟩ := hr; ⟨_, pss_cons q q2, sok_seq v v2⟩
theorem xss_one (h : XS X T W st f1) : XSs X T W [st] f1 := let ⟨_, q, v⟩ := h; ⟨_, pss_one q, v⟩
theorem xs_pass : XS X T W (.Pass pos) sNx := ⟨_, ps_pass, sok_nil⟩
theorem xs_cont : XS X T W (.Continue pos) (sRet .cnt) := ⟨_, ps_continue, sok_cnt⟩
theorem xs_brk : XS X T W (.Break pos) (sRet .brk) := ⟨_, ps_break, sok_brk⟩
theorem xs_ret (h : XE X T W e oe) : XS X T W (.Return (some e) pos) (sReturn oe) := let ⟨_, q, v⟩ := h; ⟨_, ps_ret q, sok_ret v⟩
theorem xs_retN : XS X T W (.Return none pos) (sRet (.ret (.dat .non))) := ⟨_, ps_retN, sok_retN⟩
theorem xs_retVar (i : Nat) {y : Str} {py : Pos} (hN : X.N[i]? = some y := by rfl) (hv : Vis X.env.scope y := by first | exact Or.inl rfl | exact Or.inr (Or.inl rfl) | exact Or.inr (Or.inr rfl)) (hd : (y == ("__debug__" : Str)) = false := by decide)
    (hcd : (y == ("__classdict__" : Str)) = false := by decide) : XS X T W (.Return (some (.Name y py)) pos) (sRetVar i) := ⟨_, ps_ret (pe_var hN hv hd hcd), sok_retVar⟩
theorem xs_if (hc : XTe X T W c fc) (ha : XSs X T W sa f1) (hb : XSs X T W sb f2) : XS X T W (.If c sa sb pos) (sIf fc f1 f2) := let ⟨_, q, v⟩ := hc; let ⟨_, q2, v2⟩ := ha; let ⟨_, q3, v3⟩ := hb; ⟨_, ps_if q q2 q3, sok_if v v2 v3⟩
theorem xs_set (i : Nat) {y : Str} {py : Pos} (hN : X.N.Nodup) (he : XE X T W e oe) (hi : X.N[i]? = some y := by rfl) (hx : Loc X.env.scope y := by first | exact Or.inl rfl | exact Or.inr rfl) (hs : swapsWith e (some (.Name y py)) pos.line X.env = pure false := by rfl)
    (hf : X.fn y = true ∨ X.env.scope.names.lookup y = some .local := by first | exact .inl rfl | exact .inr rfl) : XS X T W (.Assign [.Name y py] e pos) (sSet i oe) := let ⟨_, q, v⟩ := he; ⟨_, ps_set hN hi hx q hs hf, sok_set v⟩
theorem xs_un (he : XD X T W e fe) (hg : XG X T tg u) (hs : swapsWithSole [tg] e pos.line X.env = pure false := by rfl) (hw : swappedStores [tg] e X.env = pure none := by rfl) (h1 : (assignEach [tg] X.env).map (·.2) = [assign tg X.env] := by rfl) : XS X T W (.Assign [tg] e pos) (sUn fe u) :=
  let ⟨_, q, v⟩ := he; let ⟨_, q2, v2⟩ := hg; ⟨_, ps_asg q q2 hs hw h1, sok_un v v2⟩
theorem xs_par (i j : Nat) {y z : Str} {px py pt : Pos} {kt k2 pt2} (hc : X.calm = true) (hN : X.N.Nodup) (hij : i ≠ j) (ha : XAs X T W [a, b] fs) (hi : X.N[i]? = some y := by rfl) (hj : X.N[j]? = some z := by rfl)
    (hx : X.env.scope.names.lookup y = some .local := by rfl) (hy : X.env.scope.names.lookup z = some .local := by rfl)
    (hw : swappedStores [.Tuple [.Name y px, .Name z py] kt pt] (.Tuple [a, b] k2 pt2) X.env = pure (some [y, z]) := by rfl)
    (hs : swapsWithSole [.Tuple [.Name y px, .Name z py] kt pt] (.Tuple [a, b] k2 pt2) pos.line X.env = pure false := by rfl) :
    XS X T W (.Assign [.Tuple [.Name y px, .Name z py] kt pt] (.Tuple [a, b] k2 pt2) pos) (sPar i j fs) := let ⟨⟨_, q, v⟩, _⟩ := ha; ⟨_, ps_par hc hN hi hj hij hx hy q hw hs, sok_par v⟩
theorem xs_par3 (i j l : Nat) {y z x : Str} {px py pz pt : Pos} {kt k2 pt2} (hc : X.calm = true) (hN : X.N.Nodup) (hij : i ≠ j) (hil : i ≠ l) (hjl : j ≠ l) (ha : XAs X T W [a, b, c] fs) (hi : X.N[i]? = some y := by rfl) (hj : X.N[j]? = some z := by rfl) (hl : X.N[l]? = some x := by rfl)
    (hx : X.env.scope.names.lookup y = some .local := by rfl) (hy : X.env.scope.names.lookup z = some .local := by rfl) (hz : X.env.scope.names.lookup x = some .local := by rfl)
    (hw : swappedStores [.Tuple [.Name y px, .Name z py, .Name x pz] kt pt] (.Tuple [a, b, c] k2 pt2) X.env = pure (some [y, z, x]) := by rfl)
    (hs : swapsWithSole [.Tuple [.Name y px, .Name z py, .Name x pz] kt pt] (.Tuple [a, b, c] k2 pt2) pos.line X.env = pure false := by rfl) :
    XS X T W (.Assign [.Tuple [.Name y px, .Name z py, .Name x pz] kt pt] (.Tuple [a, b, c] k2 pt2) pos) (sPar3 i j l fs) := let ⟨⟨_, q, v⟩, _⟩ := ha; ⟨_, ps_par3 hc hN hi hj hl hij hil hjl hx hy hz q hw hs, sok_par3 v⟩
theorem xs_drop (he : XE X T W e oe) (hs : swapsWith e none pos.line X.env = pure false := by rfl) : XS X T W (.Expr e pos) (sDrop oe) := let ⟨_, q, v⟩ := he; ⟨_, ps_expr q hs, sok_drop v⟩
theorem xs_while (hp : PassesOwn (model X.prog X.w) X.A X.env X.xe) (hc : XTe X T W c fc) (hb : XSs X T W sts f1) : XS X T W (.While c sts [] pos) (sWh fc f1) := let ⟨_, q, v⟩ := hc; let ⟨_, q2, v2⟩ := hb; ⟨_, ps_while hp q q2, sok_while v v2⟩
theorem xs_for (hp : PassesOwn (model X.prog X.w) X.A X.env X.xe) (hc : X.calm = true) (hi : XI X T W tg e fi) (hg : XG X T tg u) (hb : XSs X T W sts f1) (hs : ∀ x, foldedSetIterable e X.env x = pure x := by intro _; rfl) : XS X T W (.For tg e sts [] pos) (sFor fi u f1) :=
  let ⟨_, q, v⟩ := hi; let ⟨_, q2, v2⟩ := hg; let ⟨_, q3, v3⟩ := hb; ⟨_, ps_for hp hc q q2 q3 hs, sok_for v v2 v3⟩
/-- xs.append(e) -/
theorem xs_app (i : Nat) {y : Str} {py apos cpos : Pos} (he : XE X T W e oe) (hN : X.N[i]? = some y := by rfl) (hv : Vis X.env.scope y := by first | exact Or.inl rfl | exact Or.inr (Or.inl rfl) | exact Or.inr (Or.inr rfl)) (hd : (y == ("__debug__" : Str)) = false := by decide)
    (hcd : (y == ("__classdict__" : Str)) = false := by decide)
    (hbase : attributeBase (.Name y py) "append" X.env (eval (.Name y py) X.env) = eval (.Name y py) X.env := by rfl)
    (hfew : ((backTo cpos (starEach (e :: []) X.env)).all (fun x => !x.1) && (backToKw cpos (keywordEach [] X.env)).all (fun x => x.1.isSome)
      && decide ((e :: []).length + ([] : List Keyword).length + (if ([] : List Keyword).isEmpty then 0 else 1) < 30)) = true := by rfl)
    (hline : (apos.endLine == cpos.line) = true := by rfl) (hs : starEach (e :: []) X.env = (false, eval e X.env) :: starEach [] X.env := by rfl) (hplain : (backTo cpos (starEach [] X.env)).any (·.1) = false := by rfl)
    (hsw : swapsWith (.Call (.Attribute (.Name y py) "append" apos) [e] [] cpos) none pos.line X.env = pure false := by rfl) :
    XS X T W (.Expr (.Call (.Attribute (.Name y py) "append" apos) [e] [] cpos) pos) (sApp i oe) :=
  let ⟨_, q, v⟩ := he; ⟨_, ps_expr (pe_bm PySem.F.plainAttrs_list PySem.F.slot_list_append PySem.F.type_list_append mt_append (pe_var hN hv hd hcd) (pa_cons q pa_nil hs) hbase hfew hline hs hplain) hsw, sok_app v⟩
/-- xs.pop(i) -/
theorem xe_popAt (i : Nat) {y : Str} {py apos cpos : Pos} (he : XD X T W e fe) (hN : X.N[i]? = some y := by rfl) (hv : Vis X.env.scope y := by first | exact Or.inl rfl | exact Or.inr (Or.inl rfl) | exact Or.inr (Or.inr rfl)) (hd : (y == ("__debug__" : Str)) = false := by decide)
    (hcd : (y == ("__classdict__" : Str)) = false := by decide)
    (hbase : attributeBase (.Name y py) "pop" X.env (eval (.Name y py) X.env) = eval (.Name y py) X.env := by rfl)
    (hfew : ((backTo cpos (starEach (e :: []) X.env)).all (fun x => !x.1) && (backToKw cpos (keywordEach [] X.env)).all (fun x => x.1.isSome)
      && decide ((e :: []).length + ([] : List Keyword).length + (if ([] : List Keyword).isEmpty then 0 else 1) < 30)) = true := by rfl)
    (hline : (apos.endLine == cpos.line) = true := by rfl) (hs : starEach (e :: []) X.env = (false, eval e X.env) :: starEach [] X.env := by rfl) (hplain : (backTo cpos (starEach [] X.env)).any (·.1) = false := by rfl) :
    XE X T W (.Call (.Attribute (.Name y py) "pop" apos) [e] [] cpos) (sPopAt i fe) :=
  let ⟨_, q, v⟩ := he; ⟨_, pe_bm PySem.F.plainAttrs_list PySem.F.slot_list_pop PySem.F.type_list_pop mt_popAt (pe_var hN hv hd hcd) (pa_cons q pa_nil hs) hbase hfew hline hs hplain, eok_popAt v⟩
/-- xs[k] = e -/
theorem xs_setIx (i : Nat) {y : Str} {py spos : Pos} (he : XD X T W e fe) (hi : XD X T W a fa) (hN : X.N[i]? = some y := by rfl) (hv : Vis X.env.scope y := by first | exact Or.inl rfl | exact Or.inr (Or.inl rfl) | exact Or.inr (Or.inr rfl)) (hd : (y == ("__debug__" : Str)) = false := by decide)
    (hcd : (y == ("__classdict__" : Str)) = false := by decide) (hs : swapsWithSole [.Subscript (.Name y py) a spos] e pos.line X.env = pure false := by rfl) (hw : swappedStores [.Subscript (.Name y py) a spos] e X.env = pure none := by rfl)
    (ha : ∀ v, assign (.Subscript (.Name y py) a spos) X.env v = (do
      let ov ← holding [v] (eval (.Name y py) X.env)
      let iv ← holding [v, ov] (eval a X.env)
      standAt spos
      holding [v, ov, iv] (setItem ov iv v)
      release [v, ov, iv] []) := by intro _; rfl) (h1 : (assignEach [.Subscript (.Name y py) a spos] X.env).map (·.2) = [assign (.Subscript (.Name y py) a spos) X.env] := by rfl)
    : XS X T W (.Assign [.Subscript (.Name y py) a spos] e pos) (sSetIx i fe fa) :=
  let ⟨_, q, v⟩ := he; let ⟨_, q2, v2⟩ := hi; ⟨_, ps_asg q (pg_sub (pe_var hN hv hd hcd) q2 set_list ha) hs hw h1, sok_setIx v v2⟩
end
end DL

/-! DL8: raise, try .. except, isinstance of a caught exception. -/
namespace DL
open PySem PySem.Spec PyProof.Rows L2
/-! ### more of the environment -/
section
variable {K : PySem.W.Frag} {T : Tab} {F H : Hp} {ps : List V} {σ : L2.St} {ρ : Env} {S : List Addr}
theorem SA.drop' {i : Nat} {x : Option V} (s : SA K T ps F H σ ρ S) : SA K T ps F H (σ.set i x) (ρ.put i .no) S := by
  by_cases hi : i < ρ.sl.length
  · exact s.drop hi
  · have h1 : ρ.sl.set i .no = ρ.sl := List.set_eq_of_length_le (by omega)
    have h2 : σ.set i x = σ := List.set_eq_of_length_le (by have := s.length; omega)
    rw [h2]
    unfold Env.put
    rw [h1]
    exact s
theorem SA.store' {i : Nat} {v : V} {o : OO} {B0 : List Addr} (s : SA K T ps F H σ ρ (B0 ++ S)) (h : Own K T F H v o B0) : SA K T ps F H (σ.set i (some v)) (ρ.put i (.own o)) S := by
  by_cases hi : i < ρ.sl.length
  · exact s.store h hi
  · have h1 : ρ.sl.set i (.own o) = ρ.sl := List.set_eq_of_length_le (by omega)
    have h2 : σ.set i (some v) = σ := List.set_eq_of_length_le (by have := s.length; omega)
    rw [h2]
    unfold Env.put
    rw [h1]
    exact s.sub fun a => by simp only [List.count_append]; omega
/-- a new thing that is frozen at once -/
theorem SA.newF {q : Addr} {o : HO} (s : SA K T ps F H σ ρ S) (hq : H q = none) (hf : isFz o = false) : ∃ F', Same F F' ∧ F' q = some o ∧ SA K T ps F' (upd H q o) σ ρ S := by
  have s1 := s.new hq hf
  obtain ⟨A, B, r, b, g⟩ := s1
  have fq : F q = none := by
    cases z : F q with
    | none => rfl
    | some u => rw [s.ga.sm _ _ z] at hq; cases hq
  have sm : Same F (upd F q o) := same_new fq
  refine ⟨upd F q o, sm, upd_same, A, B, r.frame sm fun _ _ => rfl, b.frame sm fun _ _ => rfl, ?_⟩
  have g' := g.sub (L' := A ++ (B ++ S)) fun a => by simp only [List.count_append, List.count_cons]; omega
  refine ⟨g'.nd, fun a ha => ?_, g'.th, fun a u e => ?_, fun a u e z => ?_⟩
  · have n := g.nd q
    have : a ≠ q := fun z => by
      subst z
      simp only [List.count_append, List.count_cons, beq_self_eq_true, if_true] at n ha
      omega
    rw [upd_ne this]
    exact g'.fr a ha
  · by_cases h : a = q
    · subst h
      rw [upd_same] at e ⊢
      exact e
    · rw [upd_ne h] at e
      exact g'.sm a u e
  · by_cases h : a = q
    · subst h
      rw [upd_same] at e
      cases e
      rw [hf] at z; cases z
    · rw [upd_ne h]
      exact g'.ft a u e z
end
/-! ### raise of an own class without fields -/
/-- what is asked of an own exception class, as K holds it -/
structure XcOk (K : PySem.W.Frag) (mg : Str → Option Value) (x : Str) (C : Addr) : Prop where
  g : mg x = some (.ref C)
  x : PySem.W.excIn K C HandSPX.veTail "ValueError.__new__" = true
  k : PySem.W.keepIn K (.ref C) = true
  b : PySem.W.subIn K (.ref C) (.type "BaseException") = some true
  t : PySem.W.typeIn K (.ref C) = some (.type "type")
def sRaise (c : String) : Act Fl := fun ρ => .ex c [] ρ
section
variable {X : Cx} {T : Tab} {W : WX} {pos : Pos}
theorem xs_raise {x m : Str} {c : String} {C : Addr} {j : Nat} {p p2 pos1 : Pos} (hc : X.calm = true) (tk : Takes X W) (O : XcOk X.K X.mg x C) (ht : T.cls c = some (C, [])) (hg : Gl X x := by rfl) (hdb : (x == ("__debug__" : Str)) = false := by decide) :
    XS X T W (.Raise (some (.Call (.Name x p) [.Constant (.str m) j p2] [] pos1)) none pos) (sRaise c) :=
  ⟨_, ps_raise hc tk (pmk_own PySem.F.excBase_ValueError O.x O.g O.k (raises_own O.b O.t) hg hdb), fun ps σ ρ F H S D s p => p (.ref C) none σ F H (Same.refl F) .refl s ⟨C, [], ht, rfl, .inl ⟨rfl, rfl, rfl⟩⟩⟩
end
/-! ### try .. except -/
/-- an exception that has landed in X's frame: sI is the state without it -/
structure Ld (X : Cx) (pins : List (Addr × Obj)) (σ : L2.St) (H : Hp) (a : Addr) (B : Heap) (cls : Value) (d : Option Addr) (sI s : Shared) : Prop where
  J : Inv X pins σ H sI
  nb : ∀ b o, sI.heap.get? b = some o → b ∉ frs X.stack → B.get? b = some o
  up : sI.heap.UpToSlots s.heap
  fl : HandSPX.FlyingZ B (X.env :: X.outer) a (Zc cls d) s.heap
  na : H a = none
  os : s.os = sI.os
  ag : AllBare s.gens
section
variable {X : Cx} {pins : List (Addr × Obj)} {σ : L2.St} {H : Hp} {a : Addr} {B : Heap} {cls : Value} {d : Option Addr} {sI s : Shared}
theorem Ld.inv (L : Ld X pins σ H a B cls d sI s) : Inv X pins σ H s := L.J.landed L.nb L.fl.1 L.up L.os L.ag
theorem Ld.nfr (L : Ld X pins σ H a B cls d sI s) : a ∉ frs (X.env :: X.outer) := fun hm => by
  obtain ⟨oe, vs, he, _, hd⟩ := L.fl.there
  obtain ⟨_, o', e', hnf⟩ := L.fl.2.2.1.mem hm
  rw [he] at e'; cases e'
  exact hnf _ hd
theorem Ld.gone (hs : X.stack = X.env :: X.outer) (L : Ld X pins σ H a B cls d sI s) : sI.heap.get? a = none := by
  cases z : sI.heap.get? a with
  | none => rfl
  | some o =>
    have q := L.nb a o z (by rw [hs]; exact L.nfr)
    rw [L.fl.2.1] at q; cases q
theorem Ld.step {h' : Heap} (L : Ld X pins σ H a B cls d sI s) (fl : HandSPX.FlyingZ B (X.env :: X.outer) a (Zc cls d) h') (up : s.heap.UpToSlots h') : Ld X pins σ H a B cls d sI { s with heap := h' } :=
  ⟨L.J, L.nb, L.up.trans up, fl, L.na, L.os, L.ag⟩
theorem exH_ok {P : Program} {w : World} {H' : Hp} {h : Heap} {oe : Obj} {vs : Array Value} (e : h.get? a = some oe) (z : Zc cls d oe) (dd : oe.data = .fields vs) : ObjOk P w H' h a (ExH a cls d) :=
  ⟨⟨oe, vs, e, z, dd⟩, ⟨oe, e⟩, fun _ _ ⟨o, v, q, r⟩ k => ⟨o, v, k o q, r⟩⟩
/-- .. it is tracked -/
theorem Ld.track (hs : X.stack = X.env :: X.outer) (hf : X.env.frame = some X.env.locals) (hex : X.ex = []) (L : Ld X pins σ H a B cls d sI s) : Inv X pins σ (upd H a (ExH a cls d)) s := by
  have I := L.inv
  have gone := L.gone hs
  obtain ⟨oe, vs, he, hz, hd⟩ := L.fl.there
  have n0 : X.s_0.heap.get? a = none := by
    cases z : X.s_0.heap.get? a with
    | none => rfl
    | some o =>
      obtain ⟨o', q⟩ := L.J.base.there a o z (by rw [hex]; exact fun z => nomatch z)
      rw [gone] at q; cases q
  have nL : a ≠ X.env.locals := fun z => L.nfr (List.mem_filterMap.mpr ⟨X.env, List.mem_cons_self, by rw [hf, z]⟩)
  have ne0 : ∀ b o, X.s_0.heap.get? b = some o → b ≠ a := fun b o e z => by rw [z, n0] at e; cases e
  refine ⟨I.ok, I.os, I.bare, ⟨I.base.keep, I.base.slot, fun b o e n hx => ?_, I.base.there, fun b xs e => ?_, fun b o u e => ?_, fun b ps e => ?_⟩, I.loc, I.cell, ?_, fun x c e => ?_, fun p hp => ?_, ?_, I.len⟩
  · rw [upd_ne (ne0 b o e)]
    exact I.base.free b o e n hx
  · have q := I.base.tups b xs e
    rw [upd_ne (fun z => by rw [z, L.na] at q; cases q)]
    exact q
  · have q := I.base.frzs b o u e
    rw [upd_ne (fun z => by rw [z, L.na] at q; cases q)]
    exact q
  · obtain ⟨m, q⟩ := I.base.tbls b ps e
    refine ⟨m, ?_⟩
    rw [upd_ne (fun z => by rw [z, L.na] at q; cases q)]
    exact q
  · rw [upd_ne (Ne.symm nL)]
    exact I.free
  · have ne : c ≠ a := fun z => by
      obtain ⟨v, o, q, qd⟩ := I.cell x c e
      rw [z, he] at q
      cases q
      rw [hd] at qd; cases qd
    rw [upd_ne ne]
    exact I.freeC x c e
  · obtain ⟨q1, q2, q3, q4, q5⟩ := I.pin p hp
    have q := (L.J.pin p hp).1
    have ne : p.1 ≠ a := fun z => by rw [z, gone] at q; cases q
    exact ⟨q1, by rw [upd_ne ne]; exact q2, q3, q4, q5⟩
  · exact I.hok.laidN (fun b u q => q) L.na (exH_ok he hz hd)
theorem Inv.suite0 (I : Inv X pins σ H s) : Inv (X.suite a (X.pn ++ pins)) [] σ H s :=
  ⟨I.ok.suite _ _, I.os, I.bare, I.base, I.loc, I.cell, I.free, I.freeC, fun p hp => I.pin p (by rw [List.append_nil] at hp; exact hp), I.hok, I.len⟩
theorem Inv.unsuite0 {pn' : List (Addr × Obj)} (I : Inv (X.suite a (X.pn ++ pins)) pn' σ H s) (ok : X.Ok) : Inv X pins σ H s :=
  ⟨ok, I.os, I.bare, I.base, I.loc, I.cell, I.free, I.freeC, fun p hp => I.pin p (List.mem_append_left _ hp), I.hok, I.len⟩
end
abbrev RH := Value → Option Addr → Ends → L2.St → Hp → Prop
/-- except clauses -/
def PH (X : Cx) (hs : List ExceptHandler) (r : RH) : Prop := ∀ (pins : List (Addr × Obj)) (σ : L2.St) (H : Hp) (a : Addr) (B : Heap) (cls : Value) (d : Option Addr) (sI s : Shared) (D : Ends), Ld X pins σ H a B cls d sI s → r cls d D σ H →
  wpAny (model X.prog X.w) X.A (handleBy (.ref a) X.env hs) (SP X pins D) X.xe s
def atGone (i : Nat) (D : Ends) : Ends := { nx := fun σ' H' => D.nx (σ'.set i none) H', rt := D.rt, bk := fun σ' H' => D.bk (σ'.set i none) H', ct := fun σ' H' => D.ct (σ'.set i none) H' }
def rAs (X : Cx) (c : Value) (i : Nat) (su : List Stmt) (r : RH) : RH := fun cls d D σ H => ∃ b, PySem.W.exmOne X.K cls c = some b ∧
  (b = true → ∀ a, H a = none → ∀ pn, ∃ ts, PSs (X.suite a pn) su ts ∧ ts (atGone i D) (σ.set i (some (.ref a))) (upd H a (ExH a cls d))) ∧ (b = false → r cls d D σ H)
def rOn (X : Cx) (c : Value) (su : List Stmt) (r : RH) : RH := fun cls d D σ H => ∃ b, PySem.W.exmOne X.K cls c = some b ∧
  (b = true → ∀ a, H a = none → ∀ pn, ∃ ts, PSs (X.suite a pn) su ts ∧ ts D σ H) ∧ (b = false → r cls d D σ H)
section
variable {X : Cx} {W : WX} {r : RH} {x n : Str} {c : Value} {i : Nat} {hds : List ExceptHandler} {b₀ : Stmt} {suite : List Stmt} {np pos' pos : Pos}
theorem ph_nil (hs : X.stack = X.env :: X.outer) (hf : X.env.frame = some X.env.locals) (tk : Takes X W) : PH X [] (fun cls d _ σ H => W cls d σ H) := by
  intro pins σ H a B cls d sI s D L h
  refine wpAny_handleBy_nil ?_
  obtain ⟨k1, k2, k3, oe, vs, T, oT, ts', he, hz, hd, h1, hr⟩ := id L.fl
  unfold PySem.passOn
  refine wpAny_bind (wpAny_field he hd h1 ?_)
  rw [if_neg (show ¬ ((Value.ref T == Value.none) = true) from by simp)]
  have fin : wpAny (model X.prog X.w) X.A (setFlight (.ref a) X.env.frame) (fun _ s4 => wpAny (model X.prog X.w) X.A (throw (.ref a) : Sem Flow) (SP X pins D) X.xe s4) X.xe s := by
    rw [hf]
    refine HandSPX.setFlight_upZ L.fl fun h4 hh4 up4 => wpAny_throw (tk _ _ ?_)
    exact ⟨a, B, sI, pins, σ, H, cls, d, rfl, L.J, L.nb, L.up.trans up4, .inr (.inr (by rw [hs]; exact hh4)), L.na, L.os, L.ag, h⟩
  first
    | exact wpAny_bind (wpAny_pure (wpAny_bind fin))
    | exact wpAny_bind fin
/-- the class's test -/
theorem ph_test {pins : List (Addr × Obj)} {σ : L2.St} {H : Hp} {a : Addr} {s : Shared} (hc : Names X x c) (I : Inv X pins σ H s) {Q : Value → Shared → Prop} {E : Value → Shared → Prop} (q : Q c s) :
    wpAny (model X.prog X.w) (X.A.mark (some (.ref a))) (eval (.Name x np) X.env) Q E s := by
  have S3 : Inv (X.suite a (X.pn ++ pins)) [] σ H s := Inv.suite0 I
  obtain ⟨hg, hdbg, hm | ⟨hm, hv, hnn⟩⟩ := hc
  · exact ld_glob (X := X.suite a (X.pn ++ pins)) S3 hg hm q hdbg
  · exact ld_blt (X := X.suite a (X.pn ++ pins)) S3 hg hm hv q hnn hdbg
theorem ph_as (hs : X.stack = X.env :: X.outer) (hf : X.env.frame = some X.env.locals) (hex : X.ex = []) (hN : X.N.Nodup) (hi : X.N[i]? = some n) (hln : X.env.kindOf n = some .local) (hc : Names X x c) (hr : PH X hds r) :
    PH X (.ExceptHandler (some (.Name x np)) (some n) (b₀ :: suite) pos' :: hds) (rAs X c i (b₀ :: suite) r) := by
  intro pins σ H a B cls d sI s D L h
  obtain ⟨b, hb1, hyes, hno⟩ := h
  have hfr : X.A.frames = some (X.env :: X.outer) := by rw [L.J.ok.frames, hs]
  have hloc : Loc X.env.scope n := .inl hln
  have ok := L.J.ok
  have J3 := L.inv
  obtain ⟨oe3, vs3, he3, hz3, hd3⟩ := L.fl.there
  refine wpAny_handleBy_cons (codeAny_handlers_test ?_) (by intro q; cases q)
  have LT : PySem.W.Looks (model X.prog X.w) s.heap (typeOf (.ref a)) cls := fun A Q E s k q => wpAny_typeOf_ref (k _ _ he3) (by rw [hz3.1]; exact q)
  have LM := PySem.W.exm_one (M := model X.prog X.w) (J3.kIn) LT hb1
  refine ph_test hc J3 (LM.here ?_)
  cases b with
  | true =>
    refine codeAny_handlers_suite_as ?_
    refine HandSPX.lands_againZ L.fl fun h4 fl4 up4 => ?_
    have L4 := L.step fl4 up4
    have J4 := L4.track hs hf hex
    have S4 : Inv (X.suite a (X.pn ++ pins)) [] σ (upd H a (ExH a cls d)) { s with heap := h4 } := Inv.suite0 J4
    refine store_ok (X := X.suite a (X.pn ++ pins)) (v := .ref a) S4 hN hi hloc rfl (fun s5 S5 => ?_) (.inr hln)
    obtain ⟨ts, p1, p2⟩ := hyes rfl a L.na (X.pn ++ pins)
    refine wpAny_mono (p1.run [] s5 _ _ _ S5 p2) (fun f s6 hsp => ?_) (fun _ _ z => False.elim z)
    have end_ : ∀ {σ6 : L2.St} {H6 : Hp} {Q : Shared → Prop}, Inv (X.suite a (X.pn ++ pins)) [] σ6 H6 s6 → (∀ s7, Inv X pins (σ6.set i none) H6 s7 → Q s7) →
        wpAny (model X.prog X.w) X.A (do bindName X.env n .none; unbindBehindTheSuite X.env n pos') (fun _ s7 => Q s7) X.xe s6 := fun {σ6 H6 Q} S6 hq => gone_ok (Inv.unsuite0 S6 ok) hN hi hln hq
    cases f with
    | next =>
      obtain ⟨σ6, H6, S6, q6⟩ := hsp
      exact end_ S6 fun s7 J7 => ⟨_, _, J7, q6⟩
    | brk =>
      obtain ⟨σ6, H6, S6, q6⟩ := hsp
      exact end_ S6 fun s7 J7 => ⟨_, _, J7, q6⟩
    | cont =>
      obtain ⟨σ6, H6, S6, q6⟩ := hsp
      exact end_ S6 fun s7 J7 => ⟨_, _, J7, q6⟩
    | ret u =>
      obtain ⟨v6, σ6, H6, S6, r6, q6⟩ := hsp
      exact end_ S6 fun s7 J7 => ⟨_, _, _, J7, r6, q6⟩
  | false => exact hr pins σ H a B cls d sI s D L (hno rfl)
theorem ph_on (hs : X.stack = X.env :: X.outer) (hf : X.env.frame = some X.env.locals) (hc : Names X x c) (hr : PH X hds r) :
    PH X (.ExceptHandler (some (.Name x np)) none (b₀ :: suite) pos' :: hds) (rOn X c (b₀ :: suite) r) := by
  intro pins σ H a B cls d sI s D L h
  obtain ⟨b, hb1, hyes, hno⟩ := h
  have hfr : X.A.frames = some (X.env :: X.outer) := by rw [L.J.ok.frames, hs]
  have ok := L.J.ok
  have J3 := L.inv
  obtain ⟨oe3, vs3, he3, hz3, hd3⟩ := L.fl.there
  refine wpAny_handleBy_cons (codeAny_handlers_test ?_) (by intro q; cases q)
  have LT : PySem.W.Looks (model X.prog X.w) s.heap (typeOf (.ref a)) cls := fun A Q E s k q => wpAny_typeOf_ref (k _ _ he3) (by rw [hz3.1]; exact q)
  have LM := PySem.W.exm_one (M := model X.prog X.w) (J3.kIn) LT hb1
  refine ph_test hc J3 (LM.here ?_)
  cases b with
  | true =>
    refine codeAny_handlers_suite ?_
    refine HandSPX.lands_againZ L.fl fun h4 fl4 up4 => ?_
    have L4 := L.step fl4 up4
    have S4 : Inv (X.suite a (X.pn ++ pins)) [] σ H { s with heap := h4 } := Inv.suite0 L4.inv
    obtain ⟨ts, p1, p2⟩ := hyes rfl a L.na (X.pn ++ pins)
    refine wpAny_mono (p1.run [] _ _ _ _ S4 p2) (fun f s6 hsp => ?_) (fun _ _ z => False.elim z)
    cases f with
    | next =>
      obtain ⟨σ6, H6, S6, q6⟩ := hsp
      exact ⟨_, _, Inv.unsuite0 S6 ok, q6⟩
    | brk =>
      obtain ⟨σ6, H6, S6, q6⟩ := hsp
      exact ⟨_, _, Inv.unsuite0 S6 ok, q6⟩
    | cont =>
      obtain ⟨σ6, H6, S6, q6⟩ := hsp
      exact ⟨_, _, Inv.unsuite0 S6 ok, q6⟩
    | ret u =>
      obtain ⟨v6, σ6, H6, S6, r6, q6⟩ := hsp
      exact ⟨_, _, _, Inv.unsuite0 S6 ok, r6, q6⟩
  | false => exact hr pins σ H a B cls d sI s D L (hno rfl)
def tTry (X : Cx) (body : List Stmt) (rH : RH) : TS := fun D σ H => ∀ (pn : List (Addr × Obj)) (xe : Value → Shared → Prop), Takes (X.tr pn xe) (fun cls d σ' H' => rH cls d D σ' H') → PassesOwn (model X.prog X.w) X.A X.env xe →
  ∃ tb, PSs (X.tr pn xe) body tb ∧ tb D σ H
theorem ps_try {body : List Stmt} {h₀ : ExceptHandler} (hs : X.stack = X.env :: X.outer) (hf : X.env.frame = some X.env.locals) (hr : PH X (h₀ :: hds) r) : PS X (.Try body (h₀ :: hds) [] [] pos) (tTry X body r) := by
  refine ⟨fun pins s σ H D I h => ?_⟩
  have ok := I.ok
  have hfr : X.A.frames = some (X.env :: X.outer) := by rw [ok.frames, hs]
  refine wpAny_Try_except ?_
  have tk : Takes (X.tr (X.pn ++ pins) (fun e s₁ => wpAny (model X.prog X.w) X.A (noteFrame e X.env) (fun _ s₂ => wpAny (model X.prog X.w) X.A (setFlight e none) (fun _ s₃ =>
    wpAny (model X.prog X.w) X.A (handleBy e X.env (h₀ :: hds)) (SP X pins D) X.xe s₃) X.xe s₂) X.xe s₁)) (fun cls d σ' H' => r cls d D σ' H') := fun u s' xx => by
    obtain ⟨a, B, sI, pins', σ', H', cls, d, rfl, J', nb, up, sky, na, os, ag, w⟩ := xx
    have J : Inv X pins σ' H' sI := J'.ofTry ok
    have sky' : Sky B (X.env :: X.outer) a (Zc cls d) X.env.locals s'.heap := by rw [← hs]; exact sky
    show wpAny (model X.prog X.w) X.A (noteFrame (.ref a) X.env) _ _ _
    refine Sky.land Zc.steady hfr hf sky' fun h3 fl3 up3 => ?_
    exact hr pins σ' H' a B cls d sI { s' with heap := h3 } D ⟨J, nb, up.trans up3, fl3, na, os, ag⟩ w
  obtain ⟨tb, b1, b2⟩ := h (X.pn ++ pins) _ tk PassesOwn.looking
  refine wpAny_mono (b1.run [] s σ H D (I.toTry _) b2) (fun f s1 hsp => ?_) (fun e s1 he => he)
  cases f with
  | next =>
    obtain ⟨σ', H', J', q⟩ := hsp
    exact wpAny_execs_nil ⟨σ', H', J'.ofTry ok, q⟩
  | brk =>
    obtain ⟨σ', H', J', q⟩ := hsp
    exact ⟨σ', H', J'.ofTry ok, q⟩
  | cont =>
    obtain ⟨σ', H', J', q⟩ := hsp
    exact ⟨σ', H', J'.ofTry ok, q⟩
  | ret u =>
    obtain ⟨v, σ', H', J', r, q⟩ := hsp
    exact ⟨v, σ', H', J'.ofTry ok, r, q⟩
end
/-! data: the clauses -/
abbrev HA := String → List DD → Act Fl
/-- which classes an except clause takes -/
inductive HdL (K : PySem.W.Frag) (T : Tab) (cv : Value) : List (String × Bool) → Prop
  | nil : HdL K T cv []
  | cons {c : String} {C : Addr} {ns : List Str} {b : Bool} {l : List (String × Bool)} : T.cls c = some (C, ns) → PySem.W.exmOne K (.ref C) cv = some b → HdL K T cv l → HdL K T cv ((c, b) :: l)
theorem HdL.get {K : PySem.W.Frag} {T : Tab} {cv : Value} : ∀ {l : List (String × Bool)} {c : String} {b : Bool}, HdL K T cv l → l.lookup c = some b → ∃ C ns, T.cls c = some (C, ns) ∧ PySem.W.exmOne K (.ref C) cv = some b
  | _, _, _, .nil, e => by simp at e
  | (c', b') :: l, c, b, .cons h1 h2 r, e => by
    rw [List.lookup_cons] at e
    split at e
    · rename_i hc
      have : c = c' := by simpa using hc
      subst this
      cases e
      exact ⟨_, _, h1, h2⟩
    · exact r.get e
def hNil : HA := fun c ds ρ => .ex c ds ρ
def unAs (i : Nat) : Res Fl → Res Fl
  | .ok a ρ => .ok a (ρ.put i .no)
  | _ => .bad
def unEx : Res Fl → Res Fl
  | .ok a ρ => .ok a ρ
  | _ => .bad
def hAs (l : List (String × Bool)) (i : Nat) (b : Act Fl) (r : HA) : HA := fun c ds ρ => match l.lookup c with
  | some true => unAs i (b (ρ.put i (.own (.dat (.exc c ds)))))
  | some false => r c ds ρ
  | none => .bad
def hOn (l : List (String × Bool)) (b : Act Fl) (r : HA) : HA := fun c ds ρ => match l.lookup c with
  | some true => unEx (b ρ)
  | some false => r c ds ρ
  | none => .bad
def sTry (fb : Act Fl) (ha : HA) : Act Fl := fun ρ => match fb ρ with
  | .ok a ρ' => .ok a ρ'
  | .ex c ds ρ' => ha c ds ρ'
  | .bad => .bad
def HOkk (K : PySem.W.Frag) (T : Tab) (W : WX) (rH : RH) (ha : HA) : Prop := ∀ (ps : List V) (σ : L2.St) (ρ : Env) (F H : Hp) (S : List Addr) (D : Ends) (cls : Value) (dd : Option Addr) (c : String) (ds : List DD),
  SA K T ps F H σ ρ S → ExR K T F c ds cls dd → PostS K T W ps F H S D (ha c ds ρ) → rH cls dd D σ H
abbrev W0 : WX := fun _ _ _ _ => False
def XH (X : Cx) (T : Tab) (W : WX) (hs : List ExceptHandler) (ha : HA) : Prop := ∃ r : RH, PH X hs r ∧ HOkk X.K T W r ha
theorem ExR.rep {K : PySem.W.Frag} {T : Tab} {F : Hp} {c : String} {ds : List DD} {cls : Value} {dd : Option Addr} {a : Addr} (x : ExR K T F c ds cls dd) (h : F a = some (ExH a cls dd)) : Rep K T F (.ref a) (.exc c ds) := by
  obtain ⟨C, ns, h1, h2, h3⟩ := x
  subst h2
  rcases h3 with ⟨rfl, rfl, rfl⟩ | ⟨dx, fs, vs, rfl, a2, a3, a4, a5⟩
  · exact .exc0 h1 h
  · exact .excd h1 h a2 a3 a4 a5
section
variable {X : Cx} {T : Tab} {W : WX} {x n : Str} {c : Value} {hds : List ExceptHandler} {b₀ : Stmt} {suite : List Stmt} {np pos' pos : Pos} {l : List (String × Bool)} {b : Act Fl} {ha : HA}
theorem xh_nil (hs : X.stack = X.env :: X.outer) (hf : X.env.frame = some X.env.locals) (tk : Takes X W) : XH X T W [] hNil :=
  ⟨_, ph_nil hs hf tk, fun ps σ ρ F H S D cls dd c ds s x p => p cls dd σ F H (Same.refl F) .refl s x⟩
theorem xh_as (i : Nat) (hs : X.stack = X.env :: X.outer) (hf : X.env.frame = some X.env.locals) (hex : X.ex = []) (hN : X.N.Nodup) (hc : Names X x c) (hl : HdL X.K T c l) (hsu : ∀ a pn, XSs (X.suite a pn) T W0 (b₀ :: suite) b) (hr : XH X T W hds ha)
    (hi : X.N[i]? = some n := by rfl) (hln : X.env.kindOf n = some .local := by rfl) : XH X T W (.ExceptHandler (some (.Name x np)) (some n) (b₀ :: suite) pos' :: hds) (hAs l i b ha) := by
  obtain ⟨r, q1, q2⟩ := hr
  refine ⟨_, ph_as hs hf hex hN hi hln hc q1, fun ps σ ρ F H S D cls dd cc ds s ex p => ?_⟩
  unfold hAs at p
  split at p
  · rename_i e
    obtain ⟨C, ns, h1, h2⟩ := hl.get e
    obtain ⟨C', ns', g1, rfl, _⟩ := id ex
    rw [h1] at g1
    cases g1
    refine ⟨true, h2, fun _ a na pn => ?_, fun z => by cases z⟩
    obtain ⟨ts, t1, t2⟩ := hsu a pn
    refine ⟨ts, t1, ?_⟩
    obtain ⟨F', e', hF', s'⟩ := s.newF (o := ExH a (.ref C) dd) na rfl
    have s2 := SA.store' (i := i) (B0 := []) s' (.dat ((ex.mono e').rep hF'))
    refine t2 ps _ _ F' _ S _ s2 ?_
    have kl : KeepL S H (upd H a (ExH a (.ref C) dd)) := s.keep (same_new na)
    cases z : b (ρ.put i (.own (.dat (.exc cc ds)))) with
    | bad => rw [z] at p; exact p
    | ex x1 y1 ρ1 => rw [z] at p; exact p.elim
    | ok f ρ1 =>
      rw [z] at p
      cases f with
      | nx => exact fun σ' F2 H2 e2 k2 s2 => p (σ'.set i none) F2 H2 (e'.trans e2) (kl.trans k2) s2.drop'
      | brk => exact fun σ' F2 H2 e2 k2 s2 => p (σ'.set i none) F2 H2 (e'.trans e2) (kl.trans k2) s2.drop'
      | cnt => exact fun σ' F2 H2 e2 k2 s2 => p (σ'.set i none) F2 H2 (e'.trans e2) (kl.trans k2) s2.drop'
      | ret o => exact fun v σ' F2 H2 B e2 k2 s2 w => p v (σ'.set i none) F2 H2 B (e'.trans e2) (kl.trans k2) s2.drop' w
  · rename_i e
    obtain ⟨C, ns, h1, h2⟩ := hl.get e
    obtain ⟨C', ns', g1, rfl, _⟩ := id ex
    rw [h1] at g1
    cases g1
    exact ⟨false, h2, fun z => absurd z Bool.false_ne_true, fun _ => q2 ps σ ρ F H S D _ dd cc ds s ex p⟩
  · exact p.elim
theorem xh_on (hs : X.stack = X.env :: X.outer) (hf : X.env.frame = some X.env.locals) (hc : Names X x c) (hl : HdL X.K T c l) (hsu : ∀ a pn, XSs (X.suite a pn) T W0 (b₀ :: suite) b) (hr : XH X T W hds ha) :
    XH X T W (.ExceptHandler (some (.Name x np)) none (b₀ :: suite) pos' :: hds) (hOn l b ha) := by
  obtain ⟨r, q1, q2⟩ := hr
  refine ⟨_, ph_on hs hf hc q1, fun ps σ ρ F H S D cls dd cc ds s ex p => ?_⟩
  unfold hOn at p
  split at p
  · rename_i e
    obtain ⟨C, ns, h1, h2⟩ := hl.get e
    obtain ⟨C', ns', g1, rfl, _⟩ := id ex
    rw [h1] at g1
    cases g1
    refine ⟨true, h2, fun _ a na pn => ?_, fun z => by cases z⟩
    obtain ⟨ts, t1, t2⟩ := hsu a pn
    refine ⟨ts, t1, t2 ps _ _ F _ S _ s ?_⟩
    cases z : b ρ with
    | bad => rw [z] at p; exact p
    | ex x1 y1 ρ1 => rw [z] at p; exact p.elim
    | ok f ρ1 =>
      rw [z] at p
      cases f with
      | nx => exact p
      | brk => exact p
      | cnt => exact p
      | ret o => exact p
  · rename_i e
    obtain ⟨C, ns, h1, h2⟩ := hl.get e
    obtain ⟨C', ns', g1, rfl, _⟩ := id ex
    rw [h1] at g1
    cases g1
    exact ⟨false, h2, fun z => absurd z Bool.false_ne_true, fun _ => q2 ps σ ρ F H S D _ dd cc ds s ex p⟩
  · exact p.elim
theorem xs_try {body : List Stmt} {h₀ : ExceptHandler} {fb : Act Fl} (hs : X.stack = X.env :: X.outer) (hf : X.env.frame = some X.env.locals)
    (hb : ∀ (W : WX) (pn : List (Addr × Obj)) (xe : Value → Shared → Prop), Takes (X.tr pn xe) W → PassesOwn (model X.prog X.w) X.A X.env xe → XSs (X.tr pn xe) T W body fb) (hh : XH X T W (h₀ :: hds) ha) :
    XS X T W (.Try body (h₀ :: hds) [] [] pos) (sTry fb ha) := by
  obtain ⟨r, q1, q2⟩ := hh
  refine ⟨_, ps_try hs hf q1, fun ps σ ρ F H S D s p pn xe tk hp => ?_⟩
  obtain ⟨tb, t1, t2⟩ := hb _ pn xe tk hp
  refine ⟨tb, t1, t2 ps σ ρ F H S D s ?_⟩
  unfold sTry at p
  cases z : fb ρ with
  | bad => rw [z] at p; exact p
  | ok f ρ1 =>
    rw [z] at p
    cases f with
    | nx => exact p
    | brk => exact p
    | cnt => exact p
    | ret o => exact p
  | ex c1 ds1 ρ1 =>
    rw [z] at p
    exact fun cls dd σ' F' H' e k s' x' => q2 ps σ' ρ1 F' H' S D cls dd c1 ds1 s' x' (PostS.later p e k)
end
/-! ### isinstance of an exception -/
section
open PySem.W PySem.Calls
variable {prog : Program} {w : World} {A : Around} {E : Value → Shared → Prop} {s : Shared} {K : Frag} {x D : Addr} {ox : Obj} {od : Option Obj}
theorem findObj_dataO {C : Addr} {name : Str} {a g : Value} (hc : (clsIn K C).isSome = true) (ha : findIn K (.ref C) name = some (some a)) (hg : specialIn K a "__get__" = some (some g)) (ht : takesIn K a = some true) : findObj K C od name = some (.bind g a) := by
  obtain ⟨cd, hc⟩ := Option.isSome_iff_exists.mp hc
  unfold findObj
  rw [hc, Option.bind_some, ha, Option.bind_some]
  simp [hg, ht]
theorem kin_classO {Q : Option Value → Shared → Prop} (C : ExcC K D) (X : K.In s.heap) (I : InstAt s.heap x ox D od) (h : Q (some (.ref D)) { s with toks := s.toks + 1 }) : wpAny (model prog w) A (getAttr? (.ref x) "__class__") Q E s := by
  have hga := C.hg; have hgt := C.hk; have hsub := C.hs; have hdct := C.hd; have ha := C.ha; have hn := C.hn; have htk := C.ht; have hm := C.hm
  have hf : findObj K D od "__class__" = some (.bind (.builtin "getset_descriptor.__get__") (.builtin "object.__class__")) := findObj_dataO (by obtain ⟨cd, hc, _⟩ := any_some hdct; rw [hc]; rfl) ha hn htk
  obtain ⟨hp, g, d, t, os⟩ := s
  have L0 := I.type (M := model prog w)
  have L1 := looks_findIn (M := model prog w) X hga
  have L2 := looks_findIn (M := model prog w) X hgt
  have L3 := looks_find (M := model prog w) X I hf
  have sub : Looks (model prog w) hp (isInstance (.ref x) (.type "BaseException")) true := L0.andThen (looks_subIn X hsub)
  have hx0 : (false && onTheHeap (Value.builtin "BaseException.__getattribute__")) = false := rfl
  have hx2 : (Value.builtin "BaseException.__getattribute__" == Value.builtin "object.__getattribute__") = false := by decide +kernel
  have hx1 : (onTheHeap (Value.ref D) && Value.builtin "BaseException.__getattribute__" == Value.builtin "object.__getattribute__") = false := by rw [hx2]; rfl
  unfold getAttr? getAttrBy? getAttrBy
  refine wpAny_bind (wpAny_mkText (wpAny_bind (wpAny_attempt (wpAny_holding (wpAny_bind (L0.at (wpAny_bind (L1.at ?_))))))))
  show wpAny _ _ (if (onTheHeap (Value.ref D) && Value.builtin "BaseException.__getattribute__" == Value.builtin "object.__getattribute__") = true then _ else _) _ _ _
  rw [hx1, if_neg Bool.false_ne_true]
  unfold getAttrByItsOwn hookBefore
  refine wpAny_bind ?_
  rw [if_pos (show onTheHeap (Value.ref D) = true from rfl)]
  refine L2.at ?_
  refine wpAny_bind (wpAny_attempt (wpAny_holding ?_))
  unfold callGetattribute
  rw [hx0, if_neg Bool.false_ne_true]
  unfold boundAndCalled
  rw [PySem.F.excAttr_ValueError.ga.bind (.ref x)]
  refine wpAny_bind (wpAny_pure ?_)
  show wpAny _ _ (call (.builtin "BaseException.__getattribute__") [.ref x, .str "__class__" t]) _ _ _
  refine wpAny_call (codeAny_call_builtin PySem.F.excAttr_ValueError.ga.plain PySem.F.entry_bexc_ga ?_)
  refine @check_slot (model prog w) _ _ ⟨hp, g, d, t + 1, os⟩ "BaseException.__getattribute__" "BaseException" "__getattribute__" (.ref x) [.str "__class__" t] [] _ (by decide +kernel) (by decide +kernel) sub (PySem.F.args_bexc_ga (.ref x) (.str "__class__" t)) ?_
  unfold Builtin.«object.__getattribute__»
  refine wpAny_bind (wpAny_of_eq (a := ((Value.ref x : Value), [Value.str "__class__" t])) (by first | rfl | (simp only [slotArgs]; rfl)) ?_)
  refine wpAny_bind (wpAny_pure (wpAny_bind (L0.at (wpAny_bind (L3.at ?_)))))
  show wpAny _ _ (holding [Value.builtin "object.__class__"] (call (.builtin "getset_descriptor.__get__") [.builtin "object.__class__", .ref x, .ref D]) >>= ret) _ _ _
  refine wpAny_bind (wpAny_holding (wpAny_call (class_get (s := ⟨hp, g, d, t + 1, os⟩) (ox := ox) (od := od) X I hm ?_)))
  refine wpAny_pure ?_
  show wpAny _ _ (handedOut (.ref D)) _ _ _
  rw [handedOut_of (v := .ref D) rfl]
  first
    | exact wpAny_pure (wpAny_pure h)
    | exact wpAny_pure h
    | exact wpAny_pure (wpAny_bind (wpAny_pure (wpAny_pure h)))
theorem kitx_excO (C : ExcC K D) : KitX K (.ref x) (.ref D) (fun h => InstAt h x ox D od) where
  ty := fun _ _ _ I => I.type
  it := fun _ _ X _ => by
    obtain ⟨cdD, hcD, _⟩ := any_some C.hd
    unfold clsIn at hcD
    split at hcD
    · rename_i c' d' cd' sl' ho
      intro A' Q' E' s' k q
      unfold isType loadHead
      exact wpAny_bind (wpAny_loadPart (k _ _ (X _ _ ho)) (wpAny_pure q))
    · cases hcD
  ne := fun h tp dd its n sl X htp => by
    obtain ⟨cdD, hcD, _⟩ := any_some C.hd
    refine Bool.eq_false_iff.mpr fun q => ?_
    have e : D = tp := Value.ref.inj (beq_iff_eq.mp q)
    subst e
    unfold clsIn at hcD
    split at hcD
    · rename_i c' d' cd' sl' ho
      have z := (X _ _ ho).symm.trans htp
      cases z
    · cases hcD
  ca := fun X I k => kin_classO C X I k
end
/-- isinstance(x, C), x a base thing or an exception that is held -/
def rIsX (K : PySem.W.Frag) : List V → Hp → VK → Prop := fun xs H Q => ∃ (x c : V) (u : Value) (b : Bool), xs = [x, c] ∧ ClsV c u ∧ Q (.bl b) H ∧
  ((∃ t, TyX K H x t ∧ PySem.W.kitOne K t u = some b) ∨ ∃ a D dd, x = .ref a ∧ ExcC K D ∧ H a = some (ExH a (.ref D) dd) ∧ (∀ dx, dd = some dx → ∃ fs, H dx = some (.xd fs)) ∧ PySem.W.kitOne K (.ref D) u = some b)
theorem call_isX {X : Cx} : CallR X (.builtin "isinstance") (rIsX X.K) := by
  intro pins s σ H xs us Q I r h
  obtain ⟨x, c, u, b, e0, k, q, h | ⟨a, D, dd, rfl, C, ha, hd, e⟩⟩ := h
  · obtain ⟨t, ty, e⟩ := h
    exact call_isi pins s σ H xs us Q I r ⟨x, c, t, u, b, e0, k, ty, e, q⟩
  · subst e0
    cases r with
    | cons rx rr =>
      cases rr with
      | cons rt rr =>
        cases rr
        cases rx
        have e2 := k.eq rt
        subst e2
        obtain ⟨⟨oe, vs, he, hz, hf⟩, _⟩ := I.hok a _ ha
        cases dd with
        | none =>
          have J : PySem.W.InstAt s.heap a oe D none := by
            obtain ⟨oc, od, oda, osl⟩ := oe
            obtain ⟨h1, h2⟩ := hz
            dsimp only at h1 h2 hf
            subst h1 h2 hf
            exact ⟨he, rfl, rfl, trivial⟩
          exact PySem.W.kia_one (kitx_excO C) I.kIn J e (fun z => nomatch z) fun tk => ⟨.bl b, H, I.kept (t' := tk) fun _ _ z => z, rfl, q⟩
        | some dx =>
          obtain ⟨fs, hx⟩ := hd dx rfl
          obtain ⟨mA, hns, _⟩ := I.hok dx _ hx
          obtain ⟨od2, ho, _⟩ := lookIn_ns hns
          have J : PySem.W.InstAt s.heap a oe D (some od2) := by
            obtain ⟨oc, od, oda, osl⟩ := oe
            obtain ⟨h1, h2⟩ := hz
            dsimp only at h1 h2 hf
            subst h1 h2 hf
            exact ⟨he, rfl, rfl, ho⟩
          exact PySem.W.kia_one (kitx_excO C) I.kIn J e (fun z => nomatch z) fun tk => ⟨.bl b, H, I.kept (t' := tk) fun _ _ z => z, rfl, q⟩
inductive IsL (K : PySem.W.Frag) (T : Tab) (cv : Value) : List (String × Bool) → Prop
  | nil : IsL K T cv []
  | cons {c : String} {C : Addr} {ns : List Str} {b : Bool} {l : List (String × Bool)} : T.cls c = some (C, ns) → PySem.W.kitOne K (.ref C) cv = some b → ExcC K C → IsL K T cv l → IsL K T cv ((c, b) :: l)
theorem IsL.get {K : PySem.W.Frag} {T : Tab} {cv : Value} : ∀ {l : List (String × Bool)} {c : String} {b : Bool}, IsL K T cv l → l.lookup c = some b → ∃ C ns, T.cls c = some (C, ns) ∧ PySem.W.kitOne K (.ref C) cv = some b ∧ ExcC K C
  | _, _, _, .nil, e => by simp at e
  | (c', b') :: l, c, b, .cons h1 h2 h3 r, e => by
    rw [List.lookup_cons] at e
    split at e
    · rename_i hc
      have : c = c' := by simpa using hc
      subst this
      cases e
      exact ⟨_, _, h1, h2, h3⟩
    · exact r.get e
/-- is it one of the class: an exception by its own class, None never -/
def dIsX (l : List (String × Bool)) : DD → Option DD
  | .exc c _ => (l.lookup c).map .bl
  | .non => some (.bl false)
  | _ => none
section
variable {X : Cx} {T : Tab} {pos : Pos} {e : Expr} {ge : View → Option DD}
theorem xv_isx {x t : Str} {C : Addr} {l : List (String × Bool)} {p q : Pos} (hg : Gl X x) (hm : X.mg x = none) (hv : bootBuiltins x = some (.builtin "isinstance")) (hgt : Gl X t) (hmt : X.mg t = some (.ref C))
    (hl : IsL X.K T (.ref C) l) (hnon : PySem.W.kitOne X.K (.type "NoneType") (.ref C) = some false) (he : XV X T e ge)
    (hn : x ≠ "__name__" := by decide) (hdb : (x == ("__debug__" : Str)) = false := by decide) (hdt : (t == ("__debug__" : Str)) = false := by decide)
    (h1 : starEach [e, .Name t q] X.env = (false, eval e X.env) :: starEach [.Name t q] X.env := by rfl) (hpl : (backTo pos (starEach [.Name t q] X.env)).any (·.1) = false := by rfl) :
    XV X T (.Call (.Name x p) [e, .Name t q] [] pos) (gOp1 (dIsX l) ge) := by
  obtain ⟨te, pe, v⟩ := he
  refine ⟨_, pe_callB call_isX hg hm hv (pa_cons pe (pa_cons (pe_glob (v := .ref C) hgt hmt rfl hdt) pa_nil) h1) hn hdb h1 hpl, fun σ w H d E e Q q => ?_⟩
  obtain ⟨x1, ex, e⟩ := Option.bind_eq_some_iff.mp e
  refine v σ w H x1 E ex _ fun u H1 s1 r1 => ?_
  cases r1 with
  | non =>
    cases e
    exact ⟨.non, .ref C, _, _, rfl, .own C, q _ H1 s1 (.bl _), .inl ⟨_, .base .non, hnon⟩⟩
  | exc0 h1 h2 =>
    obtain ⟨b, eb, e⟩ := Option.map_eq_some_iff.mp e
    subst e
    obtain ⟨C', ns, g1, g2, g3⟩ := hl.get eb
    rw [h1] at g1
    cases g1
    exact ⟨_, .ref C, _, _, rfl, .own C, q _ H1 s1 (.bl _), .inr ⟨_, _, _, rfl, g3, h2, fun dx z => (by cases z), g2⟩⟩
  | excd h1 h2 h3 _ _ _ =>
    obtain ⟨b, eb, e⟩ := Option.map_eq_some_iff.mp e
    subst e
    obtain ⟨C', ns, g1, g2, g3⟩ := hl.get eb
    rw [h1] at g1
    cases g1
    exact ⟨_, .ref C, _, _, rfl, .own C, q _ H1 s1 (.bl _), .inr ⟨_, _, _, rfl, g3, h2, fun dx z => (by cases z; exact ⟨_, h3⟩), g2⟩⟩
  | _ => cases e
end
end DL

/-! DL9: calls by names and with defaults. -/
namespace DL
open PySem PySem.Spec PyProof.Rows L2
/-- where a parameter's value comes from: the i-th place, the i-th keyword, the i-th default -/
inductive Src where
  | p (i : Nat) | k (i : Nat) | d (i : Nat)
def pick {α : Type} (us ws its : List α) : Src → Option α
  | .p i => us[i]?
  | .k i => ws[i]?
  | .d i => its[i]?
def arr {α : Type} : List Src → List α → List α → List α → List α
  | [], _, _, _ => []
  | s :: ss, us, ws, its => match pick us ws its s with
    | some x => x :: arr ss us ws its
    | none => arr ss us ws its
theorem vals_opt {vs : List V} {us : List Value} (r : Vals vs us) (i : Nat) : (∃ v u, vs[i]? = some v ∧ us[i]? = some u ∧ RelV v u) ∨ (vs[i]? = none ∧ us[i]? = none) := by
  cases e : vs[i]? with
  | none => exact .inr ⟨rfl, r.none_of e⟩
  | some v =>
    obtain ⟨u, h1, h2⟩ := r.get e
    exact .inl ⟨v, u, rfl, h1, h2⟩
theorem arr_vals {vs zs dvs : List V} {us ws its : List Value} (r1 : Vals vs us) (r2 : Vals zs ws) (r3 : Vals dvs its) : ∀ sel : List Src, Vals (arr sel vs zs dvs) (arr sel us ws its)
  | [] => .nil
  | s :: ss => by
    have q : (∃ v u, pick vs zs dvs s = some v ∧ pick us ws its s = some u ∧ RelV v u) ∨ (pick vs zs dvs s = none ∧ pick us ws its s = none) := by
      cases s with
      | p i => exact vals_opt r1 i
      | k i => exact vals_opt r2 i
      | d i => exact vals_opt r3 i
    unfold arr
    rcases q with ⟨v, u, e1, e2, r⟩ | ⟨e1, e2⟩
    · rw [e1, e2]
      exact .cons r (arr_vals r1 r2 r3 ss)
    · rw [e1, e2]
      exact arr_vals r1 r2 r3 ss
section
variable {K : PySem.W.Frag} {T : Tab} {F : Hp}
theorem rep_opt {vs : List V} {ds : List DD} (r : RepAll K T F vs ds) (i : Nat) : (∃ v d, vs[i]? = some v ∧ ds[i]? = some d ∧ Rep K T F v d) ∨ (vs[i]? = none ∧ ds[i]? = none) := by
  cases e : ds[i]? with
  | none =>
    refine .inr ⟨?_, rfl⟩
    rw [List.getElem?_eq_none_iff] at e ⊢
    have := r.length
    omega
  | some d =>
    obtain ⟨v, h1, h2⟩ := r.get e
    exact .inl ⟨v, d, h1, rfl, h2⟩
theorem arr_rep {vs zs dvs : List V} {ds es dds : List DD} (r1 : RepAll K T F vs ds) (r2 : RepAll K T F zs es) (r3 : RepAll K T F dvs dds) : ∀ sel : List Src, RepAll K T F (arr sel vs zs dvs) (arr sel ds es dds)
  | [] => .nil
  | s :: ss => by
    have q : (∃ v u, pick vs zs dvs s = some v ∧ pick ds es dds s = some u ∧ Rep K T F v u) ∨ (pick vs zs dvs s = none ∧ pick ds es dds s = none) := by
      cases s with
      | p i => exact rep_opt r1 i
      | k i => exact rep_opt r2 i
      | d i => exact rep_opt r3 i
    unfold arr
    rcases q with ⟨v, u, e1, e2, r⟩ | ⟨e1, e2⟩
    · rw [e1, e2]
      exact .cons r (arr_rep r1 r2 r3 ss)
    · rw [e1, e2]
      exact arr_rep r1 r2 r3 ss
end
/-- how a call binds: n places, the keywords ks, the defaults dvs -/
def KB (K : PySem.W.Frag) (fd : FuncData) (ps : List Str) (n : Nat) (ks : List Str) (sel : List Src) (dvs : List V) : Prop :=
  ∃ its : List Value, Vals dvs its ∧ ∀ (s : Shared) (us ws : List Value), K.In s.heap → us.length = n → ws.length = ks.length → BindsTo s fd ⟨us, ks.zip ws⟩ (ps.zip (arr sel us ws its))
section
variable {K : PySem.W.Frag} {x qual : Str} {params : Arguments} {body : List Stmt} {scope : Scope} {dvs : List V} {f : Addr} {fd : FuncData} {ps ks : List Str} {n : Nat} {sel : List Src}
theorem KB.ofD (F : FunD K x qual params body scope dvs [] f fd) (hd : dvs ≠ [])
    (h : ∀ (T : Addr) (kV doc pm : Value) (an : Option Addr) (cdv ct : Value) (us its ws : List Value), us.length = n → its.length = dvs.length → ws.length = ks.length →
      ∃ k, bindArgs (PySem.W.fnOf x qual params body scope (.ref T) kV doc pm an cdv ct) ⟨us, ks.zip ws⟩ = seqItems? (.ref T) >>= k ∧ k (some its.toArray) = pure (ps.zip (arr sel us ws its))) : KB K fd ps n ks sel dvs := by
  obtain ⟨oc, od, dV, kV, doc, pm, an, cdv, ct, osl, rfl, lk, hcd, hD, hK⟩ := F.ex
  rcases hD with ⟨e, _⟩ | ⟨_, T, o, its, m, rfl, lT, oT, rT⟩
  · exact absurd e hd
  · refine ⟨its, rT, fun s us ws X l1 l2 => ?_⟩
    obtain ⟨k, e1, e2⟩ := h T kV doc pm an cdv ct us its ws l1 rT.length.symm l2
    refine BindsTo.of_looks fun M => ?_
    rw [e1]
    exact looks_items X lT oT (.of_pure e2)
theorem KB.of {st : Stmt} (F : Fun K x qual st f fd)
    (h : ∀ (kV doc pm : Value) (an : Option Addr) (cdv ct : Value) (us ws : List Value), us.length = n → ws.length = ks.length →
      bindArgs (PySem.W.fnOf x qual (defArgs st) (defBody st) (defScope st) .none kV doc pm an cdv ct) ⟨us, ks.zip ws⟩ = pure (ps.zip (arr sel us ws []))) : KB K fd ps n ks sel [] := by
  obtain ⟨oc, od, kV, doc, pm, an, cdv, ct, osl, rfl, lk, hcd⟩ := F.ex
  exact ⟨[], .nil, fun s us ws X l1 l2 => .of_eq (h kV doc pm an cdv ct us ws l1 l2)⟩
end
def tCallK (sp : Sp) (n m : Nat) (sel : List Src) (dvs : List V) (W : WX) (t tk : TA) : TE := fun σ H Q => t σ H fun vs H1 => tk σ H1 fun zs H2 => vs.length = n ∧ zs.length = m ∧ sp (arr sel vs zs dvs) H2 Q (WE W σ)
section
variable {X : Cx} {k n : Nat} {f : Addr} {fd : FuncData} {ps ks : List Str} {sp : Sp} {W : WX} {x : Str} {p pos : Pos} {e : Expr} {es : List Expr} {kws : List Keyword} {t tkw : TA} {sel : List Src} {dvs : List V}
theorem run_fnK {pins : List (Addr × Obj)} {σ : L2.St} {H : Hp} {s : Shared} {Q : VK} {us ws : List Value} {vs zs : List V} (F : FnOk X.prog X.w X.K X.mg X.base (L2.CX X.prog X.w) k f fd ps sp) (hr : Room k X.A) (hb : KB X.K fd ps n ks sel dvs) (tk : Takes X W)
    (I : Inv X pins σ H s) (r : Vals vs us) (rz : Vals zs ws) (l1 : vs.length = n) (l2 : zs.length = ks.length) (h : sp (arr sel vs zs dvs) H Q (WE W σ)) : wpAny (model X.prog X.w) X.A (call (.ref f) us (ks.zip ws)) (EP X pins σ Q) X.xe s := by
  obtain ⟨its, rd, hb⟩ := hb
  refine wpAny_call (codeAny_mono (F.run X.A X.stack s H ⟨us, ks.zip ws⟩ (arr sel us ws its) _ Q _ hr I.env0 (hb s us ws I.kIn (r.length.symm.trans l1) (rz.length.symm.trans l2)) (arr_vals r rz rd sel) h) fun r s' hq => ?_)
  cases r with
  | error e => exact passAt tk σ pins H s e s' I hq
  | ok fl =>
    cases fl with
    | ret u => exact I.after hq
    | next => exact False.elim hq
    | brk => exact False.elim hq
    | cont => exact False.elim hq
theorem pe_callK (F : FnOk X.prog X.w X.K X.mg X.base (L2.CX X.prog X.w) k f fd ps sp) (hr : Room k X.A) (hg : Gl X x) (hm : X.mg x = some (.ref f)) (hk : PySem.W.keepIn X.K (.ref f) = true) (hb : KB X.K fd ps n ks sel dvs) (tk : Takes X W)
    (ha : PA X (e :: es) t) (hkw : PK X kws tkw) (hall : (backToKw pos (keywordEach kws X.env)).all (·.1.isSome) = true := by rfl) (hks : (backToKw pos (keywordEach kws X.env)).filterMap (·.1) = ks := by rfl)
    (hdb : (x == ("__debug__" : Str)) = false := by decide) (he : starEach (e :: es) X.env = (false, eval e X.env) :: starEach es X.env := by rfl)
    (hpl : ((backTo pos (starEach (e :: es) X.env)).any (·.1) || (backToKw pos (keywordEach kws X.env)).any (·.1.isNone)) = false := by rfl) :
    PE X (.Call (.Name x p) (e :: es) kws pos) (tCallK sp n ks.length sel dvs W t tkw) := by
  refine ⟨fun pins s σ H Q I h => ?_⟩
  refine wpAny_Call_Name_kw (ld_glob I hg hm ?_ hdb)
  refine PySem.W.callWith_KW (h₀ := X.base) I.ok.mod.kin hk hall (thn (ha.run pos pins s σ H _ I h) fun us s1 ⟨vs, H1, I1, r, q⟩ => ?_) hpl he
  refine thn (hkw.run pos pins s1 σ H1 _ I1 q) fun ws s2 ⟨zs, H2, I2, rz, l1, l2, q2⟩ => ⟨I2.kIn, ?_⟩
  rw [hks]
  exact run_fnK F hr hb tk I2 r rz l1 l2 q2
/-- by names alone -/
theorem pe_callK0 (F : FnOk X.prog X.w X.K X.mg X.base (L2.CX X.prog X.w) k f fd ps sp) (hr : Room k X.A) (hg : Gl X x) (hm : X.mg x = some (.ref f)) (hk : PySem.W.keepIn X.K (.ref f) = true) (hb : KB X.K fd ps 0 ks sel dvs) (tk : Takes X W)
    (hkw : PK X kws tkw) (hall : (backToKw pos (keywordEach kws X.env)).all (·.1.isSome) = true := by rfl) (hks : (backToKw pos (keywordEach kws X.env)).filterMap (·.1) = ks := by rfl)
    (hdb : (x == ("__debug__" : Str)) = false := by decide) (hpl : ((backTo pos (starEach [] X.env)).any (·.1) || (backToKw pos (keywordEach kws X.env)).any (·.1.isNone)) = false := by rfl) :
    PE X (.Call (.Name x p) [] kws pos) (tCallK sp 0 ks.length sel dvs W tNil tkw) := by
  refine ⟨fun pins s σ H Q I h => ?_⟩
  refine wpAny_Call_Name_kw (ld_glob I hg hm ?_ hdb)
  refine PySem.W.callWith_KW0 (h₀ := X.base) I.ok.mod.kin hk hall ?_ hpl
  refine thn (hkw.run pos pins s σ H _ I h) fun ws s2 ⟨zs, H2, I2, rz, l1, l2, q2⟩ => ⟨I2.kIn, ?_⟩
  rw [hks]
  exact run_fnK F hr hb tk I2 .nil rz l1 l2 q2
/-- by places alone -/
theorem pe_callKp (F : FnOk X.prog X.w X.K X.mg X.base (L2.CX X.prog X.w) k f fd ps sp) (hr : Room k X.A) (hg : Gl X x) (hm : X.mg x = some (.ref f)) (hk : PySem.W.keepIn X.K (.ref f) = true) (hb : KB X.K fd ps n [] sel dvs) (tk : Takes X W)
    (ha : PA X (e :: es) t) (hdb : (x == ("__debug__" : Str)) = false := by decide) (he : starEach (e :: es) X.env = (false, eval e X.env) :: starEach es X.env := by rfl) (hpl : (backTo pos (starEach es X.env)).any (·.1) = false := by rfl) :
    PE X (.Call (.Name x p) (e :: es) [] pos) (tCallK sp n 0 sel dvs W t tNil) := by
  refine ⟨fun pins s σ H Q I h => ?_⟩
  refine wpAny_Call_Name_kw (ld_glob I hg hm ?_ hdb)
  refine PySem.W.callWith_K (h₀ := X.base) I.ok.mod.kin hk (thn (ha.run pos pins s σ H _ I h) fun us s1 ⟨vs, H1, I1, r, q⟩ => ⟨I1.kIn, ?_⟩) he hpl
  obtain ⟨l1, l2, q2⟩ := q
  exact run_fnK (ks := []) (ws := []) F hr hb tk I1 r .nil l1 l2 q2
/-- of nothing -/
theorem pe_callKn (F : FnOk X.prog X.w X.K X.mg X.base (L2.CX X.prog X.w) k f fd ps sp) (hr : Room k X.A) (hg : Gl X x) (hm : X.mg x = some (.ref f)) (hk : PySem.W.keepIn X.K (.ref f) = true) (hb : KB X.K fd ps 0 [] sel dvs) (tk : Takes X W)
    (hdb : (x == ("__debug__" : Str)) = false := by decide) : PE X (.Call (.Name x p) [] [] pos) (tCallK sp 0 0 sel dvs W tNil tNil) := by
  refine ⟨fun pins s σ H Q I h => ?_⟩
  refine wpAny_Call_Name_kw (ld_glob I hg hm ?_ hdb)
  refine PySem.W.callWith_K0 I.kIn hk ?_
  obtain ⟨l1, l2, q2⟩ := h
  exact run_fnK (ks := []) (us := []) (ws := []) F hr hb tk I .nil .nil l1 l2 q2
end
def sCallK (G : Fn) (sel : List Src) (dds : List DD) (fa fk : Act (List DD)) : Act OO := sBind fa fun ds => sBind fk fun es => callRd G (arr sel ds es dds)
section
variable {K : PySem.W.Frag} {T : Tab} {W : WX}
theorem eok_callK {sig : List Bool} {G : Fn} {n m : Nat} {sel : List Src} {dvs : List V} {dds : List DD} {t tk : TA} {fa fk : Act (List DD)} (hd : ∀ F, RepAll K T F dvs dds) (hs : ∀ ds es : List DD, ds.length = n → es.length = m → sig = List.replicate (arr sel ds es dds).length false)
    (ha : EOkA K T W t fa) (hk : EOkA K T W tk fk) (hn : ∀ ρ ds ρ', fa ρ = .ok ds ρ' → ds.length = n) (hm : ∀ ρ ds ρ', fk ρ = .ok ds ρ' → ds.length = m) : EOk K T W (tCallK (spD K T sig G) n m sel dvs W t tk) (sCallK G sel dds fa fk) := fun ps σ ρ F H S Q s p => by
  refine ha ps σ ρ F H S _ s ?_
  have p' := PostX.bind p
  cases zf : fa ρ with
  | ex c ds ρ1 => rw [zf] at p'; exact p'
  | bad => rw [zf] at p'; exact p'
  | ok ds ρ1 =>
    rw [zf] at p'
    intro F1 H1 e1 k1 vs s1 r1
    have p1 := PostX.bind (p' F1 H1 e1 k1)
    refine hk ps σ ρ1 F1 H1 S _ s1 ?_
    cases zk : fk ρ1 with
    | ex c ds ρ2 => rw [zk] at p1; exact p1
    | bad => rw [zk] at p1; exact p1
    | ok es ρ2 =>
      rw [zk] at p1
      intro F2 H2 e2 k2 zs s2 r2
      have p2 := p1 F2 H2 e2 k2
      dsimp only [callRd] at p2
      have l1 := hn ρ ds ρ1 zf
      have l2 := hm ρ1 es ρ2 zk
      refine ⟨by rw [r1.length, l1], by rw [r2.length, l2], ?_⟩
      obtain ⟨A, B, ra, rb, g⟩ := id s2
      have rr := arr_rep (r1.mono e2) r2 (hd F2) sel
      refine ⟨F2, A ++ (B ++ S), arr sel ds es dds, [], [], [], ?_, .nil, by simpa using g, ?_⟩
      · rw [hs ds es l1 l2, ← rr.length]
        exact ArgsR.pure rr
      · cases z : G (arr sel ds es dds) [] with
        | none => rw [z] at p2; exact p2
        | some r =>
          obtain ⟨r, os⟩ := r
          rw [z] at p2
          cases r with
          | ret o =>
            intro v F' H' B' A' e2 k2 b2 w2 g2
            refine p2 F' H' e2 (fun a ha => k2 a (by simp only [List.count_append]; omega)) v B' ?_ w2
            exact SA.frame ra rb e2 k2 (g2.sub fun a => by simp only [List.count_append]; omega)
          | exc c es =>
            intro cls dd F' H' A' e2 k2 b2 g2 x2
            refine p2 cls dd F' H' e2 (fun a ha => k2 a (by simp only [List.count_append]; omega)) ?_ x2
            exact SA.frame (R := []) ra rb e2 k2 (g2.sub fun a => by simp only [List.count_append, List.count_nil]; omega)
end
def XK (X : Cx) (T : Tab) (W : WX) (kws : List Keyword) (f : Act (List DD)) : Prop := (∃ t : TA, PK X kws t ∧ EOkA X.K T W t f) ∧ ∀ ρ ds ρ', f ρ = .ok ds ρ' → ds.length = kws.length
section
variable {X : Cx} {T : Tab} {W : WX} {pos : Pos} {e : Expr} {es : List Expr} {kws : List Keyword} {fe : Act DD} {fa fk : Act (List DD)} {nm : Option Str} {kpos : Pos}
variable {x : Str} {f : Addr} {fd : FuncData} {k n : Nat} {ps ks : List Str} {sig : List Bool} {G : Fn} {p : Pos} {sel : List Src} {dvs : List V} {dds : List DD}
theorem xk_nil : XK X T W [] sNil := ⟨⟨_, pk_nil, eok_nil⟩, fun ρ ds ρ' z => by cases z; rfl⟩
theorem len_cons {fa : Act DD} {fr : Act (List DD)} {n : Nat} (h : ∀ ρ ds ρ', fr ρ = .ok ds ρ' → ds.length = n) : ∀ ρ ds ρ', sCons fa fr ρ = .ok ds ρ' → ds.length = n + 1 := fun ρ ds ρ' z => by
  unfold sCons sBind at z
  split at z
  · dsimp only at z
    split at z
    · rename_i z2
      cases z
      rw [List.length_cons, h _ _ _ z2]
    · cases z
    · cases z
  · cases z
  · cases z
theorem xk_cons (ha : XD X T W e fe) (hr : XK X T W kws fk) : XK X T W (⟨nm, e, kpos⟩ :: kws) (sCons fe fk) :=
  let ⟨_, q, v⟩ := ha; let ⟨⟨_, q2, u⟩, l⟩ := hr; ⟨⟨_, pk_cons q q2, eok_cons v u⟩, len_cons l⟩
theorem xe_callK (D : DefOk X.prog X.w X.K X.mg X.base T x f fd k ps sig G) (hr : Room k X.A) (tk : Takes X W) (hb : KB X.K fd ps (e :: es).length ks sel dvs) (hd : ∀ F, RepAll X.K T F dvs dds) (ha : XAs X T W (e :: es) fa) (hk : XK X T W kws fk)
    (hs : ∀ ds es' : List DD, ds.length = (e :: es).length → es'.length = ks.length → sig = List.replicate (arr sel ds es' dds).length false) (hg : Gl X x := by rfl) (hl : kws.length = ks.length := by rfl)
    (hall : (backToKw pos (keywordEach kws X.env)).all (·.1.isSome) = true := by rfl) (hks : (backToKw pos (keywordEach kws X.env)).filterMap (·.1) = ks := by rfl)
    (hdb : (x == ("__debug__" : Str)) = false := by decide) (he : starEach (e :: es) X.env = (false, eval e X.env) :: starEach es X.env := by rfl)
    (hpl : ((backTo pos (starEach (e :: es) X.env)).any (·.1) || (backToKw pos (keywordEach kws X.env)).any (·.1.isNone)) = false := by rfl) :
    XE X T W (.Call (.Name x p) (e :: es) kws pos) (sCallK G sel dds fa fk) :=
  let ⟨⟨_, q, v⟩, l1⟩ := ha; let ⟨⟨_, q2, u⟩, l2⟩ := hk; ⟨_, pe_callK D.ok hr hg D.hm D.kp hb tk q q2 hall hks hdb he hpl, eok_callK hd hs v u l1 (fun ρ ds ρ' z => (l2 ρ ds ρ' z).trans hl)⟩
theorem xe_callK0 (D : DefOk X.prog X.w X.K X.mg X.base T x f fd k ps sig G) (hr : Room k X.A) (tk : Takes X W) (hb : KB X.K fd ps 0 ks sel dvs) (hd : ∀ F, RepAll X.K T F dvs dds) (hk : XK X T W kws fk)
    (hs : ∀ ds es' : List DD, ds.length = 0 → es'.length = ks.length → sig = List.replicate (arr sel ds es' dds).length false) (hg : Gl X x := by rfl) (hl : kws.length = ks.length := by rfl)
    (hall : (backToKw pos (keywordEach kws X.env)).all (·.1.isSome) = true := by rfl) (hks : (backToKw pos (keywordEach kws X.env)).filterMap (·.1) = ks := by rfl)
    (hdb : (x == ("__debug__" : Str)) = false := by decide) (hpl : ((backTo pos (starEach [] X.env)).any (·.1) || (backToKw pos (keywordEach kws X.env)).any (·.1.isNone)) = false := by rfl) :
    XE X T W (.Call (.Name x p) [] kws pos) (sCallK G sel dds sNil fk) :=
  let ⟨⟨_, q2, u⟩, l2⟩ := hk; ⟨_, pe_callK0 D.ok hr hg D.hm D.kp hb tk q2 hall hks hdb hpl, eok_callK hd hs eok_nil u (fun ρ ds ρ' z => by cases z; rfl) (fun ρ ds ρ' z => (l2 ρ ds ρ' z).trans hl)⟩
theorem xe_callKp (D : DefOk X.prog X.w X.K X.mg X.base T x f fd k ps sig G) (hr : Room k X.A) (tk : Takes X W) (hb : KB X.K fd ps (e :: es).length [] sel dvs) (hd : ∀ F, RepAll X.K T F dvs dds) (ha : XAs X T W (e :: es) fa)
    (hs : ∀ ds es' : List DD, ds.length = (e :: es).length → es'.length = 0 → sig = List.replicate (arr sel ds es' dds).length false) (hg : Gl X x := by rfl)
    (hdb : (x == ("__debug__" : Str)) = false := by decide) (he : starEach (e :: es) X.env = (false, eval e X.env) :: starEach es X.env := by rfl) (hpl : (backTo pos (starEach es X.env)).any (·.1) = false := by rfl) :
    XE X T W (.Call (.Name x p) (e :: es) [] pos) (sCallK G sel dds fa sNil) :=
  let ⟨⟨_, q, v⟩, l1⟩ := ha; ⟨_, pe_callKp D.ok hr hg D.hm D.kp hb tk q hdb he hpl, eok_callK hd hs v eok_nil l1 (fun ρ ds ρ' z => by cases z; rfl)⟩
theorem xe_callKn (D : DefOk X.prog X.w X.K X.mg X.base T x f fd k ps sig G) (hr : Room k X.A) (tk : Takes X W) (hb : KB X.K fd ps 0 [] sel dvs) (hd : ∀ F, RepAll X.K T F dvs dds)
    (hs : ∀ ds es' : List DD, ds.length = 0 → es'.length = 0 → sig = List.replicate (arr sel ds es' dds).length false) (hg : Gl X x := by rfl) (hdb : (x == ("__debug__" : Str)) = false := by decide) :
    XE X T W (.Call (.Name x p) [] [] pos) (sCallK G sel dds sNil sNil) :=
  ⟨_, pe_callKn D.ok hr hg D.hm D.kp hb tk hdb, eok_callK hd hs eok_nil eok_nil (fun ρ ds ρ' z => by cases z; rfl) (fun ρ ds ρ' z => by cases z; rfl)⟩
end
end DL

/-! DL10: names handed on frozen; the facts of the top; a law's end. -/
namespace DL
open PySem PySem.Spec PyProof.Rows L2
/-- a name's thing, frozen where it stands -/
def sNameF (i : Nat) : Act OO := fun ρ => match ρ.sl[i]? with
  | some (.own o) => .ok (.dat o.view) (ρ.put i (.own (.dat o.view)))
  | _ => .bad
section
variable {K : PySem.W.Frag} {T : Tab} {W : WX}
theorem set_same {σ : L2.St} {i : Nat} {x : Option V} (h : σ[i]? = some x) : σ.set i x = σ := by
  apply List.ext_getElem?
  intro j
  by_cases hj : j = i
  · subst hj
    have hlt : j < σ.length := (List.getElem?_eq_some_iff.mp h).1
    rw [List.getElem?_set_self hlt, h]
  · rw [List.getElem?_set_ne (Ne.symm hj)]
theorem Env.put_put {ρ : Env} {i : Nat} {s t : Slot} : (ρ.put i s).put i t = ρ.put i t := by
  unfold Env.put
  simp
theorem eok_nameF {i : Nat} : EOk K T W (tVar i) (sNameF i) := fun ps σ ρ F H S Q s p => by
  unfold sNameF at p
  split at p
  · rename_i o z
    obtain ⟨v, B0, h1, h2, s1⟩ := s.move z
    obtain ⟨F', e, s2, r2⟩ := s1.freeze h2
    have s3 := SA.store' (i := i) (B0 := []) s2 (.dat r2)
    rw [set_same h1, Env.put_put] at s3
    refine ⟨v, h1, p F' H e .refl v [] s3 (.dat r2)⟩
  · exact p.elim
end
section
variable {X : Cx} {T : Tab} {W : WX} {pos : Pos} {e : Expr} {ge : View → Option DD}
theorem xe_nameF (i : Nat) {x : Str} (hN : X.N[i]? = some x := by rfl) (hv : Vis X.env.scope x := by first | exact Or.inl rfl | exact Or.inr (Or.inl rfl) | exact Or.inr (Or.inr rfl)) (hd : (x == ("__debug__" : Str)) = false := by decide)
    (hcd : (x == ("__classdict__" : Str)) = false := by decide) : XE X T W (.Name x pos) (sNameF i) := ⟨_, pe_var hN hv hd hcd, eok_nameF⟩
/-- isinstance of a class of the boot -/
theorem xv_isxB {x t : Str} {n : String} {l : List (String × Bool)} {p q : Pos} (hg : Gl X x) (hm : X.mg x = none) (hv : bootBuiltins x = some (.builtin "isinstance")) (hgt : Gl X t) (hmt : X.mg t = none) (hvt : bootBuiltins t = some (.type n))
    (hl : IsL X.K T (.type n) l) (hnon : PySem.W.kitOne X.K (.type "NoneType") (.type n) = some false) (he : XV X T e ge)
    (hn : x ≠ "__name__" := by decide) (hdb : (x == ("__debug__" : Str)) = false := by decide) (hnt : t ≠ "__name__" := by decide) (hdt : (t == ("__debug__" : Str)) = false := by decide)
    (h1 : starEach [e, .Name t q] X.env = (false, eval e X.env) :: starEach [.Name t q] X.env := by rfl) (hpl : (backTo pos (starEach [.Name t q] X.env)).any (·.1) = false := by rfl) :
    XV X T (.Call (.Name x p) [e, .Name t q] [] pos) (gOp1 (dIsX l) ge) := by
  obtain ⟨te, pe, v⟩ := he
  refine ⟨_, pe_callB call_isX hg hm hv (pa_cons pe (pa_cons (pe_bltn (v := .ty n) hgt hmt hvt rfl hnt hdt) pa_nil) h1) hn hdb h1 hpl, fun σ w H d E e Q q => ?_⟩
  obtain ⟨x1, ex, e⟩ := Option.bind_eq_some_iff.mp e
  refine v σ w H x1 E ex _ fun u H1 s1 r1 => ?_
  cases r1 with
  | non =>
    cases e
    exact ⟨.non, .ty n, _, _, rfl, .ty n, q _ H1 s1 (.bl _), .inl ⟨_, .base .non, hnon⟩⟩
  | exc0 h1 h2 =>
    obtain ⟨b, eb, e⟩ := Option.map_eq_some_iff.mp e
    subst e
    obtain ⟨C', ns, g1, g2, g3⟩ := hl.get eb
    rw [h1] at g1
    cases g1
    exact ⟨_, .ty n, _, _, rfl, .ty n, q _ H1 s1 (.bl _), .inr ⟨_, _, _, rfl, g3, h2, fun dx z => (by cases z), g2⟩⟩
  | excd h1 h2 h3 _ _ _ =>
    obtain ⟨b, eb, e⟩ := Option.map_eq_some_iff.mp e
    subst e
    obtain ⟨C', ns, g1, g2, g3⟩ := hl.get eb
    rw [h1] at g1
    cases g1
    exact ⟨_, .ty n, _, _, rfl, .ty n, q _ H1 s1 (.bl _), .inr ⟨_, _, _, rfl, g3, h2, fun dx z => (by cases z; exact ⟨_, h3⟩), g2⟩⟩
  | _ => cases e
end
/-! ### facts -/
abbrev TabL := List (String × (Str × List Str))
def mkTab (K : PySem.W.Frag) (t : TabL) : Tab := ⟨fun c => (t.lookup c).map fun q => (He.ga K q.1, q.2)⟩
def excCB (K : PySem.W.Frag) (D : Addr) : Bool := He.eqO (PySem.W.findIn K (.ref D) "__getattribute__") (some (some (.builtin "BaseException.__getattribute__"))) && (He.eqO (PySem.W.findIn K (.ref D) "__getattr__") (some none) && (decide (PySem.W.subIn K (.ref D) (.type "BaseException") = some true) &&
  (PySem.W.hasDictIn K D && (He.eqO (PySem.W.findIn K (.ref D) "__class__") (some (some (.builtin "object.__class__"))) && (He.eqO (PySem.W.specialIn K (.builtin "object.__class__") "__get__") (some (some (.builtin "getset_descriptor.__get__"))) &&
  (decide (PySem.W.takesIn K (.builtin "object.__class__") = some true) && decide (PySem.W.mroIn K D (.type "object") = some true)))))))
theorem excCB_ok {K : PySem.W.Frag} {D : Addr} (h : excCB K D = true) : ExcC K D := by
  obtain ⟨h1, h⟩ := He.ba h
  obtain ⟨h2, h⟩ := He.ba h
  obtain ⟨h3, h⟩ := He.ba h
  obtain ⟨h4, h⟩ := He.ba h
  obtain ⟨h5, h⟩ := He.ba h
  obtain ⟨h6, h⟩ := He.ba h
  obtain ⟨h7, h8⟩ := He.ba h
  exact ⟨He.eqO_ok h1, He.eqO_ok h2, of_decide_eq_true h3, h4, He.eqO_ok h5, He.eqO_ok h6, of_decide_eq_true h7, of_decide_eq_true h8⟩
def isLB (K : PySem.W.Frag) (t : TabL) (cv : Value) (l : List (String × Bool)) : Bool := l.all fun p => match t.lookup p.1 with
  | some q => decide (PySem.W.kitOne K (.ref (He.ga K q.1)) cv = some p.2) && excCB K (He.ga K q.1)
  | none => false
theorem isLB_ok {K : PySem.W.Frag} {t : TabL} {cv : Value} : ∀ {l : List (String × Bool)}, isLB K t cv l = true → IsL K (mkTab K t) cv l
  | [], _ => .nil
  | (c, b) :: l, h => by
    obtain ⟨h1, h2⟩ := He.ba (show ((match t.lookup c with
      | some q => decide (PySem.W.kitOne K (.ref (He.ga K q.1)) cv = some b) && excCB K (He.ga K q.1)
      | none => false) && isLB K t cv l) = true from h)
    cases e : t.lookup c with
    | none => rw [e] at h1; cases h1
    | some q =>
      rw [e] at h1
      obtain ⟨h3, h4⟩ := He.ba h1
      exact .cons (C := He.ga K q.1) (ns := q.2) (by show (t.lookup c).map _ = _; rw [e]; rfl) (of_decide_eq_true h3) (excCB_ok h4) (isLB_ok h2)
def hdLB (K : PySem.W.Frag) (t : TabL) (cv : Value) (l : List (String × Bool)) : Bool := l.all fun p => match t.lookup p.1 with
  | some q => decide (PySem.W.exmOne K (.ref (He.ga K q.1)) cv = some p.2)
  | none => false
theorem hdLB_ok {K : PySem.W.Frag} {t : TabL} {cv : Value} : ∀ {l : List (String × Bool)}, hdLB K t cv l = true → HdL K (mkTab K t) cv l
  | [], _ => .nil
  | (c, b) :: l, h => by
    obtain ⟨h1, h2⟩ := He.ba (show ((match t.lookup c with
      | some q => decide (PySem.W.exmOne K (.ref (He.ga K q.1)) cv = some b)
      | none => false) && hdLB K t cv l) = true from h)
    cases e : t.lookup c with
    | none => rw [e] at h1; cases h1
    | some q =>
      rw [e] at h1
      exact .cons (C := He.ga K q.1) (ns := q.2) (by show (t.lookup c).map _ = _; rw [e]; rfl) (of_decide_eq_true h1) (hdLB_ok h2)
def xcB (K : PySem.W.Frag) (x : Str) : Bool := PySem.W.excIn K (He.ga K x) HandSPX.veTail "ValueError.__new__" && (PySem.W.keepIn K (.ref (He.ga K x)) && (decide (PySem.W.subIn K (.ref (He.ga K x)) (.type "BaseException") = some true) && decide (PySem.W.typeIn K (.ref (He.ga K x)) = some (.type "type"))))
theorem xcB_ok {K : PySem.W.Frag} {mg : Str → Option Value} {x : Str} (g : mg x = some (.ref (He.ga K x))) (h : xcB K x = true) : XcOk K mg x (He.ga K x) := by
  obtain ⟨h1, h⟩ := He.ba h
  obtain ⟨h2, h⟩ := He.ba h
  obtain ⟨h3, h4⟩ := He.ba h
  exact ⟨g, h1, h2, of_decide_eq_true h3, of_decide_eq_true h4⟩
def kitB2 (K : PySem.W.Frag) (t c : Value) (b : Bool) : Bool := decide (PySem.W.kitOne K t c = some b)
theorem kitB2_ok {K : PySem.W.Frag} {t c : Value} {b : Bool} (h : kitB2 K t c b = true) : PySem.W.kitOne K t c = some b := of_decide_eq_true h
/-! ### the Hook -/
abbrev AlL : Type := He.AlD × Bool
def obsLK (fa : List He.Fa) (fn : List He.DefD) (ex : List (PySem.W.Frag → Bool)) (K : PySem.W.Frag) : AlL := (He.obsD fa fn K, ex.all fun f => f K)
def obsLG (n : Nat) (fa : List He.Fa) (fn : List He.DefD) (ex : List (PySem.W.Frag → Bool)) (g : Addr → Option Obj) : AlL := obsLK fa fn ex (He.frG g (He.asD g n))
def valL (fn : List He.DefD) : AlL := (He.valD fn, true)
def SaysL (fa : List He.Fa) (fn : List He.DefD) (ex : List (PySem.W.Frag → Bool)) (K : PySem.W.Frag) : Prop := obsLK fa fn ex K = valL fn
def hookL (n : Nat) (fa : List He.Fa) (fn : List He.DefD) (ex : List (PySem.W.Frag → Bool)) : PySem.W.Hook where
  α := AlL
  obs := fun s => obsLG n fa fn ex s.heap.get?
  val := fun _ => valL fn
  says := fun _ h => ∃ K : PySem.W.Frag, K.In h ∧ SaysL fa fn ex K
  of := fun _ _ e => ⟨_, He.frG_in, e⟩
  keeps := fun _ _ _ ⟨K, hK, c⟩ k => ⟨K, PySem.W.Frag.In.keeps hK k, c⟩
theorem obsLG_eq {n : Nat} {fa : List He.Fa} {fn : List He.DefD} {ex : List (PySem.W.Frag → Bool)} {g : Addr → Option Obj} {s : Shared} (h : ∀ a, g a = s.heap.get? a) : obsLG n fa fn ex g = (hookL n fa fn ex).obs s := by
  have e : g = s.heap.get? := funext h
  rw [e] <;> rfl
section
variable {fa : List He.Fa} {fn : List He.DefD} {ex : List (PySem.W.Frag → Bool)} {K : PySem.W.Frag}
theorem SaysL.d (c : SaysL fa fn ex K) : He.SaysD fa fn K := congrArg (fun z : AlL => z.1) c
theorem SaysL.x (c : SaysL fa fn ex K) (i : Nat) {f : PySem.W.Frag → Bool} (h : ex[i]? = some f := by rfl) : f K = true := by
  have e : (ex.all fun f => f K) = true := congrArg (fun z : AlL => z.2) c
  exact List.all_eq_true.mp e f (List.mem_of_getElem? h)
end
/-! ### the law's end -/
theorem law_sp {K : PySem.W.Frag} {T : Tab} {G : Fn} {H : Hp} {a : Addr} {ns : List Int} (hG : G [.lst (ns.map DD.int)] [] = some (.ret (.dat (.bl true)), [])) (hS : SqL K H a (ns.map V.int)) : spD K T [false] G [.ref a] H (fun v _ => v = .bl true) fun _ _ _ => False := by
  have ra : ∀ ns : List Int, RepAll K T H (ns.map V.int) (ns.map DD.int) := fun ns => by
    induction ns with
    | nil => exact .nil
    | cons n ns ih => exact .cons (.int n) ih
  refine ⟨H, [], [.lst (ns.map DD.int)], [], [], [], .rd (.lst hS (ra ns)) .nil, .nil, ⟨fun a => by simp, fun a ha => by simp at ha, fun a ha => by simp at ha, Same.refl _, fun a o e _ => e⟩, ?_⟩
  rw [hG]
  intro v F' H' B A' _ _ _ w _
  cases w with
  | dat r => cases r; rfl
/-- a law: F gives the written part, the function object, the promise over every base -/
theorem walk_dl {l : PySem.W.OpenLaw} {n k : Nat} {q : Program} {loose : List Str} {XP : (Str → Option Value) → Heap → Prop} {YP : World → Heap → Prop} {d : DefRec} {CX : World → CXT} {x : Str}
    (hn : l.most = some n) (hn2 : n ≤ sizeLine) (hdf : d.params.defaults = []) (hr : Room k callerA)
    (F : ∀ (w : World) (mg : Str → Option Value) (fa : Addr) (h : Heap), YP w h → h.Ns mainGlobals mg → mg d.name = some (.ref fa) →
      ∃ (K : PySem.W.Frag) (fd : FuncData) (sp : Sp), K.In h ∧ (∀ (s : Shared) (u : Value), BindsTo s fd ⟨[u], []⟩ [(x, u)]) ∧
        (∀ (H : Hp) (a : Addr) (ns : List Int), ns.length ≤ n → Only H → SqL K H a (ns.map V.int) → sp [.ref a] H (fun v _ => v = .bl true) fun _ _ _ => False) ∧
        ∀ base : Heap, K.In base → base.Ns mainGlobals mg → FnOk l.prog w K mg base (CX w) k fa fd [x] sp)
    (hCX : ∀ (w : World) (H : Hp) (s : Shared) (e : Value) (s' : Shared), CX w [] H s (fun _ _ _ => False) e s' → False) :
    PySem.W.WalkO q loose XP YP l.row.toRowW d [] (fun f vs => PySem.call f vs) := by
  refine Att.attach_call hn hdf fun w s₀ s₁ mg mb fa o pm cd doc a vs ns G Y ho hd hcd hmg hobj hints hlen hg => ?_
  obtain ⟨K, fd, sp, KX, hb, hsp, hF⟩ := F w mg fa _ Y G.T.g hmg
  exact law_call KX G.T.g G.T.b G.T.builtins G.T.nolimit hg hobj hints (Nat.le_trans hlen hn2) hr hF hb (fun H hO hS => hsp H a ns hlen hO hS) fun H e s' => hCX w H s₁ e s'
theorem KB.ofN {K : PySem.W.Frag} {x qual : Str} {params : Arguments} {body : List Stmt} {scope : Scope} {f : Addr} {fd : FuncData} {ps ks : List Str} {n : Nat} {sel : List Src} (F : FunD K x qual params body scope [] [] f fd)
    (h : ∀ (kV doc pm : Value) (an : Option Addr) (cdv ct : Value) (us ws : List Value), us.length = n → ws.length = ks.length →
      bindArgs (PySem.W.fnOf x qual params body scope .none kV doc pm an cdv ct) ⟨us, ks.zip ws⟩ = pure (ps.zip (arr sel us ws []))) : KB K fd ps n ks sel [] := by
  obtain ⟨oc, od, dV, kV, doc, pm, an, cdv, ct, osl, rfl, lk, hcd, hD, hK⟩ := F.ex
  rcases hD with ⟨_, rfl⟩ | ⟨e, _⟩
  · exact ⟨[], .nil, fun s us ws X l1 l2 => .of_eq (h kV doc pm an cdv ct us ws l1 l2)⟩
  · exact absurd rfl e
theorem cx0 (H : Hp) (s : Shared) (e : Value) (s' : Shared) {P : Program} {w : World} (h : L2.CX P w [] H s (fun _ _ _ => False) e s') : False := by
  obtain ⟨_, _, _, _, _, _, _, _, _, _, _, _, z⟩ := h
  exact z
end DL

/-! DL11: plain: what the data's operators come to. -/
namespace DL
open PySem PySem.Spec PyProof.Rows L2
theorem log2_lt {n k : Nat} (h : n < 2 ^ k) : n.log2 < k + 1 := by
  by_cases h0 : n = 0
  · subst h0
    rw [Nat.log2_zero]
    omega
  · have := (Nat.log2_lt h0).mpr h
    omega
theorem mulFits_of {i j : Int} {m n : Nat} (hi : i.natAbs < 2 ^ m) (hj : j.natAbs < 2 ^ n) (h : m + n ≤ 100000000 := by decide) : mulFits i j = true := by
  unfold mulFits
  have h1 := log2_lt hi
  have h2 := log2_lt hj
  exact decide_eq_true (by omega)
theorem dMul_of {i j : Int} {m n : Nat} (hi : i.natAbs < 2 ^ m) (hj : j.natAbs < 2 ^ n) (h : m + n ≤ 100000000 := by decide) : dMul (.int i) (.int j) = some (.int (i * j)) := by
  unfold dMul
  dsimp only
  rw [if_pos (mulFits_of hi hj h)]
theorem dDiv_of {i j : Int} (h0 : j ≠ 0) {n : Nat} (hj : j.natAbs < 2 ^ n) (h : n ≤ 8000 := by decide) : dDiv (.int i) (.int j) = some (.int (i.fdiv j)) := by
  unfold dDiv
  dsimp only
  have h2 := log2_lt hj
  rw [if_pos ⟨h0, by omega⟩]
theorem dDiv_pos {i j : Int} (h0 : 0 < j) {n : Nat} (hj : j.natAbs < 2 ^ n) (h : n ≤ 8000 := by decide) : dDiv (.int i) (.int j) = some (.int (i / j)) := by
  rw [dDiv_of (by omega) hj h, Int.fdiv_eq_ediv_of_nonneg _ (by omega)]
theorem dMod_of {i j : Int} (h0 : j ≠ 0) : dMod (.int i) (.int j) = some (.int (i.fmod j)) := by
  unfold dMod
  dsimp only
  rw [if_pos h0]
theorem dMod_pos {i j : Int} (h0 : 0 < j) : dMod (.int i) (.int j) = some (.int (i % j)) := by
  rw [dMod_of (by omega), Int.fmod_eq_emod_of_nonneg _ (by omega)]
theorem dPow_of {i : Int} {n : Nat} (hi : i.natAbs < 2 ^ 64) (hn : n ≤ 1000000) : dPow (.int i) (.int (n : Int)) = some (.int (i ^ n)) := by
  unfold dPow
  dsimp only
  rw [if_pos ⟨by omega, by omega, hi⟩]
  rfl
theorem eqB_int {i j : Int} : eqB (.int i) (.int j) = (i == j) := rfl
theorem dEq_int {i j : Int} : dEq (.int i) (.int j) = some (.bl (i == j)) := rfl
theorem dNe_int {i j : Int} : dNe (.int i) (.int j) = some (.bl (!(i == j))) := rfl
theorem dEq_tup2 {a b c d : Int} : dEq (.tup [.int a, .int b]) (.tup [.int c, .int d]) = some (.bl (a == c && b == d)) := by
  show (if _ then some (DD.bl ((a == c) && ((b == d) && true))) else none) = _
  rw [Bool.and_true, if_pos (by rfl)]
theorem dNe_tup2 {a b c d : Int} : dNe (.tup [.int a, .int b]) (.tup [.int c, .int d]) = some (.bl (!(a == c && b == d))) := by
  show (if _ then some (DD.bl (!((a == c) && ((b == d) && true)))) else none) = _
  rw [Bool.and_true, if_pos (by rfl)]
end DL

/-! DL12: any expression looked at without its leaving a trace; list comprehensions. -/
namespace DL
open PySem PySem.Spec PyProof.Rows L2
/-! ### a step as a pure expression: all that it reads is lent -/
def slotOf : Option DD → Slot
  | some d => .own (.dat d)
  | none => .no
def gE (f : Act OO) : View → Option DD := fun w => match f ⟨w.map slotOf, []⟩ with
  | .ok o _ => some o.view
  | _ => none
def gTe (f : Act Bool) : View → Option Bool := fun w => match f ⟨w.map slotOf, []⟩ with
  | .ok b _ => some b
  | _ => none
section
variable {K : PySem.W.Frag} {T : Tab} {W : WX}
theorem envV_tail {H : Hp} {x : Option V} {σ : L2.St} {o : Option DD} {w : View} (h : EnvV K T H (x :: σ) (o :: w)) : EnvV K T H σ w := ⟨by simpa using h.len, fun i d e => by
  obtain ⟨v, h1, h2⟩ := h.ix (i + 1) d (by simpa using e)
  exact ⟨v, by simpa using h1, h2⟩⟩
theorem envR_view {H : Hp} : ∀ {w : View} {σ : L2.St}, EnvV K T H σ w → EnvR K T [] H H σ (w.map slotOf) []
  | [], [], _ => .nil
  | [], _ :: _, h => by simpa using h.len
  | _ :: _, [], h => by simpa using h.len
  | o :: w, x :: σ, h => by
    have r := envR_view (w := w) (σ := σ) (envV_tail h)
    cases o with
    | none => exact EnvR.cons (.no (x := x)) r
    | some d =>
      obtain ⟨v, h1, h2⟩ := h.ix 0 d rfl
      have e : x = some v := by simpa using h1
      subst e
      exact EnvR.cons (.own (.dat h2)) r
theorem sa_lend {H : Hp} {w : View} {σ : L2.St} (h : EnvV K T H σ w) : SA K T [] H H σ ⟨w.map slotOf, []⟩ [] :=
  ⟨[], [], envR_view h, .nil, ⟨fun a => by simp, fun a ha => by simp at ha, fun a ha => by simp at ha, Same.refl _, fun a o e _ => e⟩⟩
theorem vok_e {t : TE} {f : Act OO} (h : EOk K T W0 t f) : VOk K T t (gE f) := fun σ w H d En e Q q => by
  refine h [] σ _ H H [] Q (sa_lend En) ?_
  unfold gE at e
  split at e
  · rename_i o ρ' z
    cases e
    rw [z]
    intro F' H' e1 k1 v B s' w'
    exact q v H' (e1.trans s'.ga.sm) (w'.rep s'.ga.sm fun _ _ => rfl)
  · cases e
theorem vok_te {t : TT} {f : Act Bool} (h : EOkT K T W0 t f) : VOkT K T t (gTe f) := fun σ w H d En e Q q => by
  refine h [] σ _ H H [] Q (sa_lend En) ?_
  unfold gTe at e
  split at e
  · rename_i o ρ' z
    cases e
    rw [z]
    intro F' H' e1 k1 s'
    exact q H' (e1.trans s'.ga.sm)
  · cases e
end
section
variable {X : Cx} {T : Tab} {e : Expr} {f : Act OO}
theorem xv_e (h : XE X T W0 e f) : XV X T e (gE f) := let ⟨_, p, v⟩ := h; ⟨_, p, vok_e v⟩
theorem xt_e {f : Act Bool} (h : XTe X T W0 e f) : XT X T e (gTe f) := let ⟨_, p, v⟩ := h; ⟨_, p, vok_te v⟩
end
/-! ### list comprehensions -/
def Env.wipe (ρ : Env) : List Nat → Env
  | [] => ρ
  | v :: vs => (Env.wipe ρ vs).put v .no
section
variable {K : PySem.W.Frag} {T : Tab} {F H : Hp} {ps : List V} {σ : L2.St} {ρ : Env} {S : List Addr}
theorem SA.wipe (s : SA K T ps F H σ ρ S) : ∀ vs : List Nat, SA K T ps F H (L2.wipe σ vs) (ρ.wipe vs) S
  | [] => s
  | v :: vs => (SA.wipe s vs).drop'
theorem EnvR.undrop : ∀ {σ : L2.St} {ss : List Slot} {A : List Addr} {i : Nat} {x : Option V}, EnvR K T ps F H (σ.set i x) ss A → ∃ A', EnvR K T ps F H σ (ss.set i .no) A' ∧ ∀ a, A'.count a ≤ A.count a
  | [], _, _, _, _, .nil => ⟨[], .nil, fun _ => Nat.le_refl _⟩
  | y :: σ, _, _, 0, x, .cons (A := A) (B := B) h r => ⟨B, by
      have q := EnvR.cons (.no (x := y)) r
      exact q, fun a => by rw [List.count_append]; omega⟩
  | y :: σ, _, _, i + 1, x, .cons (A := A) (B := B) h r => by
    obtain ⟨B', h1, h2⟩ := EnvR.undrop (σ := σ) (i := i) (x := x) r
    exact ⟨A ++ B', .cons h h1, fun a => by have := h2 a; simp only [List.count_append]; omega⟩
theorem SA.undrop {i : Nat} {x : Option V} (s : SA K T ps F H (σ.set i x) ρ S) : SA K T ps F H σ (ρ.put i .no) S := by
  obtain ⟨A, B, r, b, g⟩ := s
  obtain ⟨A', r', hc⟩ := r.undrop
  exact ⟨A', B, r', b, g.sub fun a => by have := hc a; simp only [List.count_append]; omega⟩
theorem SA.unwipe : ∀ {vs : List Nat} {ρ : Env}, SA K T ps F H (L2.wipe σ vs) ρ S → ∃ ρ', ρ' = vs.foldl (fun r v => r.put v .no) ρ ∧ SA K T ps F H σ ρ' S
  | [], ρ, s => ⟨ρ, rfl, s⟩
  | v :: vs, ρ, s => by
    have s1 : SA K T ps F H (L2.wipe σ vs) (ρ.put v .no) S := SA.undrop (x := none) s
    obtain ⟨ρ', e, s2⟩ := SA.unwipe s1
    exact ⟨ρ', e, s2⟩
/-- a list of the frame is changed -/
theorem SA.upd {p : Addr} {vs vs' : List V} {S' S2 : List Addr} (s : SA K T ps F H σ ρ S2) (hc : ∀ a, (p :: S').count a ≤ S2.count a) : SA K T ps F (L2.upd H p (.lst vs')) σ ρ (p :: S') := by
  obtain ⟨A, B, r, b, g⟩ := s
  have g' : GA F H (A ++ (B ++ (p :: S'))) := g.sub fun a => by have := hc a; simp only [List.count_append]; omega
  have np : ∀ a, 0 < (A ++ B).count a → a ≠ p := fun a ha z => by
    subst z
    have := g'.nd a
    simp only [List.count_append, List.count_cons_self] at this ha
    omega
  have fp : F p = none := g'.fr p (by simp only [List.count_append, List.count_cons_self]; omega)
  refine ⟨A, B, r.frame (fun _ _ z => z) fun a ha => upd_ne (np a (by simp only [List.count_append]; omega)), b.frame (fun _ _ z => z) fun a ha => upd_ne (np a (by simp only [List.count_append]; omega)), ⟨g'.nd, g'.fr, fun a ha => ?_, fun a u e => ?_, fun a u e z => ?_⟩⟩
  · by_cases h : a = p
    · subst h; rw [upd_same]; simp
    · rw [upd_ne h]; exact g'.th a ha
  · rw [upd_ne (fun z => by rw [z, fp] at e; cases e)]
    exact g'.sm a u e
  · by_cases h : a = p
    · subst h
      rw [upd_same] at e
      cases e
      cases z
    · rw [upd_ne h] at e
      exact g'.ft a u e z
end
def unwipe (ρ : Env) (vs : List Nat) : Env := vs.foldl (fun r v => r.put v .no) ρ
def lcLoop (vs : List Nat) (u : UT) (ft : Act Bool) (fe : Act OO) : List DD → List OO → Env → Res OO
  | [], acc, ρ => .ok (.lst acc) (unwipe ρ vs)
  | d :: ds, acc, ρ => match u d ρ with
    | none => .bad
    | some ρ1 => match ft ρ1 with
      | .ok true ρ2 => match fe ρ2 with
        | .ok o ρ3 => if acc.length < 1000 then lcLoop vs u ft fe ds (acc ++ [o]) (ρ3.wipe vs) else .bad
        | _ => .bad
      | .ok false ρ2 => lcLoop vs u ft fe ds acc (ρ2.wipe vs)
      | _ => .bad
def sLc (vs : List Nat) (fi : Act (List DD)) (u : UT) (ft : Act Bool) (fe : Act OO) : Act OO := sBind fi fun ds ρ => lcLoop vs u ft fe ds [] (ρ.wipe vs)
/-- a target that sets the slots vs alone -/
def TgW (g : TG) (vs : List Nat) : Prop := ∀ v σ H Q, g v σ H Q → g v σ H fun σ2 H2 => wipe σ2 vs = wipe σ vs ∧ Q σ2 H2
def TgsW (g : TGs) (vs : List Nat) : Prop := ∀ v σ H Q, g v σ H Q → g v σ H fun σ2 H2 => wipe σ2 vs = wipe σ vs ∧ Q σ2 H2
theorem wipe_set {σ : L2.St} {i : Nat} {x : Option V} : ∀ {vs : List Nat}, i ∈ vs → wipe (σ.set i x) vs = wipe σ vs
  | [], h => by cases h
  | v :: vs, h => by
    show (wipe (σ.set i x) vs).set v none = (wipe σ vs).set v none
    by_cases hi : i ∈ vs
    · rw [wipe_set hi]
    · have e : i = v := by
        rcases List.mem_cons.mp h with h | h
        · exact h
        · exact absurd h hi
      subst e
      have key : ∀ ws : List Nat, i ∉ ws → wipe (σ.set i x) ws = (wipe σ ws).set i x := fun ws => by
        induction ws with
        | nil => intro _; rfl
        | cons w ws ih =>
          intro hw
          rw [List.mem_cons, not_or] at hw
          show (wipe (σ.set i x) ws).set w none = ((wipe σ ws).set w none).set i x
          rw [ih hw.2, List.set_comm _ _ hw.1]
      rw [key vs hi, List.set_set]
theorem tgw_name {i : Nat} {vs : List Nat} (h : i ∈ vs) : TgW (gName i) vs := fun v σ H Q q => ⟨wipe_set h, q⟩
theorem tgsw_nil {vs : List Nat} : TgsW L2.gNil vs := fun v σ H Q ⟨e, q⟩ => ⟨e, rfl, q⟩
/-- targets' readings: monotone, they set the slots vs alone -/
structure Tgt (g : TG) (vs : List Nat) : Prop where
  m : ∀ v σ H (Q Q' : L2.St → Hp → Prop), (∀ σ2 H2, Q σ2 H2 → Q' σ2 H2) → g v σ H Q → g v σ H Q'
  w : TgW g vs
structure Tgts (g : TGs) (vs : List Nat) : Prop where
  m : ∀ v σ H (Q Q' : L2.St → Hp → Prop), (∀ σ2 H2, Q σ2 H2 → Q' σ2 H2) → g v σ H Q → g v σ H Q'
  w : TgsW g vs
theorem tgt_name {i : Nat} {vs : List Nat} (h : i ∈ vs) : Tgt (gName i) vs := ⟨fun v σ H Q Q' k q => k _ _ q, tgw_name h⟩
theorem tgts_nil {vs : List Nat} : Tgts L2.gNil vs := ⟨fun v σ H Q Q' k ⟨e, q⟩ => ⟨e, k _ _ q⟩, tgsw_nil⟩
theorem tgts_cons {g : TG} {gs : TGs} {vs : List Nat} (h : Tgt g vs) (hr : Tgts gs vs) : Tgts (L2.gCons g gs) vs :=
  ⟨fun v σ H Q Q' k ⟨x, r, e, q⟩ => ⟨x, r, e, h.m _ _ _ _ _ (fun σ2 H2 z => hr.m _ _ _ _ _ k z) q⟩,
   fun v σ H Q ⟨x, r, e, q⟩ => ⟨x, r, e, h.m _ _ _ _ _ (fun σ2 H2 ⟨e1, z⟩ => hr.m _ _ _ _ _ (fun σ3 H3 ⟨e2, z2⟩ => ⟨e2.trans e1, z2⟩) (hr.w _ _ _ _ z)) (h.w _ _ _ _ q)⟩⟩
theorem tgt_tup {K : PySem.W.Frag} {n : Nat} {gs : TGs} {vs : List Nat} (hr : Tgts gs vs) : Tgt (L2.gTup K n gs) vs :=
  ⟨fun v σ H Q Q' k ⟨a, xs, e, h1, h2, q⟩ => ⟨a, xs, e, h1, h2, hr.m _ _ _ _ _ k q⟩, fun v σ H Q ⟨a, xs, e, h1, h2, q⟩ => ⟨a, xs, e, h1, h2, hr.w _ _ _ _ q⟩⟩
theorem wipe_comm (σ : L2.St) (v : Nat) : ∀ vs : List Nat, wipe (σ.set v none) vs = (wipe σ vs).set v none
  | [] => rfl
  | w :: ws => by
    show (wipe (σ.set v none) ws).set w none = ((wipe σ ws).set w none).set v none
    rw [wipe_comm σ v ws]
    by_cases h : v = w
    · subst h; rfl
    · rw [List.set_comm _ _ h]
theorem wipe_wipe (σ : L2.St) : ∀ vs : List Nat, wipe (wipe σ vs) vs = wipe σ vs
  | [] => rfl
  | v :: vs => by
    show (wipe ((wipe σ vs).set v none) vs).set v none = (wipe σ vs).set v none
    rw [wipe_comm, wipe_wipe σ vs, List.set_set]
section
variable {K : PySem.W.Frag} {T : Tab} {W : WX}
theorem eok_lc {wi : TI} {g : TG} {tt : TT} {te : TE} {vs : List Nat} {fi : Act (List DD)} {u : UT} {ft : Act Bool} {fe : Act OO} (hi : IOk K T W wi fi) (hg : GOk K T g u) (hw : Tgt g vs) (ht : EOkT K T W0 tt ft) (he : EOk K T W0 te fe) :
    EOk K T W (tLc wi g tt te vs) (sLc vs fi u ft fe) := fun ps σ ρ F H S Q s p => by
  refine hi ps σ ρ F H S _ s (PostX.imp (PostX.bind p) fun ds ρ1 F1 H1 e1 k1 p1 J s1 wk => ?_)
  intro D hD
  have s1w := (s1.wipe vs).new (q := D) (o := .lst []) hD rfl
  let Inv (i : Nat) (H' : Hp) : Prop := i ≤ ds.length ∧ ∃ ρ' F' acc accv A, SA K T ps F' H' (wipe σ vs) ρ' (D :: (A ++ S)) ∧ H' D = some (.lst accv) ∧ OwnAll K T F' H' accv acc A ∧ Same F1 F' ∧ KeepL S H1 H' ∧
    PostX K T W ps σ F' H' S (fun o ρ' F' H' => ∀ v B, SA K T ps F' H' σ ρ' (B ++ S) → Own K T F' H' v o B → Q v H') (lcLoop vs u ft fe (ds.drop i) acc ρ')
  refine ⟨fun i m H' => m = ds.length - i ∧ Inv i H', ⟨ds.length, rfl, Nat.zero_le _, _, F1, [], [], [], s1w, upd_same, .nil, Same.refl F1, s1.keep (same_new hD), PostX.later p1 (Same.refl F1) (s1.keep (same_new hD))⟩, ?_⟩
  rintro i m H2 ⟨rfl, hi', ρ2, F2, acc, accv, A, s2, hD2, oa, e2, k2, p2⟩
  by_cases hlt : i < ds.length
  · refine .inr ⟨wk.go i H2 (e2.trans s2.ga.sm) hlt, Inv (i + 1), fun H' h => ⟨ds.length - (i + 1), by omega, rfl, h⟩, fun x H3 y => ?_⟩
    obtain ⟨d, hd, sm, rp⟩ := wk.yld i H2 x H3 hlt (e2.trans s2.ga.sm) y
    have edrop : ds.drop i = d :: ds.drop (i + 1) := by
      rw [List.drop_eq_getElem_cons hlt]
      rw [List.getElem?_eq_getElem hlt] at hd
      rw [Option.some.inj hd]
    rw [edrop] at p2
    have s3 := s2.ext sm
    have g3 := grow_same s2.ga.sm sm
    have r3 := rp F2 e2 s2.ga.sm
    have k3 := s2.keep sm
    have cS : ∀ a, 0 < S.count a → 0 < (D :: (A ++ S)).count a := fun a ha => by simp only [List.count_cons, List.count_append]; omega
    have cA : ∀ a, 0 < A.count a → 0 < (D :: (A ++ S)).count a := fun a ha => by simp only [List.count_cons, List.count_append]; omega
    have cD : 0 < (D :: (A ++ S)).count D := by rw [List.count_cons_self]; omega
    have kS : ∀ {H' : Hp}, KeepL (D :: (A ++ S)) H2 H' → KeepL S H2 H' := fun k a ha => k a (cS a ha)
    have main : g x (wipe σ vs) H3 fun σ2 H4 => wipe σ2 vs = wipe σ vs → tt σ2 H4 fun b H5 => if b = true then te σ2 H5 fun y H6 => ∃ acc, H6 D = some (.lst acc) ∧ acc.length < sizeLine ∧ Inv (i + 1) (upd H6 D (.lst (acc ++ [y]))) else Inv (i + 1) H5 := by
      refine hg ps _ ρ2 (grow F2 H3) H3 (D :: (A ++ S)) x d _ s3 r3 ?_
      unfold lcLoop at p2
      cases z : u d ρ2 with
      | none => rw [z] at p2; exact p2
      | some ρ4 =>
        rw [z] at p2
        intro σ4 F4 H4 e4 k4 s4 hw4
        dsimp only at p2
        refine ht ps σ4 ρ4 F4 H4 (D :: (A ++ S)) _ s4 ?_
        cases z2 : ft ρ4 with
        | bad => rw [z2] at p2; exact p2
        | ex c es ρ5 => rw [z2] at p2; exact p2.elim
        | ok b ρ5 =>
          rw [z2] at p2
          intro F5 H5 e5 k5 s5
          have k25 : KeepL (D :: (A ++ S)) H2 H5 := (k3.trans k4).trans k5
          have f25 : Same F2 F5 := (g3.trans e4).trans e5
          cases b with
          | false =>
            refine iteF ⟨hlt, ρ5.wipe vs, F5, acc, accv, A, ?_, (k25 D cD).trans hD2, oa.frame f25 fun a ha => k25 a (cA a ha), e2.trans f25, k2.trans (kS k25), PostX.later p2 f25 (kS k25)⟩
            have q := s5.wipe vs
            rw [hw4] at q
            exact q
          | true =>
            refine iteT ?_
            refine he ps σ4 ρ5 F5 H5 (D :: (A ++ S)) _ s5 ?_
            dsimp only at p2
            cases z3 : fe ρ5 with
            | bad => rw [z3] at p2; exact p2
            | ex c es ρ6 => rw [z3] at p2; exact p2.elim
            | ok o ρ6 =>
              rw [z3] at p2
              dsimp only at p2
              split at p2
              · rename_i hz
                intro F6 H6 e6 k6 v B s6 w6
                have k26 : KeepL (D :: (A ++ S)) H2 H6 := k25.trans k6
                have f26 : Same F2 F6 := f25.trans e6
                have nd := s6.ga.nd D
                have nA : ∀ a, 0 < A.count a → a ≠ D := fun a ha z => by
                  subst z
                  simp only [List.count_append, List.count_cons_self] at nd ha
                  omega
                have nB : ∀ a, 0 < B.count a → a ≠ D := fun a ha z => by
                  subst z
                  simp only [List.count_append, List.count_cons_self] at nd ha
                  omega
                have q := s6.wipe vs
                rw [hw4] at q
                have sU := q.upd (p := D) (vs := accv) (vs' := accv ++ [v]) (S' := (A ++ B) ++ S) fun a => by simp only [List.count_append, List.count_cons]; omega
                have kU : KeepL S H6 (upd H6 D (.lst (accv ++ [v]))) := fun a ha => upd_ne fun z => by
                  subst z
                  simp only [List.count_append, List.count_cons_self] at nd ha
                  omega
                have oa' := OwnAll.append (oa.frame f26 (H' := upd H6 D (.lst (accv ++ [v]))) fun a ha => (upd_ne (nA a ha)).trans (k26 a (cA a ha))) (.cons (w6.frame (Same.refl F6) (H' := upd H6 D (.lst (accv ++ [v]))) fun a ha => upd_ne (nB a ha)) .nil)
                rw [List.append_nil] at oa'
                refine ⟨accv, (k26 D cD).trans hD2, by rw [oa.length]; exact Nat.lt_of_lt_of_le hz (by decide), hlt, ρ6.wipe vs, F6, acc ++ [o], accv ++ [v], A ++ B, sU, upd_same, oa', e2.trans f26, (k2.trans (kS k26)).trans kU, PostX.later p2 f26 ((kS k26).trans kU)⟩
              · exact p2.elim
    have main2 := hw.m _ _ _ _ _ (fun σ2 H4 ⟨e, q⟩ => (⟨e.trans (wipe_wipe σ vs), q (e.trans (wipe_wipe σ vs))⟩ : wipe σ2 vs = wipe σ vs ∧ _)) (hw.w _ _ _ _ main)
    exact main2
  · have ei : i = ds.length := by omega
    subst ei
    refine .inl ⟨wk.stop _ H2 (e2.trans s2.ga.sm) (Nat.le_refl _), ?_⟩
    rw [List.drop_length] at p2
    obtain ⟨ρ', e, s'⟩ := SA.unwipe s2
    have e' : ρ' = unwipe ρ2 vs := e
    subst e'
    exact p2 F2 H2 (Same.refl F2) .refl (.ref D) (D :: A) s' (.lst hD2 oa)
end
def XGw (X : Cx) (T : Tab) (vs : List Nat) (tg : Expr) (u : UT) : Prop := ∃ g : TG, PG X tg g ∧ GOk X.K T g u ∧ Tgt g vs
def XGws (X : Cx) (T : Tab) (vs : List Nat) (ts : List Expr) (u : List DD → Env → Option Env) : Prop := ∃ g : TGs, PGs X ts g ∧ GOks X.K T g u ∧ Tgts g vs
def XTs (X : Cx) (T : Tab) (ifs : List Expr) (f : Act Bool) : Prop := ∃ t : TT, PTs X ifs t ∧ EOkT X.K T W0 t f
section
variable {X : Cx} {T : Tab} {W : WX} {vs : List Nat} {pos : Pos}
theorem xgw_name (i : Nat) {y : Str} (hN : X.N.Nodup) (hv : i ∈ vs) (hi : X.N[i]? = some y := by rfl) (hx : Loc X.env.scope y := by first | exact Or.inl rfl | exact Or.inr rfl) (hf : X.fn y = true ∨ X.env.scope.names.lookup y = some .local := by first | exact .inl rfl | exact .inr rfl) : XGw X T vs (.Name y pos) (uName i) := ⟨_, pg_name hN hi hx hf, gok_name, tgt_name hv⟩
theorem xgws_nil : XGws X T vs [] uNil := ⟨_, pgs_nil, gok_nil, tgts_nil⟩
theorem xgws_cons {tg : Expr} {ts : List Expr} {u : UT} {us : List DD → Env → Option Env} (h : XGw X T vs tg u) (hr : XGws X T vs ts us) (hs : (assignEach (tg :: ts) X.env).map (·.2) = assign tg X.env :: (assignEach ts X.env).map (·.2) := by rfl) : XGws X T vs (tg :: ts) (uCons u us) := let ⟨_, q, v, w⟩ := h; let ⟨_, q2, v2, w2⟩ := hr; ⟨_, pgs_cons q q2 hs, gok_cons v v2, tgts_cons w w2⟩
theorem xgw_tup {ts : List Expr} {us : List DD → Env → Option Env} {kk : Nat} {n : Nat} (hc : X.calm = true) (h : XGws X T vs ts us) (hn : (assignEach ts X.env).length = n := by rfl) (hst : (assignEach ts X.env).findIdx? (·.1) = none := by rfl) : XGw X T vs (.Tuple ts kk pos) (uTup n us) :=
  let ⟨_, q, v, w⟩ := h; ⟨_, pg_tup hc q hn hst, gok_tup v, tgt_tup w⟩
theorem xts_nil : XTs X T [] (sRet true) := ⟨_, pts_nil, fun ps σ ρ F H S Q s p => PostX.now p s⟩
theorem xts_one {c : Expr} {f : Act Bool} (h : XTe X T W0 c f) : XTs X T [c] f := let ⟨_, p, v⟩ := h; ⟨_, pts_one p, v⟩
variable {elt tg iter : Expr} {ifs : List Expr} {scope : Scope} {own : List (Str × Nat)} {fi : Act (List DD)} {u : UT} {ft : Act Bool} {fe : Act OO}
theorem lc_all (hi : XI X T W tg iter fi) (hg : ∀ (s : Shared) (H : Hp) (C : Addr) (cl : List (Str × Addr)) (fp : List Addr), XGw (X.blk s H scope (compEnvC scope cl C X.env) fp) T (own.map (·.2)) tg u)
    (ht : ∀ (s : Shared) (H : Hp) (C : Addr) (cl : List (Str × Addr)) (fp : List Addr), XTs (X.blk s H scope (compEnvC scope cl C X.env) fp) T ifs ft)
    (he : ∀ (s : Shared) (H : Hp) (C : Addr) (cl : List (Str × Addr)) (fp : List Addr), XE (X.blk s H scope (compEnvC scope cl C X.env) fp) T W0 elt fe) :
    ∃ (wi : TI) (g : TG) (tt : TT) (te : TE), PI X tg iter wi ∧ (∀ (s : Shared) (H : Hp) (C : Addr) (cl : List (Str × Addr)) (fp : List Addr), PG (X.blk s H scope (compEnvC scope cl C X.env) fp) tg g) ∧
      (∀ (s : Shared) (H : Hp) (C : Addr) (cl : List (Str × Addr)) (fp : List Addr), PTs (X.blk s H scope (compEnvC scope cl C X.env) fp) ifs tt) ∧ (∀ (s : Shared) (H : Hp) (C : Addr) (cl : List (Str × Addr)) (fp : List Addr), PE (X.blk s H scope (compEnvC scope cl C X.env) fp) elt te) ∧
      EOk X.K T W (tLc wi g tt te (own.map (·.2))) (sLc (own.map (·.2)) fi u ft fe) := by
  obtain ⟨wi, i1, i2⟩ := hi
  refine ⟨wi, fun v σ H Q => ∀ (s : Shared) (H0 : Hp) (C : Addr) (cl : List (Str × Addr)) (fp : List Addr), ∃ g, (PG (X.blk s H0 scope (compEnvC scope cl C X.env) fp) tg g ∧ Tgt g (own.map (·.2))) ∧ g v σ H Q,
    fun σ H Q => ∀ (s : Shared) (H0 : Hp) (C : Addr) (cl : List (Str × Addr)) (fp : List Addr), ∃ t, PTs (X.blk s H0 scope (compEnvC scope cl C X.env) fp) ifs t ∧ t σ H Q,
    fun σ H Q => ∀ (s : Shared) (H0 : Hp) (C : Addr) (cl : List (Str × Addr)) (fp : List Addr), ∃ t, PE (X.blk s H0 scope (compEnvC scope cl C X.env) fp) elt t ∧ t σ H Q, i1, ?_, ?_, ?_, eok_lc i2 ?_ ⟨?_, ?_⟩ ?_ ?_⟩
  · refine fun s H0 C cl fp => ⟨fun pins s1 σ H v x Q I r h => ?_⟩
    obtain ⟨g, ⟨p, _⟩, q⟩ := h s H0 C cl fp
    exact p.run pins s1 σ H v x Q I r q
  · refine fun s H0 C cl fp => ⟨fun pins s1 σ H Q I h => ?_⟩
    obtain ⟨t, p, q⟩ := h s H0 C cl fp
    exact p.run pins s1 σ H Q I q
  · refine fun s H0 C cl fp => ⟨fun pins s1 σ H Q I h => ?_⟩
    obtain ⟨t, p, q⟩ := h s H0 C cl fp
    exact p.run pins s1 σ H Q I q
  · intro ps σ ρ F H S v d Q sa r p s H0 C cl fp
    obtain ⟨g, g1, g2, g3⟩ := hg s H0 C cl fp
    exact ⟨g, ⟨g1, g3⟩, g2 ps σ ρ F H S v d Q sa r p⟩
  · intro v σ H Q Q' k q s H0 C cl fp
    obtain ⟨g, ⟨g1, g3⟩, q⟩ := q s H0 C cl fp
    exact ⟨g, ⟨g1, g3⟩, g3.m _ _ _ _ _ k q⟩
  · intro v σ H Q q s H0 C cl fp
    obtain ⟨g, ⟨g1, g3⟩, q⟩ := q s H0 C cl fp
    exact ⟨g, ⟨g1, g3⟩, g3.w _ _ _ _ q⟩
  · intro ps σ ρ F H S Q sa p s H0 C cl fp
    obtain ⟨t, t1, t2⟩ := ht s H0 C cl fp
    exact ⟨t, t1, t2 ps σ ρ F H S Q sa p⟩
  · intro ps σ ρ F H S Q sa p s H0 C cl fp
    obtain ⟨t, t1, t2⟩ := he s H0 C cl fp
    exact ⟨t, t1, t2 ps σ ρ F H S Q sa p⟩
theorem xe_lc (own : List (Str × Nat)) (hc : X.calm = true) (hN : X.N.Nodup) (hi : XI X T W tg iter fi) (hg : ∀ (s : Shared) (H : Hp) (C : Addr) (cl : List (Str × Addr)) (fp : List Addr), XGw (X.blk s H scope (compEnvC scope cl C X.env) fp) T (own.map (·.2)) tg u)
    (ht : ∀ (s : Shared) (H : Hp) (C : Addr) (cl : List (Str × Addr)) (fp : List Addr), XTs (X.blk s H scope (compEnvC scope cl C X.env) fp) T ifs ft)
    (he : ∀ (s : Shared) (H : Hp) (C : Addr) (cl : List (Str × Addr)) (fp : List Addr), XE (X.blk s H scope (compEnvC scope cl C X.env) fp) T W0 elt fe) (ok : blkC X.N X.env.scope scope own = true := by decide +kernel)
    (hs : ∀ x, foldedSetIterable iter X.env x = pure x := by intro _; rfl) : XE X T W (.ListComp elt [⟨tg, iter, ifs, 0⟩] scope pos) (sLc (own.map (·.2)) fi u ft fe) :=
  let ⟨_, _, _, _, q1, q2, q3, q4, v⟩ := lc_all hi hg ht he; ⟨_, pe_lc hc hN q1 (blkOk_by ok) q2 q3 q4 hs, v⟩
theorem xs_setLc (i : Nat) (own : List (Str × Nat)) {y : Str} {py spos : Pos} (hc : X.calm = true) (hN : X.N.Nodup) (hi : XI X T W tg iter fi) (hg : ∀ (s : Shared) (H : Hp) (C : Addr) (cl : List (Str × Addr)) (fp : List Addr), XGw (X.blk s H scope (compEnvC scope cl C X.env) fp) T (own.map (·.2)) tg u)
    (ht : ∀ (s : Shared) (H : Hp) (C : Addr) (cl : List (Str × Addr)) (fp : List Addr), XTs (X.blk s H scope (compEnvC scope cl C X.env) fp) T ifs ft)
    (he : ∀ (s : Shared) (H : Hp) (C : Addr) (cl : List (Str × Addr)) (fp : List Addr), XE (X.blk s H scope (compEnvC scope cl C X.env) fp) T W0 elt fe) (ok : blkC X.N X.env.scope scope own = true := by decide +kernel)
    (hy : X.N[i]? = some y := by rfl) (hyl : X.env.scope.names.lookup y = some .local := by rfl) (hsw : swapsWith (.ListComp elt [⟨tg, iter, ifs, 0⟩] scope pos) (some (.Name y py)) spos.line X.env = pure true := by exact sw_true rfl rfl rfl rfl)
    (hs : ∀ x, foldedSetIterable iter X.env x = pure x := by intro _; rfl) : XS X T W (.Assign [.Name y py] (.ListComp elt [⟨tg, iter, ifs, 0⟩] scope pos) spos) (sSet i (sLc (own.map (·.2)) fi u ft fe)) :=
  let ⟨_, _, _, _, q1, q2, q3, q4, v⟩ := lc_all hi hg ht he; ⟨_, ps_setLc hc hN hy hyl hsw q1 (blkOk_by ok) q2 q3 q4 hs, sok_set v⟩
end
end DL

/-! DL13: slices; equality of a thing with itself. -/
namespace DL
open PySem PySem.Spec PyProof.Rows L2
def cutD (ds : List DD) (lo hi : Option Int) : List DD := (ds.drop (HT.sIx ds.length 0 lo)).take (HT.sIx ds.length ds.length hi - HT.sIx ds.length 0 lo)
def dSl (d : DD) (lo hi : Option Int) : Option DD := match d with
  | .lst ds => some (.lst (cutD ds lo hi))
  | .tup ds => some (.tup (cutD ds lo hi))
  | _ => none
def gNoPart : View → Option (Option Int) := fun _ => some none
def gPart (g : View → Option DD) : View → Option (Option Int) := fun w => (g w).bind fun d => match d with
  | .int i => some (some i)
  | _ => none
def gSl (g : View → Option DD) (l h : View → Option (Option Int)) : View → Option DD := fun w => (g w).bind fun d => (l w).bind fun lo => (h w).bind fun hi => dSl d lo hi
def VOkP (K : PySem.W.Frag) (T : Tab) (t : TO) (g : View → Option (Option Int)) : Prop := ∀ (σ : L2.St) (w : View) (H : Hp) (d : Option Int), EnvV K T H σ w → g w = some d → ∀ Q : Option Int → Hp → Prop, (∀ H', Same H H' → Q d H') → t σ H Q
section
variable {K : PySem.W.Frag} {T : Tab}
theorem vok_noPart : VOkP K T tNoPart gNoPart := fun σ w H d E e Q q => by
  cases e
  exact q H (Same.refl H)
theorem vok_part {t : TE} {g : View → Option DD} (h : VOk K T t g) : VOkP K T (tPart t) (gPart g) := fun σ w H d E e Q q => by
  obtain ⟨x, ex, e⟩ := Option.bind_eq_some_iff.mp e
  refine h σ w H x E ex _ fun v H1 s1 r1 => ?_
  cases r1 with
  | int i => cases e; exact ⟨i, rfl, q H1 s1⟩
  | _ => cases e
theorem rep_cut {H : Hp} {vs : List V} {ds : List DD} (r : RepAll K T H vs ds) (lo hi : Option Int) : RepAll K T H (cutV vs lo hi) (cutD ds lo hi) := by
  unfold cutV cutD
  rw [r.length]
  exact (r.drop _).take _
theorem vok_sl {t : TE} {g : View → Option DD} {tl th : TO} {gl gh : View → Option (Option Int)} (h : VOk K T t g) (hl : VOkP K T tl gl) (hh : VOkP K T th gh) : VOk K T (tSl (fun x lo hi H Q => rSlL K x lo hi H Q ∨ rSlA K x lo hi H Q) t tl th) (gSl g gl gh) := fun σ w H d E e Q q => by
  obtain ⟨x, ex, e⟩ := Option.bind_eq_some_iff.mp e
  obtain ⟨lo, el, e⟩ := Option.bind_eq_some_iff.mp e
  obtain ⟨hi, eh, e⟩ := Option.bind_eq_some_iff.mp e
  refine h σ w H x E ex _ fun v H1 s1 r1 => ?_
  refine hl σ w H1 lo (E.mono s1) el _ fun H2 s2 => ?_
  refine hh σ w H2 hi (E.mono (s1.trans s2)) eh _ fun H3 s3 => ?_
  have r3 := r1.mono (s2.trans s3)
  have s123 := (s1.trans s2).trans s3
  unfold dSl at e
  split at e
  · cases e
    cases r3 with
    | lst h a => exact .inl ⟨_, _, rfl, h, fun p hp => q _ _ (s123.trans (same_new hp)) (rep_newL hp (rep_cut a lo hi))⟩
  · cases e
    cases r3 with
    | tup h a =>
      refine .inr ⟨_, _, rfl, h, fun hw => ?_, fun _ p hp => q _ _ (s123.trans (same_new hp)) (rep_newT hp (rep_cut a lo hi))⟩
      rename_i ds' vs'
      have ec := a.length
      rw [ec] at hw
      refine q _ H3 s123 ?_
      unfold cutD
      rw [hw.1, hw.2, Nat.sub_zero, List.drop_zero, List.take_length]
      exact .tup h a
  · cases e
end
def XPo (X : Cx) (T : Tab) (o : Option Expr) (g : View → Option (Option Int)) : Prop := ∃ t : TO, PO X o t ∧ VOkP X.K T t g
section
variable {X : Cx} {T : Tab} {e : Expr} {ge : View → Option DD} {lo hi : Option Expr} {gl gh : View → Option (Option Int)} {p2 pos : Pos}
theorem xpo_none : XPo X T none gNoPart := ⟨_, po_none, vok_noPart⟩
theorem xpo_some (h : XV X T e ge) : XPo X T (some e) (gPart ge) := let ⟨_, p, v⟩ := h; ⟨_, po_some p, vok_part v⟩
theorem xv_sl (h : XV X T e ge) (hl : XPo X T lo gl) (hh : XPo X T hi gh) : XV X T (.Subscript e (.Slice lo hi none p2) pos) (gSl ge gl gh) :=
  let ⟨_, p, v⟩ := h; let ⟨_, p1, v1⟩ := hl; let ⟨_, p3, v3⟩ := hh; ⟨_, pe_slice (sl_list.or sl_tupA) p p1 p3, vok_sl v v1 v3⟩
end
/-- a slice of a frozen list: a new list -/
def sSlL (gl gh : View → Option (Option Int)) (f : Act DD) : Act OO := sBind f fun d ρ => match gl ρ.views, gh ρ.views, d with
  | some lo, some hi, .lst ds => .ok (.lst ((cutD ds lo hi).map .dat)) ρ
  | _, _, _ => .bad
theorem eok_slL {K : PySem.W.Frag} {T : Tab} {W : WX} {t : TE} {f : Act DD} {tl th : TO} {gl gh : View → Option (Option Int)} (h : EOkD K T W t f) (hl : VOkP K T tl gl) (hh : VOkP K T th gh) :
    EOk K T W (tSl (fun x lo hi H Q => rSlL K x lo hi H Q ∨ rSlA K x lo hi H Q) t tl th) (sSlL gl gh f) := fun ps σ ρ F H S Q s p => by
  refine h ps σ ρ F H S _ s (PostX.imp (PostX.bind p) fun d ρ1 F1 H1 e1 k1 p1 v s1 r1 => ?_)
  split at p1
  · rename_i lo hi ds el eh
    refine hl σ ρ1.views H1 lo s1.views el _ fun H2 e2 => ?_
    have s2 := s1.ext e2
    have g2 := grow_same s1.ga.sm e2
    refine hh σ ρ1.views H2 hi s2.views eh _ fun H3 e3 => ?_
    have s3 := s2.ext e3
    have g3 := grow_same s2.ga.sm e3
    have r3 := r1.mono (g2.trans g3)
    have p3 := PostX.later p1 (g2.trans g3) ((s1.keep e2).trans (s2.keep e3))
    cases r3 with
    | lst h a =>
      refine .inl ⟨_, _, rfl, Same.sqL s3.ga.sm h, fun q hq => ?_⟩
      obtain ⟨s4, w4⟩ := s3.newL hq (rep_cut a lo hi)
      exact PostX.now (PostX.later p3 (Same.refl _) (s3.keep (same_new hq))) (.ref q) [q] s4 w4
  · exact p1.elim
theorem xe_slL {X : Cx} {T : Tab} {W : WX} {e : Expr} {f : Act DD} {lo hi : Option Expr} {gl gh : View → Option (Option Int)} {p2 pos : Pos} (h : XD X T W e f) (hl : XPo X T lo gl) (hh : XPo X T hi gh) : XE X T W (.Subscript e (.Slice lo hi none p2) pos) (sSlL gl gh f) :=
  let ⟨_, p, v⟩ := h; let ⟨_, p1, v1⟩ := hl; let ⟨_, p3, v3⟩ := hh; ⟨_, pe_slice (sl_list.or sl_tupA) p p1 p3, eok_slL v v1 v3⟩
/-! ### plain: a thing is equal to itself; loops by an invariant -/
mutual
theorem shp_lay : ∀ (d : DD) (n : Nat), shp d n = true → d.pd.canLay0 = true
  | .non, _, _ => by simp [DD.pd, PyData.canLay0]
  | .bl _, _, _ => by simp [DD.pd, PyData.canLay0]
  | .int _, _, _ => by simp [DD.pd, PyData.canLay0]
  | .str s, n, h => by show PyData.canLay0 (.str s) = true; simpa [shp] using h
  | .tup ds, n, h => by
    rw [shp, Bool.and_eq_true] at h
    simpa [DD.pd, PyData.canLay0] using shpAll_lay ds _ h.2
  | .lst ds, n, h => by
    rw [shp, Bool.and_eq_true] at h
    simpa [DD.pd, PyData.canLay0] using shpAll_lay ds _ h.2
  | .ins _ _, n, h => by simp [shp] at h
  | .exc _ _, n, h => by simp [shp] at h
theorem shpAll_lay : ∀ (ds : List DD) (n : Nat), shpAll ds n = true → PyData.canLayAll0 (pdAll ds) = true
  | [], _, _ => by simp [pdAll, PyData.canLayAll0]
  | d :: ds, n, h => by
    rw [shpAll, Bool.and_eq_true] at h
    simp only [pdAll, PyData.canLayAll0]
    rw [shp_lay d n h.1, shpAll_lay ds n h.2, Bool.and_true]
end
theorem dNe_self {d : DD} (h : shp d 8 = true) : dNe d d = some (.bl false) := by
  unfold dNe
  have hc := shp_lay d 8 h
  rw [h, Bool.and_self, if_pos rfl]
  unfold eqB
  rw [PySem.SeqAt.eqv_refl _ hc]
  rfl
theorem dEq_self {d : DD} (h : shp d 8 = true) : dEq d d = some (.bl true) := by
  unfold dEq
  have hc := shp_lay d 8 h
  rw [h, Bool.and_self, if_pos rfl]
  unfold eqB
  rw [PySem.SeqAt.eqv_refl _ hc]
theorem rangeD_mem {lo : Int} {n : Nat} {d : DD} (h : d ∈ rangeD lo n) : ∃ i : Nat, i < n ∧ d = .int (lo + (i : Int)) := by
  unfold rangeD at h
  obtain ⟨i, h1, h2⟩ := List.mem_map.mp h
  exact ⟨i, List.mem_range.mp h1, h2.symm⟩
theorem loopF_inv {g : UT} {b : Act Fl} {I : Env → Prop} : ∀ (ds : List DD) (ρ : Env), I ρ → (∀ d ∈ ds, ∀ ρ, I ρ → ∃ ρ1, g d ρ = some ρ1 ∧ ∃ ρ2, b ρ1 = .ok .nx ρ2 ∧ I ρ2) → ∃ ρ', loopF g b ds ρ = .ok .nx ρ' ∧ I ρ'
  | [], ρ, h, _ => ⟨ρ, rfl, h⟩
  | d :: ds, ρ, h, k => by
    obtain ⟨ρ1, e1, ρ2, e2, h2⟩ := k d List.mem_cons_self ρ h
    obtain ⟨ρ', e, h'⟩ := loopF_inv ds ρ2 h2 fun d' hd => k d' (List.mem_cons_of_mem _ hd)
    refine ⟨ρ', ?_, h'⟩
    unfold loopF
    rw [e1]
    dsimp only
    rw [e2]
    exact e
end DL

namespace Lk03
open PySem PySem.Spec PyProof.Rows L2 DL
def top (i : Nat) : Stmt := PySem.Challenge.pw_wireland_k03_whole_fractions_by_fraction.main.body.getD i (.Pass ⟨0, 0, 0, 0⟩)
abbrev s_divisor : Stmt := top 5
abbrev s_lowest : Stmt := top 6
abbrev s_plus : Stmt := top 7
abbrev s_total : Stmt := top 8
abbrev s_product : Stmt := top 9
abbrev s_over : Stmt := top 10
abbrev s_below : Stmt := top 11
abbrev s__law_mixed : Stmt := top 13
abbrev s__law_pile : Stmt := top 14
abbrev s__law_take : Stmt := top 15
abbrev s__law_order : Stmt := top 16
abbrev s__law_low : Stmt := top 17
abbrev s__law_plus : Stmt := top 18
abbrev s__law_minus : Stmt := top 19
abbrev s__law_by : Stmt := top 20
abbrev s__law_number : Stmt := top 21
abbrev s__law_goes : Stmt := top 22
abbrev s_law : Stmt := top 23
def tbl : TabL := [("NoNumber", ("NoNumber", []))]
abbrev T (K : PySem.W.Frag) : DL.Tab := mkTab K tbl
noncomputable section
def c1_divisor : Act Bool := (sT (gTest (gOp2 dNe (gVar 1) (gC (.int 0)))))
def w1_divisor : Act Fl := (sPar 0 1 (sCons (sFz (sNameF 1)) (sCons (sFz (sV (gOp2 dMod (gVar 0) (gVar 1)))) sNil)))
def b_divisor : Act Fl := (sSeq (sWh c1_divisor w1_divisor)
  (sRetVar 0))
def f_divisor : Fn := gof [false, false] 2 b_divisor
def b_lowest : Act Fl := (sSeq (sIf (sT (gTest (gOp2 dEq (gVar 1) (gC (.int 0)))))
  (sRaise "NoNumber")
  sNx)
  (sSeq (sSet 2 (sV (gE (sCallK f_divisor [.p 0, .p 1] [] (sCons (sFz (sV (gArgs dAbs (DL.gCons (gVar 0) DL.gNil)))) (sCons (sFz (sV (gArgs dAbs (DL.gCons (gVar 1) DL.gNil)))) sNil)) sNil))))
  (sSeq (sIf (sT (gTest (gOp2 dLt (gVar 1) (gC (.int 0)))))
  (sSet 2 (sV (gOp1 dNeg (gVar 2))))
  sNx)
  (sReturn (sV (gArgs dTup (DL.gCons (gOp2 dDiv (gVar 0) (gVar 2)) (DL.gCons (gOp2 dDiv (gVar 1) (gVar 2)) DL.gNil))))))))
def f_lowest : Fn := gof [false, false] 3 b_lowest
def b_plus : Act Fl := (sReturn (sV (gE (sCallK f_lowest [.p 0, .p 1] [.int 1] (sCons (sFz (sV (gOp2 dAdd (gOp2 dMul (gOp2 dIx (gVar 0) (gC (.int 0))) (gOp2 dIx (gVar 1) (gC (.int 1)))) (gOp2 dMul (gOp2 dIx (gVar 1) (gC (.int 0))) (gOp2 dIx (gVar 0) (gC (.int 1))))))) (sCons (sFz (sV (gOp2 dMul (gOp2 dIx (gVar 0) (gC (.int 1))) (gOp2 dIx (gVar 1) (gC (.int 1)))))) sNil)) sNil))))
def f_plus : Fn := gof [false, false] 2 b_plus
def w1_total : Act Fl := (sSet 1 (sV (gE (sCallK f_plus [.p 0, .p 1] [] (sCons (sFz (sNameF 1)) (sCons (sFz (sNameF 2)) sNil)) sNil))))
def b_total : Act Fl := (sSeq (sSet 1 (sV (gC (.tup [.int 0, .int 1]))))
  (sSeq (sFor (sItems (sFz (sNameF 0))) (uName 2) w1_total)
  (sRetVar 1)))
def f_total : Fn := gof [false] 3 b_total
def b_product : Act Fl := (sReturn (sV (gE (sCallK f_lowest [.p 0, .p 1] [.int 1] (sCons (sFz (sV (gOp2 dMul (gOp2 dIx (gVar 0) (gC (.int 0))) (gOp2 dIx (gVar 1) (gC (.int 0)))))) (sCons (sFz (sV (gOp2 dMul (gOp2 dIx (gVar 0) (gC (.int 1))) (gOp2 dIx (gVar 1) (gC (.int 1)))))) sNil)) sNil))))
def f_product : Fn := gof [false, false] 2 b_product
def b_over : Act Fl := (sSeq (sIf (sT (gTest (gOp2 dEq (gOp2 dIx (gVar 1) (gC (.int 0))) (gC (.int 0)))))
  (sRaise "NoNumber")
  sNx)
  (sReturn (sV (gE (sCallK f_lowest [.p 0, .p 1] [.int 1] (sCons (sFz (sV (gOp2 dMul (gOp2 dIx (gVar 0) (gC (.int 0))) (gOp2 dIx (gVar 1) (gC (.int 1)))))) (sCons (sFz (sV (gOp2 dMul (gOp2 dIx (gVar 0) (gC (.int 1))) (gOp2 dIx (gVar 1) (gC (.int 0)))))) sNil)) sNil)))))
def f_over : Fn := gof [false, false] 2 b_over
def b_below : Act Fl := (sReturn (sV (gOp2 dLt (gOp2 dMul (gOp2 dIx (gVar 0) (gC (.int 0))) (gOp2 dIx (gVar 1) (gC (.int 1)))) (gOp2 dMul (gOp2 dIx (gVar 1) (gC (.int 0))) (gOp2 dIx (gVar 0) (gC (.int 1)))))))
def f_below : Fn := gof [false, false] 2 b_below
def b__law_mixed : Act Fl := (sSeq (sSet 2 (sV (gOp2 dMod (gOp2 dAdd (gOp2 dAdd (gOp2 dMul (gVar 0) (gC (.int 48271))) (gOp2 dMul (gVar 1) (gC (.int 69621)))) (gC (.int 11))) (gC (.int 2147483629)))))
  (sSeq (sSet 2 (sV (gOp2 dMod (gOp2 dMul (gVar 2) (gVar 2)) (gC (.int 2147483587)))))
  (sReturn (sV (gOp2 dDiv (gOp2 dMod (gOp2 dMul (gVar 2) (gVar 2)) (gC (.int 2147483549))) (gC (.int 64)))))))
def f__law_mixed : Fn := gof [false, false] 3 b__law_mixed
def b__law_pile : Act Fl := (sSeq (sSet 2 (sV (gC (.int 0))))
  (sSeq (sIf (sT (gTest (gOp2 dLt (gVar 1) (gArgs dLen (DL.gCons (gVar 0) DL.gNil)))))
  (sSet 2 (sV (gOp2 dIx (gVar 0) (gVar 1))))
  sNx)
  (sSeq (sSet 3 (sV (gOp2 dMod (gVar 2) (gOp2 dMul (gOp2 dMul (gOp2 dPow (gC (.int 10)) (gC (.int 60))) (gOp2 dPow (gC (.int 10)) (gC (.int 60)))) (gOp2 dPow (gC (.int 10)) (gC (.int 60)))))))
  (sReturn (sLst (sCons (sFz (sV (gOp2 dMul (gVar 3) (gArgs dIntOf (DL.gCons (gOp2 dGe (gArgs dAbs (DL.gCons (gVar 2) DL.gNil)) (gOp2 dPow (gC (.int 10)) (gC (.int 18)))) DL.gNil))))) (sCons (sFz (sV (gOp2 dMod (gVar 2) (gC (.int 2147483629))))) (sCons (sFz (sV (gOp2 dMul (gC (.int 131)) (gVar 1)))) sNil))))))))
def f__law_pile : Fn := gof [false, false] 4 b__law_pile
def b__law_take : Act Fl := (sSeq (sIf (sT (gTest (gOp2 dEq (gOp2 dIx (gVar 0) (gC (.int 0))) (gC (.int 0)))))
  (sSeq (sSetIx 0 (sFz (sV (gOp2 dAdd (gOp2 dIx (gVar 0) (gC (.int 2))) (gC (.int 1))))) (sFz (sV (gC (.int 2)))))
  (sReturn (sV (gOp2 dMod (gE (sCallK f__law_mixed [.p 0, .p 1] [] (sCons (sFz (sV (gOp2 dIx (gVar 0) (gC (.int 1))))) (sCons (sFz (sV (gOp2 dIx (gVar 0) (gC (.int 2))))) sNil)) sNil)) (gVar 1)))))
  sNx)
  (sSeq (sSet 2 (sV (gOp2 dMod (gOp2 dIx (gVar 0) (gC (.int 0))) (gVar 1))))
  (sSeq (sSetIx 0 (sFz (sV (gOp2 dDiv (gOp2 dIx (gVar 0) (gC (.int 0))) (gVar 1)))) (sFz (sV (gC (.int 0)))))
  (sRetVar 2))))
def f__law_take : Fn := gof [true, false] 3 b__law_take
def c1__law_order : Act Bool := (sT (gTest (gOp2 dNe (gVar 2) (gArgs dLst DL.gNil))))
def w1__law_order : Act Fl := (sApp 3 (sPopAt 2 (sFz (sCallIo f__law_take 0 (sCons (sFz (sV (gArgs dLen (DL.gCons (gVar 2) DL.gNil)))) sNil)))))
def b__law_order : Act Fl := (sSeq (sSet 2 (sArgsL dListOf (sCons (sFz (sNameF 1)) sNil)))
  (sSeq (sSet 3 (sLst sNil))
  (sSeq (sWh c1__law_order w1__law_order)
  (sRetVar 3))))
def f__law_order : Fn := gof [true, false] 4 b__law_order
def c1__law_low : Act Bool := (sT (gTest (gOp2 dNe (gVar 3) (gC (.int 0)))))
def w1__law_low : Act Fl := (sPar 2 3 (sCons (sFz (sNameF 3)) (sCons (sFz (sV (gOp2 dMod (gVar 2) (gVar 3)))) sNil)))
def b__law_low : Act Fl := (sSeq (sIf (sT (gTest (gOp2 dLt (gVar 1) (gC (.int 0)))))
  (sPar 0 1 (sCons (sFz (sV (gOp2 dSub (gC (.int 0)) (gVar 0)))) (sCons (sFz (sV (gOp2 dSub (gC (.int 0)) (gVar 1)))) sNil)))
  sNx)
  (sSeq (sPar 2 3 (sCons (sFz (sV (gArgs dAbs (DL.gCons (gVar 0) DL.gNil)))) (sCons (sFz (sNameF 1)) sNil)))
  (sSeq (sWh c1__law_low w1__law_low)
  (sReturn (sV (gArgs dTup (DL.gCons (gOp2 dDiv (gVar 0) (gVar 2)) (DL.gCons (gOp2 dDiv (gVar 1) (gVar 2)) DL.gNil))))))))
def f__law_low : Fn := gof [false, false] 4 b__law_low
def b__law_plus : Act Fl := (sReturn (sV (gE (sCallK f__law_low [.p 0, .p 1] [] (sCons (sFz (sV (gOp2 dAdd (gOp2 dMul (gOp2 dIx (gVar 0) (gC (.int 0))) (gOp2 dIx (gVar 1) (gC (.int 1)))) (gOp2 dMul (gOp2 dIx (gVar 1) (gC (.int 0))) (gOp2 dIx (gVar 0) (gC (.int 1))))))) (sCons (sFz (sV (gOp2 dMul (gOp2 dIx (gVar 0) (gC (.int 1))) (gOp2 dIx (gVar 1) (gC (.int 1)))))) sNil)) sNil))))
def f__law_plus : Fn := gof [false, false] 2 b__law_plus
def b__law_minus : Act Fl := (sReturn (sV (gE (sCallK f__law_low [.p 0, .p 1] [] (sCons (sFz (sV (gOp2 dSub (gOp2 dMul (gOp2 dIx (gVar 0) (gC (.int 0))) (gOp2 dIx (gVar 1) (gC (.int 1)))) (gOp2 dMul (gOp2 dIx (gVar 1) (gC (.int 0))) (gOp2 dIx (gVar 0) (gC (.int 1))))))) (sCons (sFz (sV (gOp2 dMul (gOp2 dIx (gVar 0) (gC (.int 1))) (gOp2 dIx (gVar 1) (gC (.int 1)))))) sNil)) sNil))))
def f__law_minus : Fn := gof [false, false] 2 b__law_minus
def b__law_by : Act Fl := (sReturn (sV (gE (sCallK f__law_low [.p 0, .p 1] [] (sCons (sFz (sV (gOp2 dMul (gOp2 dIx (gVar 0) (gC (.int 0))) (gOp2 dIx (gVar 1) (gC (.int 0)))))) (sCons (sFz (sV (gOp2 dMul (gOp2 dIx (gVar 0) (gC (.int 1))) (gOp2 dIx (gVar 1) (gC (.int 1)))))) sNil)) sNil))))
def f__law_by : Fn := gof [false, false] 2 b__law_by
def b__law_number : Act Fl := (sSeq (sSet 1 (sCallIo f__law_take 0 (sCons (sFz (sV (gC (.int 10)))) sNil)))
  (sSeq (sIf (sT (gTest (gOp2 dEq (gVar 1) (gC (.int 0)))))
  (sSeq (sSet 2 (sOp2 dAdd (sFz (sOp2 dMul (sFz (sCallIo f__law_take 0 (sCons (sFz (sV (gOp2 dPow (gC (.int 10)) (gC (.int 6))))) sNil))) (sFz (sV (gOp2 dPow (gC (.int 10)) (gC (.int 6))))))) (sFz (sCallIo f__law_take 0 (sCons (sFz (sV (gOp2 dPow (gC (.int 10)) (gC (.int 6))))) sNil)))))
  (sSeq (sIf (sTe (sFz (sOp2 dEq (sFz (sCallIo f__law_take 0 (sCons (sFz (sV (gC (.int 2)))) sNil))) (sFz (sV (gC (.int 0)))))))
  (sSet 2 (sV (gOp2 dSub (gC (.int 0)) (gVar 2))))
  sNx)
  (sReturn (sCallK f__law_low [.p 0, .p 1] [] (sCons (sFz (sNameF 2)) (sCons (sFz (sOp2 dAdd (sFz (sOp2 dAdd (sFz (sV (gC (.int 1)))) (sFz (sOp2 dMul (sFz (sCallIo f__law_take 0 (sCons (sFz (sV (gOp2 dPow (gC (.int 10)) (gC (.int 6))))) sNil))) (sFz (sV (gOp2 dPow (gC (.int 10)) (gC (.int 5))))))))) (sFz (sCallIo f__law_take 0 (sCons (sFz (sV (gOp2 dPow (gC (.int 10)) (gC (.int 5))))) sNil))))) sNil)) sNil))))
  sNx)
  (sSeq (sIf (sT (gTest (gOp2 dLt (gVar 1) (gC (.int 4)))))
  (sReturn (sCallK f__law_low [.p 0, .p 1] [] (sCons (sFz (sOp2 dSub (sFz (sCallIo f__law_take 0 (sCons (sFz (sV (gC (.int 19)))) sNil))) (sFz (sV (gC (.int 9)))))) (sCons (sFz (sOp2 dAdd (sFz (sV (gC (.int 1)))) (sFz (sCallIo f__law_take 0 (sCons (sFz (sV (gC (.int 6)))) sNil))))) sNil)) sNil))
  sNx)
  (sReturn (sTup (sCons (sFz (sOp2 dSub (sFz (sCallIo f__law_take 0 (sCons (sFz (sV (gC (.int 9)))) sNil))) (sFz (sV (gC (.int 4)))))) (sCons (sFz (sV (gC (.int 1)))) sNil)))))))
def f__law_number : Fn := gof [true] 3 b__law_number
def b__law_goes : Act Fl := (sSeq (sIf (sT (gAnd (gTest (gE (sCallK f_below [.p 0, .p 1] [] (sCons (sFz (sNameF 0)) (sCons (sFz (sNameF 1)) sNil)) sNil))) (gAnd (gTest (gE (sCallK f_below [.p 0, .p 1] [] (sCons (sFz (sNameF 1)) (sCons (sFz (sNameF 2)) sNil)) sNil))) (gNot (gTest (gE (sCallK f_below [.p 0, .p 1] [] (sCons (sFz (sNameF 0)) (sCons (sFz (sNameF 2)) sNil)) sNil)))))))
  (sReturn (sV (gC (.bl false))))
  sNx)
  (sSeq (sIf (sT (gOr (gAnd (gTest (gE (sCallK f_below [.p 0, .p 1] [] (sCons (sFz (sNameF 0)) (sCons (sFz (sNameF 1)) sNil)) sNil))) (gTest (gE (sCallK f_below [.p 0, .p 1] [] (sCons (sFz (sNameF 1)) (sCons (sFz (sNameF 0)) sNil)) sNil)))) (gTest (gE (sCallK f_below [.p 0, .p 1] [] (sCons (sFz (sNameF 0)) (sCons (sFz (sNameF 0)) sNil)) sNil)))))
  (sReturn (sV (gC (.bl false))))
  sNx)
  (sSeq (sIf (sT (gTest (gOp2 dNe (gE (sCallK f_below [.p 0, .p 1] [] (sCons (sFz (sNameF 0)) (sCons (sFz (sNameF 1)) sNil)) sNil)) (gE (sCallK f_below [.p 0, .p 1] [] (sCons (sFz (sV (gE (sCallK f_total [.p 0] [] (sCons (sFz (sLst (sCons (sFz (sNameF 0)) (sCons (sFz (sNameF 2)) sNil)))) sNil) sNil)))) (sCons (sFz (sV (gE (sCallK f_total [.p 0] [] (sCons (sFz (sLst (sCons (sFz (sNameF 1)) (sCons (sFz (sNameF 2)) sNil)))) sNil) sNil)))) sNil)) sNil)))))
  (sReturn (sV (gC (.bl false))))
  sNx)
  (sSeq (sIf (sT (gTest (gOp2 dEq (gOrV (gE (sCallK f_below [.p 0, .p 1] [] (sCons (sFz (sNameF 0)) (sCons (sFz (sNameF 1)) sNil)) sNil)) (gE (sCallK f_below [.p 0, .p 1] [] (sCons (sFz (sNameF 1)) (sCons (sFz (sNameF 0)) sNil)) sNil))) (gOp2 dEq (gVar 0) (gVar 1)))))
  (sReturn (sV (gC (.bl false))))
  sNx)
  (sReturn (sV (gOrV (gOp1 dNot (gE (sCallK f_below [.p 0, .p 1] [] (sCons (sFz (sV (gArgs dTup (DL.gCons (gC (.int 0)) (DL.gCons (gC (.int 1)) DL.gNil))))) (sCons (sFz (sNameF 2)) sNil)) sNil))) (gOp2 dEq (gE (sCallK f_below [.p 0, .p 1] [] (sCons (sFz (sNameF 0)) (sCons (sFz (sNameF 1)) sNil)) sNil)) (gE (sCallK f_below [.p 0, .p 1] [] (sCons (sFz (sV (gE (sCallK f_product [.p 0, .p 1] [] (sCons (sFz (sNameF 0)) (sCons (sFz (sNameF 2)) sNil)) sNil)))) (sCons (sFz (sV (gE (sCallK f_product [.p 0, .p 1] [] (sCons (sFz (sNameF 1)) (sCons (sFz (sNameF 2)) sNil)) sNil)))) sNil)) sNil))))))))))
def f__law_goes : Fn := gof [false, false, false] 3 b__law_goes
def e1_law : Act OO := (sV (gE (sCallK f_product [.p 0, .p 1] [] (sCons (sFz (sNameF 9)) (sCons (sFz (sNameF 5)) sNil)) sNil)))
def t1_law : Act Bool := (sRet true)
def e3_law : Act OO := (sV (gE (sCallK f_product [.p 0, .p 1] [] (sCons (sFz (sNameF 9)) (sCons (sFz (sNameF 5)) sNil)) sNil)))
def t3_law : Act Bool := (sRet true)
def e5_law : Act OO := (sV (gE (sCallK f_product [.p 0, .p 1] [] (sCons (sFz (sNameF 9)) (sCons (sFz (sNameF 5)) sNil)) sNil)))
def t5_law : Act Bool := (sRet true)
def e7_law : Act OO := (sV (gE (sCallK f_product [.p 0, .p 1] [] (sCons (sFz (sNameF 9)) (sCons (sFz (sNameF 5)) sNil)) sNil)))
def t7_law : Act Bool := (sRet true)
def e9_law : Act OO := (sCallIo f__law_number 2 sNil)
def t9_law : Act Bool := (sRet true)
def w11_law : Act Fl := (sSeq (sSet 2 (sCallK f__law_pile [.p 0, .p 1] [] (sCons (sFz (sNameF 0)) (sCons (sFz (sNameF 1)) sNil)) sNil))
  (sSeq (sUn (sFz (sTup (sCons (sFz (sCallIo f__law_number 2 sNil)) (sCons (sFz (sCallIo f__law_number 2 sNil)) (sCons (sFz (sCallIo f__law_number 2 sNil)) sNil))))) (uTup 3 (uCons (uName 3) (uCons (uName 4) (uCons (uName 5) uNil)))))
  (sSeq (sSet 6 (sLc (List.map (·.2) ([("_law_j", 7)] : List (Str × Nat))) (sRange dRange1 (sCons (sFz (sCallIo f__law_take 2 (sCons (sFz (sV (gC (.int 8)))) sNil))) sNil)) (uName 7) t9_law e9_law))
  (sSeq (sSet 8 (sCallIo f__law_take 2 (sCons (sFz (sV (gOp2 dAdd (gArgs dLen (DL.gCons (gVar 6) DL.gNil)) (gC (.int 1))))) sNil)))
  (sSeq (sIf (sOr (sTe (sFz (sOp2 dNe (sFz (sCallK f_total [.p 0] [] (sCons (sFz (sCallIo f__law_order 2 (sCons (sFz (sNameF 6)) sNil))) sNil) sNil)) (sFz (sV (gE (sCallK f_total [.p 0] [] (sCons (sFz (sNameF 6)) sNil) sNil))))))) (sT (gTest (gOp2 dNe (gE (sCallK f_total [.p 0] [] (sCons (sFz (sLst (sCons (sFz (sV (gE (sCallK f_total [.p 0] [] (sCons (sFz (sSlL gNoPart (gPart (gVar 8)) (sFz (sNameF 6)))) sNil) sNil)))) (sCons (sFz (sV (gE (sCallK f_total [.p 0] [] (sCons (sFz (sSlL (gPart (gVar 8)) gNoPart (sFz (sNameF 6)))) sNil) sNil)))) sNil)))) sNil) sNil)) (gE (sCallK f_total [.p 0] [] (sCons (sFz (sNameF 6)) sNil) sNil))))))
  (sReturn (sV (gC (.bl false))))
  sNx)
  (sSeq (sIf (sT (gTest (gOp2 dNe (gE (sCallK f_product [.p 0, .p 1] [] (sCons (sFz (sV (gE (sCallK f_product [.p 0, .p 1] [] (sCons (sFz (sNameF 3)) (sCons (sFz (sNameF 4)) sNil)) sNil)))) (sCons (sFz (sNameF 5)) sNil)) sNil)) (gE (sCallK f_product [.p 0, .p 1] [] (sCons (sFz (sNameF 3)) (sCons (sFz (sV (gE (sCallK f_product [.p 0, .p 1] [] (sCons (sFz (sNameF 5)) (sCons (sFz (sNameF 4)) sNil)) sNil)))) sNil)) sNil)))))
  (sReturn (sV (gC (.bl false))))
  sNx)
  (sSeq (sIf (sT (gTest (gOp2 dNe (gE (sCallK f_product [.p 0, .p 1] [] (sCons (sFz (sNameF 5)) (sCons (sFz (sV (gE (sCallK f_total [.p 0] [] (sCons (sFz (sNameF 6)) sNil) sNil)))) sNil)) sNil)) (gE (sCallK f_total [.p 0] [] (sCons (sFz (sLc (List.map (·.2) ([("_law_number_here", 9)] : List (Str × Nat))) (sItems (sFz (sNameF 6))) (uName 9) t7_law e7_law)) sNil) sNil)))))
  (sReturn (sV (gC (.bl false))))
  sNx)
  (sSeq (sIf (sT (gTest (gOp2 dNe (gOp2 dIx (gVar 4) (gC (.int 0))) (gC (.int 0)))))
  (sSeq (sIf (sT (gOr (gTest (gOp2 dNe (gE (sCallK f_over [.p 0, .p 1] [] (sCons (sFz (sV (gE (sCallK f_product [.p 0, .p 1] [] (sCons (sFz (sNameF 3)) (sCons (sFz (sNameF 4)) sNil)) sNil)))) (sCons (sFz (sNameF 4)) sNil)) sNil)) (gVar 3))) (gTest (gOp2 dNe (gE (sCallK f_product [.p 0, .p 1] [] (sCons (sFz (sV (gE (sCallK f_over [.p 0, .p 1] [] (sCons (sFz (sNameF 3)) (sCons (sFz (sNameF 4)) sNil)) sNil)))) (sCons (sFz (sNameF 4)) sNil)) sNil)) (gVar 3)))))
  (sReturn (sV (gC (.bl false))))
  sNx)
  (sIf (sT (gTest (gOp2 dNe (gE (sCallK f_over [.p 0, .p 1] [] (sCons (sFz (sNameF 3)) (sCons (sFz (sNameF 4)) sNil)) sNil)) (gE (sCallK f_product [.p 0, .p 1] [] (sCons (sFz (sNameF 3)) (sCons (sFz (sV (gE (sCallK f_over [.p 0, .p 1] [] (sCons (sFz (sV (gArgs dTup (DL.gCons (gC (.int 1)) (DL.gCons (gC (.int 1)) DL.gNil))))) (sCons (sFz (sNameF 4)) sNil)) sNil)))) sNil)) sNil)))))
  (sReturn (sV (gC (.bl false))))
  sNx))
  sNx)
  (sIf (sT (gOr (gNot (gTest (gE (sCallK f__law_goes [.p 0, .p 1, .p 2] [] (sCons (sFz (sNameF 3)) (sCons (sFz (sNameF 4)) (sCons (sFz (sNameF 5)) sNil))) sNil)))) (gNot (gTest (gE (sCallK f__law_goes [.p 0, .p 1, .p 2] [] (sCons (sFz (sNameF 5)) (sCons (sFz (sNameF 3)) (sCons (sFz (sNameF 4)) sNil))) sNil))))))
  (sReturn (sV (gC (.bl false))))
  sNx)))))))))
def b_law : Act Fl := (sSeq (sFor (sRange dRange1 (sCons (sFz (sV (gC (.int 30)))) sNil)) (uName 1) w11_law)
  (sReturn (sV (gC (.bl true)))))
def f_law : Fn := gof [false] 10 b_law
end
/-! ### facts of the top -/
structure Bx (K : PySem.W.Frag) (mg : Str → Option Value) : Prop where
  z_abs : mg "abs" = none
  z_int : mg "int" = none
  z_len : mg "len" = none
  z_list : mg "list" = none
  z_range : mg "range" = none
  g_WireError : mg "WireError" = some (.ref (He.ga K "WireError"))
  g_NoNumber : mg "NoNumber" = some (.ref (He.ga K "NoNumber"))
  g_divisor : mg "divisor" = some (.ref (He.ga K "divisor"))
  g_lowest : mg "lowest" = some (.ref (He.ga K "lowest"))
  g_plus : mg "plus" = some (.ref (He.ga K "plus"))
  g_total : mg "total" = some (.ref (He.ga K "total"))
  g_product : mg "product" = some (.ref (He.ga K "product"))
  g_over : mg "over" = some (.ref (He.ga K "over"))
  g_below : mg "below" = some (.ref (He.ga K "below"))
  g__law_mixed : mg "_law_mixed" = some (.ref (He.ga K "_law_mixed"))
  g__law_pile : mg "_law_pile" = some (.ref (He.ga K "_law_pile"))
  g__law_take : mg "_law_take" = some (.ref (He.ga K "_law_take"))
  g__law_order : mg "_law_order" = some (.ref (He.ga K "_law_order"))
  g__law_low : mg "_law_low" = some (.ref (He.ga K "_law_low"))
  g__law_plus : mg "_law_plus" = some (.ref (He.ga K "_law_plus"))
  g__law_minus : mg "_law_minus" = some (.ref (He.ga K "_law_minus"))
  g__law_by : mg "_law_by" = some (.ref (He.ga K "_law_by"))
  g__law_number : mg "_law_number" = some (.ref (He.ga K "_law_number"))
  g__law_goes : mg "_law_goes" = some (.ref (He.ga K "_law_goes"))
  g_law : mg "law" = some (.ref (He.ga K "law"))
  g_NONE : mg "NONE" = some (.ref (He.ga K "NONE"))
  xc_NoNumber : XcOk K mg "NoNumber" (He.ga K "NoNumber")
  k_NONE : ∀ H, SqT K H (He.ga K "NONE") [.int 0, .int 1]
def fa : List He.Fa := [.glo "WireError", .glo "NoNumber", .glo "divisor", .glo "lowest", .glo "plus", .glo "total", .glo "product", .glo "over", .glo "below", .glo "_law_mixed", .glo "_law_pile", .glo "_law_take", .glo "_law_order", .glo "_law_low", .glo "_law_plus", .glo "_law_minus", .glo "_law_by", .glo "_law_number", .glo "_law_goes", .glo "law", .glo "NONE", .free "abs", .free "int", .free "len", .free "list", .free "range"]
def exs : List (PySem.W.Frag → Bool) := [fun K => xcB K "NoNumber",
  fun K => He.tupB K "NONE" [.int 0, .int 1]]
def d_divisor : He.DefD := ⟨("divisor", none), "divisor", "divisor", defArgs s_divisor, defBody s_divisor, defScope s_divisor, [], []⟩
def d_lowest : He.DefD := ⟨("lowest", none), "lowest", "lowest", defArgs s_lowest, defBody s_lowest, defScope s_lowest, [.int 1], []⟩
def d_plus : He.DefD := ⟨("plus", none), "plus", "plus", defArgs s_plus, defBody s_plus, defScope s_plus, [], []⟩
def d_total : He.DefD := ⟨("total", none), "total", "total", defArgs s_total, defBody s_total, defScope s_total, [], []⟩
def d_product : He.DefD := ⟨("product", none), "product", "product", defArgs s_product, defBody s_product, defScope s_product, [], []⟩
def d_over : He.DefD := ⟨("over", none), "over", "over", defArgs s_over, defBody s_over, defScope s_over, [], []⟩
def d_below : He.DefD := ⟨("below", none), "below", "below", defArgs s_below, defBody s_below, defScope s_below, [], []⟩
def d__law_mixed : He.DefD := ⟨("_law_mixed", none), "_law_mixed", "_law_mixed", defArgs s__law_mixed, defBody s__law_mixed, defScope s__law_mixed, [], []⟩
def d__law_pile : He.DefD := ⟨("_law_pile", none), "_law_pile", "_law_pile", defArgs s__law_pile, defBody s__law_pile, defScope s__law_pile, [], []⟩
def d__law_take : He.DefD := ⟨("_law_take", none), "_law_take", "_law_take", defArgs s__law_take, defBody s__law_take, defScope s__law_take, [], []⟩
def d__law_order : He.DefD := ⟨("_law_order", none), "_law_order", "_law_order", defArgs s__law_order, defBody s__law_order, defScope s__law_order, [], []⟩
def d__law_low : He.DefD := ⟨("_law_low", none), "_law_low", "_law_low", defArgs s__law_low, defBody s__law_low, defScope s__law_low, [], []⟩
def d__law_plus : He.DefD := ⟨("_law_plus", none), "_law_plus", "_law_plus", defArgs s__law_plus, defBody s__law_plus, defScope s__law_plus, [], []⟩
def d__law_minus : He.DefD := ⟨("_law_minus", none), "_law_minus", "_law_minus", defArgs s__law_minus, defBody s__law_minus, defScope s__law_minus, [], []⟩
def d__law_by : He.DefD := ⟨("_law_by", none), "_law_by", "_law_by", defArgs s__law_by, defBody s__law_by, defScope s__law_by, [], []⟩
def d__law_number : He.DefD := ⟨("_law_number", none), "_law_number", "_law_number", defArgs s__law_number, defBody s__law_number, defScope s__law_number, [], []⟩
def d__law_goes : He.DefD := ⟨("_law_goes", none), "_law_goes", "_law_goes", defArgs s__law_goes, defBody s__law_goes, defScope s__law_goes, [], []⟩
def d_law : He.DefD := ⟨("law", none), "law", "law", defArgs s_law, defBody s_law, defScope s_law, [], []⟩
def fn : List He.DefD := [d_divisor, d_lowest, d_plus, d_total, d_product, d_over, d_below, d__law_mixed, d__law_pile, d__law_take, d__law_order, d__law_low, d__law_plus, d__law_minus, d__law_by, d__law_number, d__law_goes, d_law]
theorem bx {K : PySem.W.Frag} {h : Heap} {mg : Str → Option Value} (X : K.In h) (G : h.Ns mainGlobals mg) (c : SaysL fa fn exs K) : Bx K mg where
  z_abs := He.free_ok X G (c.d.fact 21 (f := .free "abs"))
  z_int := He.free_ok X G (c.d.fact 22 (f := .free "int"))
  z_len := He.free_ok X G (c.d.fact 23 (f := .free "len"))
  z_list := He.free_ok X G (c.d.fact 24 (f := .free "list"))
  z_range := He.free_ok X G (c.d.fact 25 (f := .free "range"))
  g_WireError := He.glo_ok X G (c.d.fact 0 (f := .glo "WireError"))
  g_NoNumber := He.glo_ok X G (c.d.fact 1 (f := .glo "NoNumber"))
  g_divisor := He.glo_ok X G (c.d.fact 2 (f := .glo "divisor"))
  g_lowest := He.glo_ok X G (c.d.fact 3 (f := .glo "lowest"))
  g_plus := He.glo_ok X G (c.d.fact 4 (f := .glo "plus"))
  g_total := He.glo_ok X G (c.d.fact 5 (f := .glo "total"))
  g_product := He.glo_ok X G (c.d.fact 6 (f := .glo "product"))
  g_over := He.glo_ok X G (c.d.fact 7 (f := .glo "over"))
  g_below := He.glo_ok X G (c.d.fact 8 (f := .glo "below"))
  g__law_mixed := He.glo_ok X G (c.d.fact 9 (f := .glo "_law_mixed"))
  g__law_pile := He.glo_ok X G (c.d.fact 10 (f := .glo "_law_pile"))
  g__law_take := He.glo_ok X G (c.d.fact 11 (f := .glo "_law_take"))
  g__law_order := He.glo_ok X G (c.d.fact 12 (f := .glo "_law_order"))
  g__law_low := He.glo_ok X G (c.d.fact 13 (f := .glo "_law_low"))
  g__law_plus := He.glo_ok X G (c.d.fact 14 (f := .glo "_law_plus"))
  g__law_minus := He.glo_ok X G (c.d.fact 15 (f := .glo "_law_minus"))
  g__law_by := He.glo_ok X G (c.d.fact 16 (f := .glo "_law_by"))
  g__law_number := He.glo_ok X G (c.d.fact 17 (f := .glo "_law_number"))
  g__law_goes := He.glo_ok X G (c.d.fact 18 (f := .glo "_law_goes"))
  g_law := He.glo_ok X G (c.d.fact 19 (f := .glo "law"))
  g_NONE := He.glo_ok X G (c.d.fact 20 (f := .glo "NONE"))
  xc_NoNumber := xcB_ok (He.glo_ok X G (c.d.fact 1 (f := .glo "NoNumber"))) (c.x 0)
  k_NONE := fun H => He.tupB_ok (c.x 1) H
/-! ### each def -/
section
variable {P : Program} {w : World} {K : PySem.W.Frag} {mg : Str → Option Value} {base : Heap} {f : Addr} {fd : FuncData}
theorem sc_divisor : FnScope ["one", "other"] ["one", "other"] (defScope s_divisor) := ⟨rfl, rfl, rfl, by decide +kernel, rfl, by decide +kernel, by decide +kernel⟩
theorem sc_lowest : FnScope ["top", "bottom", "by"] ["top", "bottom"] (defScope s_lowest) := ⟨rfl, rfl, rfl, by decide +kernel, rfl, by decide +kernel, by decide +kernel⟩
theorem sc_plus : FnScope ["one", "other"] ["one", "other"] (defScope s_plus) := ⟨rfl, rfl, rfl, by decide +kernel, rfl, by decide +kernel, by decide +kernel⟩
theorem sc_total : FnScope ["numbers", "found", "number"] ["numbers"] (defScope s_total) := ⟨rfl, rfl, rfl, by decide +kernel, rfl, by decide +kernel, by decide +kernel⟩
theorem sc_product : FnScope ["one", "other"] ["one", "other"] (defScope s_product) := ⟨rfl, rfl, rfl, by decide +kernel, rfl, by decide +kernel, by decide +kernel⟩
theorem sc_over : FnScope ["one", "other"] ["one", "other"] (defScope s_over) := ⟨rfl, rfl, rfl, by decide +kernel, rfl, by decide +kernel, by decide +kernel⟩
theorem sc_below : FnScope ["one", "other"] ["one", "other"] (defScope s_below) := ⟨rfl, rfl, rfl, by decide +kernel, rfl, by decide +kernel, by decide +kernel⟩
theorem sc__law_mixed : FnScope ["_law_cell", "_law_k", "_law_number_here"] ["_law_cell", "_law_k"] (defScope s__law_mixed) := ⟨rfl, rfl, rfl, by decide +kernel, rfl, by decide +kernel, by decide +kernel⟩
theorem sc__law_pile : FnScope ["_law_script", "_law_k", "_law_cell", "_law_digits"] ["_law_script", "_law_k"] (defScope s__law_pile) := ⟨rfl, rfl, rfl, by decide +kernel, rfl, by decide +kernel, by decide +kernel⟩
theorem sc__law_take : FnScope ["_law_pile_here", "_law_many", "_law_digit"] ["_law_pile_here", "_law_many"] (defScope s__law_take) := ⟨rfl, rfl, rfl, by decide +kernel, rfl, by decide +kernel, by decide +kernel⟩
theorem sc__law_order : FnScope ["_law_pile_here", "_law_some", "_law_left", "_law_found"] ["_law_pile_here", "_law_some"] (defScope s__law_order) := ⟨rfl, rfl, rfl, by decide +kernel, rfl, by decide +kernel, by decide +kernel⟩
theorem sc__law_low : FnScope ["_law_high", "_law_under", "_law_one", "_law_other"] ["_law_high", "_law_under"] (defScope s__law_low) := ⟨rfl, rfl, rfl, by decide +kernel, rfl, by decide +kernel, by decide +kernel⟩
theorem sc__law_plus : FnScope ["_law_one", "_law_other"] ["_law_one", "_law_other"] (defScope s__law_plus) := ⟨rfl, rfl, rfl, by decide +kernel, rfl, by decide +kernel, by decide +kernel⟩
theorem sc__law_minus : FnScope ["_law_one", "_law_other"] ["_law_one", "_law_other"] (defScope s__law_minus) := ⟨rfl, rfl, rfl, by decide +kernel, rfl, by decide +kernel, by decide +kernel⟩
theorem sc__law_by : FnScope ["_law_one", "_law_other"] ["_law_one", "_law_other"] (defScope s__law_by) := ⟨rfl, rfl, rfl, by decide +kernel, rfl, by decide +kernel, by decide +kernel⟩
theorem sc__law_number : FnScope ["_law_pile_here", "_law_kind", "_law_top"] ["_law_pile_here"] (defScope s__law_number) := ⟨rfl, rfl, rfl, by decide +kernel, rfl, by decide +kernel, by decide +kernel⟩
theorem sc__law_goes : FnScope ["_law_one", "_law_two", "_law_three"] ["_law_one", "_law_two", "_law_three"] (defScope s__law_goes) := ⟨rfl, rfl, rfl, by decide +kernel, rfl, by decide +kernel, by decide +kernel⟩
theorem sc_law : FnScope ["_law_script", "_law_k", "_law_pile_here", "_law_one", "_law_two", "_law_three", "_law_some", "_law_j", "_law_at", "_law_number_here"] ["_law_script"] (defScope s_law) := ⟨rfl, rfl, rfl, by decide +kernel, rfl, by decide +kernel, by decide +kernel⟩
theorem ok_divisor (B : Bx K mg) (F : FunD K "divisor" "divisor" (defArgs s_divisor) (defBody s_divisor) (defScope s_divisor) [] [] f fd) :
    FnOk P w K mg base (L2.CX P w) 1 f fd ["one", "other"] (spD K (T K) [false, false] f_divisor) := by
  refine fn_okD F sc_divisor rfl rfl (by decide) (fun cdv A outer s H E hr hp tk => ?_)
  have hu := hr.units
  exact (xss_cons (xs_while hp (xte_v (xt_ne hu (xv_var 1) xv_int))
  (xss_one (xs_par 0 1 rfl sc_divisor.nd (by decide) (xas_cons (xd_fz (xe_nameF 1)) (xas_cons (xd_fz (xe_v (xv_mod (xv_var 0) (xv_var 1)))) xas_nil)))))
  (xss_one (xs_retVar 0)))
theorem ok_lowest (B : Bx K mg) (F : FunD K "lowest" "lowest" (defArgs s_lowest) (defBody s_lowest) (defScope s_lowest) [.int 1] [] f fd) {a_divisor : Addr} {e_divisor : FuncData} (D_divisor : DefOk P w K mg base (T K) "divisor" a_divisor e_divisor 1 ["one", "other"] [false, false] f_divisor) (kb_divisor_2 : KB K e_divisor ["one", "other"] 2 [] [.p 0, .p 1] []) :
    FnOk P w K mg base (L2.CX P w) 2 f fd ["top", "bottom"] (spD K (T K) [false, false] f_lowest) := by
  refine fn_okD F sc_lowest rfl rfl (by decide) (fun cdv A outer s H E hr hp tk => ?_)
  have hu := hr.units
  exact (xss_cons (xs_if (xte_v (xt_eq hu (xv_var 1) xv_int))
  (xss_one (xs_raise rfl tk B.xc_NoNumber rfl))
  xss_nil)
  (xss_cons (xs_set 2 sc_lowest.nd (xe_v (xv_e (xe_callKp D_divisor hr takes0 kb_divisor_2 (fun _ => .nil) (xas_cons (xd_fz (xe_v (xv_callB call_abs cv_abs rfl B.z_abs rfl (xa_cons (xv_var 0) xa_nil)))) (xas_cons (xd_fz (xe_v (xv_callB call_abs cv_abs rfl B.z_abs rfl (xa_cons (xv_var 1) xa_nil)))) xas_nil)) (fun ds es h1 h2 => match ds, h1, es, h2 with | [_, _], _, [], _ => rfl)))))
  (xss_cons (xs_if (xte_v (xt_lt (xv_var 1) xv_int))
  (xss_one (xs_set 2 sc_lowest.nd (xe_v (xv_neg (xv_var 2)))))
  xss_nil)
  (xss_one (xs_ret (xe_v (xv_tup (xa_cons (xv_div (xv_var 0) (xv_var 2)) (xa_cons (xv_div (xv_var 1) (xv_var 2)) xa_nil)))))))))
theorem ok_plus (B : Bx K mg) (F : FunD K "plus" "plus" (defArgs s_plus) (defBody s_plus) (defScope s_plus) [] [] f fd) {a_lowest : Addr} {e_lowest : FuncData} (D_lowest : DefOk P w K mg base (T K) "lowest" a_lowest e_lowest 2 ["top", "bottom"] [false, false] f_lowest) (kb_lowest_2 : KB K e_lowest ["top", "bottom"] 2 [] [.p 0, .p 1] [.int 1]) :
    FnOk P w K mg base (L2.CX P w) 3 f fd ["one", "other"] (spD K (T K) [false, false] f_plus) := by
  refine fn_okD F sc_plus rfl rfl (by decide) (fun cdv A outer s H E hr hp tk => ?_)
  have hu := hr.units
  exact (xss_one (xs_ret (xe_v (xv_e (xe_callKp D_lowest hr takes0 kb_lowest_2 (fun _ => .cons (.int 1) (.nil)) (xas_cons (xd_fz (xe_v (xv_add (xv_mul (xv_ix (xv_var 0) xv_int) (xv_ix (xv_var 1) xv_int)) (xv_mul (xv_ix (xv_var 1) xv_int) (xv_ix (xv_var 0) xv_int))))) (xas_cons (xd_fz (xe_v (xv_mul (xv_ix (xv_var 0) xv_int) (xv_ix (xv_var 1) xv_int)))) xas_nil)) (fun ds es h1 h2 => match ds, h1, es, h2 with | [_, _], _, [], _ => rfl))))))
theorem ok_total (B : Bx K mg) (F : FunD K "total" "total" (defArgs s_total) (defBody s_total) (defScope s_total) [] [] f fd) {a_plus : Addr} {e_plus : FuncData} (D_plus : DefOk P w K mg base (T K) "plus" a_plus e_plus 3 ["one", "other"] [false, false] f_plus) (kb_plus_2 : KB K e_plus ["one", "other"] 2 [] [.p 0, .p 1] []) :
    FnOk P w K mg base (L2.CX P w) 4 f fd ["numbers"] (spD K (T K) [false] f_total) := by
  refine fn_okD F sc_total rfl rfl (by decide) (fun cdv A outer s H E hr hp tk => ?_)
  have hu := hr.units
  exact (xss_cons (xs_set 1 sc_total.nd (xe_v (xv_glob (v := .ref (He.ga K "NONE")) rfl B.g_NONE rfl (fun H => .tup (B.k_NONE H) (.cons (.int 0) (.cons (.int 1) (.nil)))))))
  (xss_cons (xs_for hp rfl (xi_seq (xd_fz (xe_nameF 0))) (xg_name 2 sc_total.nd)
  (xss_one (xs_set 1 sc_total.nd (xe_v (xv_e (xe_callKp D_plus hr takes0 kb_plus_2 (fun _ => .nil) (xas_cons (xd_fz (xe_nameF 1)) (xas_cons (xd_fz (xe_nameF 2)) xas_nil)) (fun ds es h1 h2 => match ds, h1, es, h2 with | [_, _], _, [], _ => rfl)))))))
  (xss_one (xs_retVar 1))))
theorem ok_product (B : Bx K mg) (F : FunD K "product" "product" (defArgs s_product) (defBody s_product) (defScope s_product) [] [] f fd) {a_lowest : Addr} {e_lowest : FuncData} (D_lowest : DefOk P w K mg base (T K) "lowest" a_lowest e_lowest 2 ["top", "bottom"] [false, false] f_lowest) (kb_lowest_2 : KB K e_lowest ["top", "bottom"] 2 [] [.p 0, .p 1] [.int 1]) :
    FnOk P w K mg base (L2.CX P w) 3 f fd ["one", "other"] (spD K (T K) [false, false] f_product) := by
  refine fn_okD F sc_product rfl rfl (by decide) (fun cdv A outer s H E hr hp tk => ?_)
  have hu := hr.units
  exact (xss_one (xs_ret (xe_v (xv_e (xe_callKp D_lowest hr takes0 kb_lowest_2 (fun _ => .cons (.int 1) (.nil)) (xas_cons (xd_fz (xe_v (xv_mul (xv_ix (xv_var 0) xv_int) (xv_ix (xv_var 1) xv_int)))) (xas_cons (xd_fz (xe_v (xv_mul (xv_ix (xv_var 0) xv_int) (xv_ix (xv_var 1) xv_int)))) xas_nil)) (fun ds es h1 h2 => match ds, h1, es, h2 with | [_, _], _, [], _ => rfl))))))
theorem ok_over (B : Bx K mg) (F : FunD K "over" "over" (defArgs s_over) (defBody s_over) (defScope s_over) [] [] f fd) {a_lowest : Addr} {e_lowest : FuncData} (D_lowest : DefOk P w K mg base (T K) "lowest" a_lowest e_lowest 2 ["top", "bottom"] [false, false] f_lowest) (kb_lowest_2 : KB K e_lowest ["top", "bottom"] 2 [] [.p 0, .p 1] [.int 1]) :
    FnOk P w K mg base (L2.CX P w) 3 f fd ["one", "other"] (spD K (T K) [false, false] f_over) := by
  refine fn_okD F sc_over rfl rfl (by decide) (fun cdv A outer s H E hr hp tk => ?_)
  have hu := hr.units
  exact (xss_cons (xs_if (xte_v (xt_eq hu (xv_ix (xv_var 1) xv_int) xv_int))
  (xss_one (xs_raise rfl tk B.xc_NoNumber rfl))
  xss_nil)
  (xss_one (xs_ret (xe_v (xv_e (xe_callKp D_lowest hr takes0 kb_lowest_2 (fun _ => .cons (.int 1) (.nil)) (xas_cons (xd_fz (xe_v (xv_mul (xv_ix (xv_var 0) xv_int) (xv_ix (xv_var 1) xv_int)))) (xas_cons (xd_fz (xe_v (xv_mul (xv_ix (xv_var 0) xv_int) (xv_ix (xv_var 1) xv_int)))) xas_nil)) (fun ds es h1 h2 => match ds, h1, es, h2 with | [_, _], _, [], _ => rfl)))))))
theorem ok_below (B : Bx K mg) (F : FunD K "below" "below" (defArgs s_below) (defBody s_below) (defScope s_below) [] [] f fd) :
    FnOk P w K mg base (L2.CX P w) 1 f fd ["one", "other"] (spD K (T K) [false, false] f_below) := by
  refine fn_okD F sc_below rfl rfl (by decide) (fun cdv A outer s H E hr hp tk => ?_)
  have hu := hr.units
  exact (xss_one (xs_ret (xe_v (xv_lt (xv_mul (xv_ix (xv_var 0) xv_int) (xv_ix (xv_var 1) xv_int)) (xv_mul (xv_ix (xv_var 1) xv_int) (xv_ix (xv_var 0) xv_int))))))
theorem ok__law_mixed (B : Bx K mg) (F : FunD K "_law_mixed" "_law_mixed" (defArgs s__law_mixed) (defBody s__law_mixed) (defScope s__law_mixed) [] [] f fd) :
    FnOk P w K mg base (L2.CX P w) 1 f fd ["_law_cell", "_law_k"] (spD K (T K) [false, false] f__law_mixed) := by
  refine fn_okD F sc__law_mixed rfl rfl (by decide) (fun cdv A outer s H E hr hp tk => ?_)
  have hu := hr.units
  exact (xss_cons (xs_set 2 sc__law_mixed.nd (xe_v (xv_mod (xv_add (xv_add (xv_mul (xv_var 0) xv_int) (xv_mul (xv_var 1) xv_int)) xv_int) xv_int)))
  (xss_cons (xs_set 2 sc__law_mixed.nd (xe_v (xv_mod (xv_mul (xv_var 2) (xv_var 2)) xv_int)))
  (xss_one (xs_ret (xe_v (xv_div (xv_mod (xv_mul (xv_var 2) (xv_var 2)) xv_int) xv_int))))))
theorem ok__law_pile (B : Bx K mg) (F : FunD K "_law_pile" "_law_pile" (defArgs s__law_pile) (defBody s__law_pile) (defScope s__law_pile) [] [] f fd) :
    FnOk P w K mg base (L2.CX P w) 1 f fd ["_law_script", "_law_k"] (spD K (T K) [false, false] f__law_pile) := by
  refine fn_okD F sc__law_pile rfl rfl (by decide) (fun cdv A outer s H E hr hp tk => ?_)
  have hu := hr.units
  exact (xss_cons (xs_set 2 sc__law_pile.nd (xe_v xv_int))
  (xss_cons (xs_if (xte_v (xt_lt (xv_var 1) (xv_callB call_lenA cv_len rfl B.z_len rfl (xa_cons (xv_var 0) xa_nil))))
  (xss_one (xs_set 2 sc__law_pile.nd (xe_v (xv_ix (xv_var 0) (xv_var 1)))))
  xss_nil)
  (xss_cons (xs_set 3 sc__law_pile.nd (xe_v (xv_mod (xv_var 2) (xv_mul (xv_mul (xv_pow xv_int xv_int) (xv_pow xv_int xv_int)) (xv_pow xv_int xv_int)))))
  (xss_one (xs_ret (xe_lst (xas_cons (xd_fz (xe_v (xv_mul (xv_var 3) (xv_callTy call_int1 cv_int rfl B.z_int rfl (xa_cons (xv_ge (xv_callB call_abs cv_abs rfl B.z_abs rfl (xa_cons (xv_var 2) xa_nil)) (xv_pow xv_int xv_int)) xa_nil))))) (xas_cons (xd_fz (xe_v (xv_mod (xv_var 2) xv_int))) (xas_cons (xd_fz (xe_v (xv_mul xv_int (xv_var 1)))) xas_nil)))))))))
theorem ok__law_take (B : Bx K mg) (F : FunD K "_law_take" "_law_take" (defArgs s__law_take) (defBody s__law_take) (defScope s__law_take) [] [] f fd) {a__law_mixed : Addr} {e__law_mixed : FuncData} (D__law_mixed : DefOk P w K mg base (T K) "_law_mixed" a__law_mixed e__law_mixed 1 ["_law_cell", "_law_k"] [false, false] f__law_mixed) (kb__law_mixed_2 : KB K e__law_mixed ["_law_cell", "_law_k"] 2 [] [.p 0, .p 1] []) :
    FnOk P w K mg base (L2.CX P w) 2 f fd ["_law_pile_here", "_law_many"] (spD K (T K) [true, false] f__law_take) := by
  refine fn_okD F sc__law_take rfl rfl (by decide) (fun cdv A outer s H E hr hp tk => ?_)
  have hu := hr.units
  exact (xss_cons (xs_if (xte_v (xt_eq hu (xv_ix (xv_var 0) xv_int) xv_int))
  (xss_cons (xs_setIx 0 (xd_fz (xe_v (xv_add (xv_ix (xv_var 0) xv_int) xv_int))) (xd_fz (xe_v xv_int)))
  (xss_one (xs_ret (xe_v (xv_mod (xv_e (xe_callKp D__law_mixed hr takes0 kb__law_mixed_2 (fun _ => .nil) (xas_cons (xd_fz (xe_v (xv_ix (xv_var 0) xv_int))) (xas_cons (xd_fz (xe_v (xv_ix (xv_var 0) xv_int))) xas_nil)) (fun ds es h1 h2 => match ds, h1, es, h2 with | [_, _], _, [], _ => rfl))) (xv_var 1))))))
  xss_nil)
  (xss_cons (xs_set 2 sc__law_take.nd (xe_v (xv_mod (xv_ix (xv_var 0) xv_int) (xv_var 1))))
  (xss_cons (xs_setIx 0 (xd_fz (xe_v (xv_div (xv_ix (xv_var 0) xv_int) (xv_var 1)))) (xd_fz (xe_v xv_int)))
  (xss_one (xs_retVar 2)))))
theorem ok__law_order (B : Bx K mg) (F : FunD K "_law_order" "_law_order" (defArgs s__law_order) (defBody s__law_order) (defScope s__law_order) [] [] f fd) {a__law_take : Addr} {e__law_take : FuncData} (D__law_take : DefOk P w K mg base (T K) "_law_take" a__law_take e__law_take 2 ["_law_pile_here", "_law_many"] [true, false] f__law_take) (bd__law_take : Binds K e__law_take ["_law_pile_here", "_law_many"] []) :
    FnOk P w K mg base (L2.CX P w) 3 f fd ["_law_pile_here", "_law_some"] (spD K (T K) [true, false] f__law_order) := by
  refine fn_okD F sc__law_order rfl rfl (by decide) (fun cdv A outer s H E hr hp tk => ?_)
  have hu := hr.units
  exact (xss_cons (xs_set 2 sc__law_order.nd (xe_callTyL call_list_of cl_listOf rfl B.z_list rfl (xas_cons (xd_fz (xe_nameF 1)) xas_nil)))
  (xss_cons (xs_set 3 sc__law_order.nd (xe_lst xas_nil))
  (xss_cons (xs_while hp (xte_v (xt_ne hu (xv_var 2) (xv_lst xa_nil)))
  (xss_one (xs_app 3 (xe_popAt 2 (xd_fz (xe_callIo D__law_take hr tk bd__law_take (xga_io 0 (xga_rd (xd_fz (xe_v (xv_callB call_lenA cv_len rfl B.z_len rfl (xa_cons (xv_var 2) xa_nil)))) xga_nil))))))))
  (xss_one (xs_retVar 3)))))
theorem ok__law_low (B : Bx K mg) (F : FunD K "_law_low" "_law_low" (defArgs s__law_low) (defBody s__law_low) (defScope s__law_low) [] [] f fd) :
    FnOk P w K mg base (L2.CX P w) 1 f fd ["_law_high", "_law_under"] (spD K (T K) [false, false] f__law_low) := by
  refine fn_okD F sc__law_low rfl rfl (by decide) (fun cdv A outer s H E hr hp tk => ?_)
  have hu := hr.units
  exact (xss_cons (xs_if (xte_v (xt_lt (xv_var 1) xv_int))
  (xss_one (xs_par 0 1 rfl sc__law_low.nd (by decide) (xas_cons (xd_fz (xe_v (xv_sub xv_int (xv_var 0)))) (xas_cons (xd_fz (xe_v (xv_sub xv_int (xv_var 1)))) xas_nil))))
  xss_nil)
  (xss_cons (xs_par 2 3 rfl sc__law_low.nd (by decide) (xas_cons (xd_fz (xe_v (xv_callB call_abs cv_abs rfl B.z_abs rfl (xa_cons (xv_var 0) xa_nil)))) (xas_cons (xd_fz (xe_nameF 1)) xas_nil)))
  (xss_cons (xs_while hp (xte_v (xt_ne hu (xv_var 3) xv_int))
  (xss_one (xs_par 2 3 rfl sc__law_low.nd (by decide) (xas_cons (xd_fz (xe_nameF 3)) (xas_cons (xd_fz (xe_v (xv_mod (xv_var 2) (xv_var 3)))) xas_nil)))))
  (xss_one (xs_ret (xe_v (xv_tup (xa_cons (xv_div (xv_var 0) (xv_var 2)) (xa_cons (xv_div (xv_var 1) (xv_var 2)) xa_nil)))))))))
theorem ok__law_plus (B : Bx K mg) (F : FunD K "_law_plus" "_law_plus" (defArgs s__law_plus) (defBody s__law_plus) (defScope s__law_plus) [] [] f fd) {a__law_low : Addr} {e__law_low : FuncData} (D__law_low : DefOk P w K mg base (T K) "_law_low" a__law_low e__law_low 1 ["_law_high", "_law_under"] [false, false] f__law_low) (kb__law_low_2 : KB K e__law_low ["_law_high", "_law_under"] 2 [] [.p 0, .p 1] []) :
    FnOk P w K mg base (L2.CX P w) 2 f fd ["_law_one", "_law_other"] (spD K (T K) [false, false] f__law_plus) := by
  refine fn_okD F sc__law_plus rfl rfl (by decide) (fun cdv A outer s H E hr hp tk => ?_)
  have hu := hr.units
  exact (xss_one (xs_ret (xe_v (xv_e (xe_callKp D__law_low hr takes0 kb__law_low_2 (fun _ => .nil) (xas_cons (xd_fz (xe_v (xv_add (xv_mul (xv_ix (xv_var 0) xv_int) (xv_ix (xv_var 1) xv_int)) (xv_mul (xv_ix (xv_var 1) xv_int) (xv_ix (xv_var 0) xv_int))))) (xas_cons (xd_fz (xe_v (xv_mul (xv_ix (xv_var 0) xv_int) (xv_ix (xv_var 1) xv_int)))) xas_nil)) (fun ds es h1 h2 => match ds, h1, es, h2 with | [_, _], _, [], _ => rfl))))))
theorem ok__law_minus (B : Bx K mg) (F : FunD K "_law_minus" "_law_minus" (defArgs s__law_minus) (defBody s__law_minus) (defScope s__law_minus) [] [] f fd) {a__law_low : Addr} {e__law_low : FuncData} (D__law_low : DefOk P w K mg base (T K) "_law_low" a__law_low e__law_low 1 ["_law_high", "_law_under"] [false, false] f__law_low) (kb__law_low_2 : KB K e__law_low ["_law_high", "_law_under"] 2 [] [.p 0, .p 1] []) :
    FnOk P w K mg base (L2.CX P w) 2 f fd ["_law_one", "_law_other"] (spD K (T K) [false, false] f__law_minus) := by
  refine fn_okD F sc__law_minus rfl rfl (by decide) (fun cdv A outer s H E hr hp tk => ?_)
  have hu := hr.units
  exact (xss_one (xs_ret (xe_v (xv_e (xe_callKp D__law_low hr takes0 kb__law_low_2 (fun _ => .nil) (xas_cons (xd_fz (xe_v (xv_sub (xv_mul (xv_ix (xv_var 0) xv_int) (xv_ix (xv_var 1) xv_int)) (xv_mul (xv_ix (xv_var 1) xv_int) (xv_ix (xv_var 0) xv_int))))) (xas_cons (xd_fz (xe_v (xv_mul (xv_ix (xv_var 0) xv_int) (xv_ix (xv_var 1) xv_int)))) xas_nil)) (fun ds es h1 h2 => match ds, h1, es, h2 with | [_, _], _, [], _ => rfl))))))
theorem ok__law_by (B : Bx K mg) (F : FunD K "_law_by" "_law_by" (defArgs s__law_by) (defBody s__law_by) (defScope s__law_by) [] [] f fd) {a__law_low : Addr} {e__law_low : FuncData} (D__law_low : DefOk P w K mg base (T K) "_law_low" a__law_low e__law_low 1 ["_law_high", "_law_under"] [false, false] f__law_low) (kb__law_low_2 : KB K e__law_low ["_law_high", "_law_under"] 2 [] [.p 0, .p 1] []) :
    FnOk P w K mg base (L2.CX P w) 2 f fd ["_law_one", "_law_other"] (spD K (T K) [false, false] f__law_by) := by
  refine fn_okD F sc__law_by rfl rfl (by decide) (fun cdv A outer s H E hr hp tk => ?_)
  have hu := hr.units
  exact (xss_one (xs_ret (xe_v (xv_e (xe_callKp D__law_low hr takes0 kb__law_low_2 (fun _ => .nil) (xas_cons (xd_fz (xe_v (xv_mul (xv_ix (xv_var 0) xv_int) (xv_ix (xv_var 1) xv_int)))) (xas_cons (xd_fz (xe_v (xv_mul (xv_ix (xv_var 0) xv_int) (xv_ix (xv_var 1) xv_int)))) xas_nil)) (fun ds es h1 h2 => match ds, h1, es, h2 with | [_, _], _, [], _ => rfl))))))
theorem ok__law_number (B : Bx K mg) (F : FunD K "_law_number" "_law_number" (defArgs s__law_number) (defBody s__law_number) (defScope s__law_number) [] [] f fd) {a__law_take : Addr} {e__law_take : FuncData} (D__law_take : DefOk P w K mg base (T K) "_law_take" a__law_take e__law_take 2 ["_law_pile_here", "_law_many"] [true, false] f__law_take) {a__law_low : Addr} {e__law_low : FuncData} (D__law_low : DefOk P w K mg base (T K) "_law_low" a__law_low e__law_low 1 ["_law_high", "_law_under"] [false, false] f__law_low) (kb__law_low_2 : KB K e__law_low ["_law_high", "_law_under"] 2 [] [.p 0, .p 1] []) (bd__law_take : Binds K e__law_take ["_law_pile_here", "_law_many"] []) :
    FnOk P w K mg base (L2.CX P w) 3 f fd ["_law_pile_here"] (spD K (T K) [true] f__law_number) := by
  refine fn_okD F sc__law_number rfl rfl (by decide) (fun cdv A outer s H E hr hp tk => ?_)
  have hu := hr.units
  exact (xss_cons (xs_set 1 sc__law_number.nd (xe_callIo D__law_take hr tk bd__law_take (xga_io 0 (xga_rd (xd_fz (xe_v xv_int)) xga_nil))))
  (xss_cons (xs_if (xte_v (xt_eq hu (xv_var 1) xv_int))
  (xss_cons (xs_set 2 sc__law_number.nd (xe_add (xd_fz (xe_mul (xd_fz (xe_callIo D__law_take hr tk bd__law_take (xga_io 0 (xga_rd (xd_fz (xe_v (xv_pow xv_int xv_int))) xga_nil)))) (xd_fz (xe_v (xv_pow xv_int xv_int))))) (xd_fz (xe_callIo D__law_take hr tk bd__law_take (xga_io 0 (xga_rd (xd_fz (xe_v (xv_pow xv_int xv_int))) xga_nil))))))
  (xss_cons (xs_if (xte_eq hu (xd_fz (xe_callIo D__law_take hr tk bd__law_take (xga_io 0 (xga_rd (xd_fz (xe_v xv_int)) xga_nil)))) (xd_fz (xe_v xv_int)))
  (xss_one (xs_set 2 sc__law_number.nd (xe_v (xv_sub xv_int (xv_var 2)))))
  xss_nil)
  (xss_one (xs_ret (xe_callKp D__law_low (hr.mono (by decide)) tk kb__law_low_2 (fun _ => .nil) (xas_cons (xd_fz (xe_nameF 2)) (xas_cons (xd_fz (xe_add (xd_fz (xe_add (xd_fz (xe_v xv_int)) (xd_fz (xe_mul (xd_fz (xe_callIo D__law_take hr tk bd__law_take (xga_io 0 (xga_rd (xd_fz (xe_v (xv_pow xv_int xv_int))) xga_nil)))) (xd_fz (xe_v (xv_pow xv_int xv_int))))))) (xd_fz (xe_callIo D__law_take hr tk bd__law_take (xga_io 0 (xga_rd (xd_fz (xe_v (xv_pow xv_int xv_int))) xga_nil)))))) xas_nil)) (fun ds es h1 h2 => match ds, h1, es, h2 with | [_, _], _, [], _ => rfl))))))
  xss_nil)
  (xss_cons (xs_if (xte_v (xt_lt (xv_var 1) xv_int))
  (xss_one (xs_ret (xe_callKp D__law_low (hr.mono (by decide)) tk kb__law_low_2 (fun _ => .nil) (xas_cons (xd_fz (xe_sub (xd_fz (xe_callIo D__law_take hr tk bd__law_take (xga_io 0 (xga_rd (xd_fz (xe_v xv_int)) xga_nil)))) (xd_fz (xe_v xv_int)))) (xas_cons (xd_fz (xe_add (xd_fz (xe_v xv_int)) (xd_fz (xe_callIo D__law_take hr tk bd__law_take (xga_io 0 (xga_rd (xd_fz (xe_v xv_int)) xga_nil)))))) xas_nil)) (fun ds es h1 h2 => match ds, h1, es, h2 with | [_, _], _, [], _ => rfl))))
  xss_nil)
  (xss_one (xs_ret (xe_tup (xas_cons (xd_fz (xe_sub (xd_fz (xe_callIo D__law_take hr tk bd__law_take (xga_io 0 (xga_rd (xd_fz (xe_v xv_int)) xga_nil)))) (xd_fz (xe_v xv_int)))) (xas_cons (xd_fz (xe_v xv_int)) xas_nil))))))))
theorem ok__law_goes (B : Bx K mg) (F : FunD K "_law_goes" "_law_goes" (defArgs s__law_goes) (defBody s__law_goes) (defScope s__law_goes) [] [] f fd) {a_total : Addr} {e_total : FuncData} (D_total : DefOk P w K mg base (T K) "total" a_total e_total 4 ["numbers"] [false] f_total) {a_product : Addr} {e_product : FuncData} (D_product : DefOk P w K mg base (T K) "product" a_product e_product 3 ["one", "other"] [false, false] f_product) {a_below : Addr} {e_below : FuncData} (D_below : DefOk P w K mg base (T K) "below" a_below e_below 1 ["one", "other"] [false, false] f_below) (kb_below_2 : KB K e_below ["one", "other"] 2 [] [.p 0, .p 1] []) (kb_product_2 : KB K e_product ["one", "other"] 2 [] [.p 0, .p 1] []) (kb_total_1 : KB K e_total ["numbers"] 1 [] [.p 0] []) :
    FnOk P w K mg base (L2.CX P w) 5 f fd ["_law_one", "_law_two", "_law_three"] (spD K (T K) [false, false, false] f__law_goes) := by
  refine fn_okD F sc__law_goes rfl rfl (by decide) (fun cdv A outer s H E hr hp tk => ?_)
  have hu := hr.units
  exact (xss_cons (xs_if (xte_v (xt_w (xw_and (xt_val (xv_e (xe_callKp D_below (hr.mono (by decide)) takes0 kb_below_2 (fun _ => .nil) (xas_cons (xd_fz (xe_nameF 0)) (xas_cons (xd_fz (xe_nameF 1)) xas_nil)) (fun ds es h1 h2 => match ds, h1, es, h2 with | [_, _], _, [], _ => rfl)))) (xw_and (xt_val (xv_e (xe_callKp D_below (hr.mono (by decide)) takes0 kb_below_2 (fun _ => .nil) (xas_cons (xd_fz (xe_nameF 1)) (xas_cons (xd_fz (xe_nameF 2)) xas_nil)) (fun ds es h1 h2 => match ds, h1, es, h2 with | [_, _], _, [], _ => rfl)))) (xw_and1 (xt_not (xt_val (xv_e (xe_callKp D_below (hr.mono (by decide)) takes0 kb_below_2 (fun _ => .nil) (xas_cons (xd_fz (xe_nameF 0)) (xas_cons (xd_fz (xe_nameF 2)) xas_nil)) (fun ds es h1 h2 => match ds, h1, es, h2 with | [_, _], _, [], _ => rfl))))))))))
  (xss_one (xs_ret (xe_v xv_bl)))
  xss_nil)
  (xss_cons (xs_if (xte_v (xt_w (xw_or (xt_w (xw_and (xt_val (xv_e (xe_callKp D_below (hr.mono (by decide)) takes0 kb_below_2 (fun _ => .nil) (xas_cons (xd_fz (xe_nameF 0)) (xas_cons (xd_fz (xe_nameF 1)) xas_nil)) (fun ds es h1 h2 => match ds, h1, es, h2 with | [_, _], _, [], _ => rfl)))) (xw_and1 (xt_val (xv_e (xe_callKp D_below (hr.mono (by decide)) takes0 kb_below_2 (fun _ => .nil) (xas_cons (xd_fz (xe_nameF 1)) (xas_cons (xd_fz (xe_nameF 0)) xas_nil)) (fun ds es h1 h2 => match ds, h1, es, h2 with | [_, _], _, [], _ => rfl))))))) (xw_or1 (xt_val (xv_e (xe_callKp D_below (hr.mono (by decide)) takes0 kb_below_2 (fun _ => .nil) (xas_cons (xd_fz (xe_nameF 0)) (xas_cons (xd_fz (xe_nameF 0)) xas_nil)) (fun ds es h1 h2 => match ds, h1, es, h2 with | [_, _], _, [], _ => rfl))))))))
  (xss_one (xs_ret (xe_v xv_bl)))
  xss_nil)
  (xss_cons (xs_if (xte_v (xt_ne hu (xv_e (xe_callKp D_below (hr.mono (by decide)) takes0 kb_below_2 (fun _ => .nil) (xas_cons (xd_fz (xe_nameF 0)) (xas_cons (xd_fz (xe_nameF 1)) xas_nil)) (fun ds es h1 h2 => match ds, h1, es, h2 with | [_, _], _, [], _ => rfl))) (xv_e (xe_callKp D_below (hr.mono (by decide)) takes0 kb_below_2 (fun _ => .nil) (xas_cons (xd_fz (xe_v (xv_e (xe_callKp D_total hr takes0 kb_total_1 (fun _ => .nil) (xas_cons (xd_fz (xe_lst (xas_cons (xd_fz (xe_nameF 0)) (xas_cons (xd_fz (xe_nameF 2)) xas_nil)))) xas_nil) (fun ds es h1 h2 => match ds, h1, es, h2 with | [_], _, [], _ => rfl))))) (xas_cons (xd_fz (xe_v (xv_e (xe_callKp D_total hr takes0 kb_total_1 (fun _ => .nil) (xas_cons (xd_fz (xe_lst (xas_cons (xd_fz (xe_nameF 1)) (xas_cons (xd_fz (xe_nameF 2)) xas_nil)))) xas_nil) (fun ds es h1 h2 => match ds, h1, es, h2 with | [_], _, [], _ => rfl))))) xas_nil)) (fun ds es h1 h2 => match ds, h1, es, h2 with | [_, _], _, [], _ => rfl)))))
  (xss_one (xs_ret (xe_v xv_bl)))
  xss_nil)
  (xss_cons (xs_if (xte_v (xt_eq hu (xv_or (xv_e (xe_callKp D_below (hr.mono (by decide)) takes0 kb_below_2 (fun _ => .nil) (xas_cons (xd_fz (xe_nameF 0)) (xas_cons (xd_fz (xe_nameF 1)) xas_nil)) (fun ds es h1 h2 => match ds, h1, es, h2 with | [_, _], _, [], _ => rfl))) (xv_one (xv_e (xe_callKp D_below (hr.mono (by decide)) takes0 kb_below_2 (fun _ => .nil) (xas_cons (xd_fz (xe_nameF 1)) (xas_cons (xd_fz (xe_nameF 0)) xas_nil)) (fun ds es h1 h2 => match ds, h1, es, h2 with | [_, _], _, [], _ => rfl))))) (xv_eq hu (xv_var 0) (xv_var 1))))
  (xss_one (xs_ret (xe_v xv_bl)))
  xss_nil)
  (xss_one (xs_ret (xe_v (xv_or (xv_not (xv_e (xe_callKp D_below (hr.mono (by decide)) takes0 kb_below_2 (fun _ => .nil) (xas_cons (xd_fz (xe_v (xv_tup (xa_cons xv_int (xa_cons xv_int xa_nil))))) (xas_cons (xd_fz (xe_nameF 2)) xas_nil)) (fun ds es h1 h2 => match ds, h1, es, h2 with | [_, _], _, [], _ => rfl)))) (xv_one (xv_eq hu (xv_e (xe_callKp D_below (hr.mono (by decide)) takes0 kb_below_2 (fun _ => .nil) (xas_cons (xd_fz (xe_nameF 0)) (xas_cons (xd_fz (xe_nameF 1)) xas_nil)) (fun ds es h1 h2 => match ds, h1, es, h2 with | [_, _], _, [], _ => rfl))) (xv_e (xe_callKp D_below (hr.mono (by decide)) takes0 kb_below_2 (fun _ => .nil) (xas_cons (xd_fz (xe_v (xv_e (xe_callKp D_product (hr.mono (by decide)) takes0 kb_product_2 (fun _ => .nil) (xas_cons (xd_fz (xe_nameF 0)) (xas_cons (xd_fz (xe_nameF 2)) xas_nil)) (fun ds es h1 h2 => match ds, h1, es, h2 with | [_, _], _, [], _ => rfl))))) (xas_cons (xd_fz (xe_v (xv_e (xe_callKp D_product (hr.mono (by decide)) takes0 kb_product_2 (fun _ => .nil) (xas_cons (xd_fz (xe_nameF 1)) (xas_cons (xd_fz (xe_nameF 2)) xas_nil)) (fun ds es h1 h2 => match ds, h1, es, h2 with | [_, _], _, [], _ => rfl))))) xas_nil)) (fun ds es h1 h2 => match ds, h1, es, h2 with | [_, _], _, [], _ => rfl)))))))))))))
theorem ok_law (B : Bx K mg) (F : FunD K "law" "law" (defArgs s_law) (defBody s_law) (defScope s_law) [] [] f fd) {a_total : Addr} {e_total : FuncData} (D_total : DefOk P w K mg base (T K) "total" a_total e_total 4 ["numbers"] [false] f_total) {a_product : Addr} {e_product : FuncData} (D_product : DefOk P w K mg base (T K) "product" a_product e_product 3 ["one", "other"] [false, false] f_product) {a_over : Addr} {e_over : FuncData} (D_over : DefOk P w K mg base (T K) "over" a_over e_over 3 ["one", "other"] [false, false] f_over) {a__law_pile : Addr} {e__law_pile : FuncData} (D__law_pile : DefOk P w K mg base (T K) "_law_pile" a__law_pile e__law_pile 1 ["_law_script", "_law_k"] [false, false] f__law_pile) {a__law_take : Addr} {e__law_take : FuncData} (D__law_take : DefOk P w K mg base (T K) "_law_take" a__law_take e__law_take 2 ["_law_pile_here", "_law_many"] [true, false] f__law_take) {a__law_order : Addr} {e__law_order : FuncData} (D__law_order : DefOk P w K mg base (T K) "_law_order" a__law_order e__law_order 3 ["_law_pile_here", "_law_some"] [true, false] f__law_order) {a__law_number : Addr} {e__law_number : FuncData} (D__law_number : DefOk P w K mg base (T K) "_law_number" a__law_number e__law_number 3 ["_law_pile_here"] [true] f__law_number) {a__law_goes : Addr} {e__law_goes : FuncData} (D__law_goes : DefOk P w K mg base (T K) "_law_goes" a__law_goes e__law_goes 5 ["_law_one", "_law_two", "_law_three"] [false, false, false] f__law_goes) (kb__law_goes_3 : KB K e__law_goes ["_law_one", "_law_two", "_law_three"] 3 [] [.p 0, .p 1, .p 2] []) (kb__law_pile_2 : KB K e__law_pile ["_law_script", "_law_k"] 2 [] [.p 0, .p 1] []) (kb_over_2 : KB K e_over ["one", "other"] 2 [] [.p 0, .p 1] []) (kb_product_2 : KB K e_product ["one", "other"] 2 [] [.p 0, .p 1] []) (kb_total_1 : KB K e_total ["numbers"] 1 [] [.p 0] []) (bd__law_number : Binds K e__law_number ["_law_pile_here"] []) (bd__law_order : Binds K e__law_order ["_law_pile_here", "_law_some"] []) (bd__law_take : Binds K e__law_take ["_law_pile_here", "_law_many"] []) :
    FnOk P w K mg base (L2.CX P w) 6 f fd ["_law_script"] (spD K (T K) [false] f_law) := by
  refine fn_okD F sc_law rfl rfl (by decide) (fun cdv A outer s H E hr hp tk => ?_)
  have hu := hr.units
  exact (xss_cons (xs_for hp rfl (xi_range1 B.z_range (xas_cons (xd_fz (xe_v xv_int)) xas_nil)) (xg_name 1 sc_law.nd)
  (xss_cons (xs_set 2 sc_law.nd (xe_callKp D__law_pile (hr.mono (by decide)) tk kb__law_pile_2 (fun _ => .nil) (xas_cons (xd_fz (xe_nameF 0)) (xas_cons (xd_fz (xe_nameF 1)) xas_nil)) (fun ds es h1 h2 => match ds, h1, es, h2 with | [_, _], _, [], _ => rfl)))
  (xss_cons (xs_un (xd_fz (xe_tup (xas_cons (xd_fz (xe_callIo D__law_number (hr.mono (by decide)) tk bd__law_number (xga_io 2 xga_nil))) (xas_cons (xd_fz (xe_callIo D__law_number (hr.mono (by decide)) tk bd__law_number (xga_io 2 xga_nil))) (xas_cons (xd_fz (xe_callIo D__law_number (hr.mono (by decide)) tk bd__law_number (xga_io 2 xga_nil))) xas_nil))))) (xg_tup rfl (xgs_cons (xg_name 3 sc_law.nd) (xgs_cons (xg_name 4 sc_law.nd) (xgs_cons (xg_name 5 sc_law.nd) xgs_nil)))))
  (xss_cons (xs_setLc 6 ([("_law_j", 7)] : List (Str × Nat)) rfl sc_law.nd (xi_range1 B.z_range (xas_cons (xd_fz (xe_callIo D__law_take (hr.mono (by decide)) tk bd__law_take (xga_io 2 (xga_rd (xd_fz (xe_v xv_int)) xga_nil)))) xas_nil)) (fun s H C cl fp => (xgw_name 7 sc_law.nd (by simp))) (fun s H C cl fp => xts_nil) (fun s H C cl fp => (xe_callIo D__law_number (hr.mono (by decide)) takes0 bd__law_number (xga_io 2 xga_nil))) (by show blkC ["_law_script", "_law_k", "_law_pile_here", "_law_one", "_law_two", "_law_three", "_law_some", "_law_j", "_law_at", "_law_number_here"] (defScope s_law) _ _ = true; decide +kernel))
  (xss_cons (xs_set 8 sc_law.nd (xe_callIo D__law_take (hr.mono (by decide)) tk bd__law_take (xga_io 2 (xga_rd (xd_fz (xe_v (xv_add (xv_callB call_lenA cv_len rfl B.z_len rfl (xa_cons (xv_var 6) xa_nil)) xv_int))) xga_nil))))
  (xss_cons (xs_if (xte_w (xwe_or (xte_ne hu (xd_fz (xe_callKp D_total (hr.mono (by decide)) tk kb_total_1 (fun _ => .nil) (xas_cons (xd_fz (xe_callIo D__law_order (hr.mono (by decide)) tk bd__law_order (xga_io 2 (xga_rd (xd_fz (xe_nameF 6)) xga_nil)))) xas_nil) (fun ds es h1 h2 => match ds, h1, es, h2 with | [_], _, [], _ => rfl))) (xd_fz (xe_v (xv_e (xe_callKp D_total (hr.mono (by decide)) takes0 kb_total_1 (fun _ => .nil) (xas_cons (xd_fz (xe_nameF 6)) xas_nil) (fun ds es h1 h2 => match ds, h1, es, h2 with | [_], _, [], _ => rfl)))))) (xwe_or1 (xte_v (xt_ne hu (xv_e (xe_callKp D_total (hr.mono (by decide)) takes0 kb_total_1 (fun _ => .nil) (xas_cons (xd_fz (xe_lst (xas_cons (xd_fz (xe_v (xv_e (xe_callKp D_total (hr.mono (by decide)) takes0 kb_total_1 (fun _ => .nil) (xas_cons (xd_fz (xe_slL (xd_fz (xe_nameF 6)) xpo_none (xpo_some (xv_var 8)))) xas_nil) (fun ds es h1 h2 => match ds, h1, es, h2 with | [_], _, [], _ => rfl))))) (xas_cons (xd_fz (xe_v (xv_e (xe_callKp D_total (hr.mono (by decide)) takes0 kb_total_1 (fun _ => .nil) (xas_cons (xd_fz (xe_slL (xd_fz (xe_nameF 6)) (xpo_some (xv_var 8)) xpo_none)) xas_nil) (fun ds es h1 h2 => match ds, h1, es, h2 with | [_], _, [], _ => rfl))))) xas_nil)))) xas_nil) (fun ds es h1 h2 => match ds, h1, es, h2 with | [_], _, [], _ => rfl))) (xv_e (xe_callKp D_total (hr.mono (by decide)) takes0 kb_total_1 (fun _ => .nil) (xas_cons (xd_fz (xe_nameF 6)) xas_nil) (fun ds es h1 h2 => match ds, h1, es, h2 with | [_], _, [], _ => rfl))))))))
  (xss_one (xs_ret (xe_v xv_bl)))
  xss_nil)
  (xss_cons (xs_if (xte_v (xt_ne hu (xv_e (xe_callKp D_product (hr.mono (by decide)) takes0 kb_product_2 (fun _ => .nil) (xas_cons (xd_fz (xe_v (xv_e (xe_callKp D_product (hr.mono (by decide)) takes0 kb_product_2 (fun _ => .nil) (xas_cons (xd_fz (xe_nameF 3)) (xas_cons (xd_fz (xe_nameF 4)) xas_nil)) (fun ds es h1 h2 => match ds, h1, es, h2 with | [_, _], _, [], _ => rfl))))) (xas_cons (xd_fz (xe_nameF 5)) xas_nil)) (fun ds es h1 h2 => match ds, h1, es, h2 with | [_, _], _, [], _ => rfl))) (xv_e (xe_callKp D_product (hr.mono (by decide)) takes0 kb_product_2 (fun _ => .nil) (xas_cons (xd_fz (xe_nameF 3)) (xas_cons (xd_fz (xe_v (xv_e (xe_callKp D_product (hr.mono (by decide)) takes0 kb_product_2 (fun _ => .nil) (xas_cons (xd_fz (xe_nameF 5)) (xas_cons (xd_fz (xe_nameF 4)) xas_nil)) (fun ds es h1 h2 => match ds, h1, es, h2 with | [_, _], _, [], _ => rfl))))) xas_nil)) (fun ds es h1 h2 => match ds, h1, es, h2 with | [_, _], _, [], _ => rfl)))))
  (xss_one (xs_ret (xe_v xv_bl)))
  xss_nil)
  (xss_cons (xs_if (xte_v (xt_ne hu (xv_e (xe_callKp D_product (hr.mono (by decide)) takes0 kb_product_2 (fun _ => .nil) (xas_cons (xd_fz (xe_nameF 5)) (xas_cons (xd_fz (xe_v (xv_e (xe_callKp D_total (hr.mono (by decide)) takes0 kb_total_1 (fun _ => .nil) (xas_cons (xd_fz (xe_nameF 6)) xas_nil) (fun ds es h1 h2 => match ds, h1, es, h2 with | [_], _, [], _ => rfl))))) xas_nil)) (fun ds es h1 h2 => match ds, h1, es, h2 with | [_, _], _, [], _ => rfl))) (xv_e (xe_callKp D_total (hr.mono (by decide)) takes0 kb_total_1 (fun _ => .nil) (xas_cons (xd_fz (xe_lc ([("_law_number_here", 9)] : List (Str × Nat)) rfl sc_law.nd (xi_seq (xd_fz (xe_nameF 6))) (fun s H C cl fp => (xgw_name 9 sc_law.nd (by simp))) (fun s H C cl fp => xts_nil) (fun s H C cl fp => (xe_v (xv_e (xe_callKp D_product (hr.mono (by decide)) takes0 kb_product_2 (fun _ => .nil) (xas_cons (xd_fz (xe_nameF 9)) (xas_cons (xd_fz (xe_nameF 5)) xas_nil)) (fun ds es h1 h2 => match ds, h1, es, h2 with | [_, _], _, [], _ => rfl))))) (by show blkC ["_law_script", "_law_k", "_law_pile_here", "_law_one", "_law_two", "_law_three", "_law_some", "_law_j", "_law_at", "_law_number_here"] (defScope s_law) _ _ = true; decide +kernel))) xas_nil) (fun ds es h1 h2 => match ds, h1, es, h2 with | [_], _, [], _ => rfl)))))
  (xss_one (xs_ret (xe_v xv_bl)))
  xss_nil)
  (xss_cons (xs_if (xte_v (xt_ne hu (xv_ix (xv_var 4) xv_int) xv_int))
  (xss_cons (xs_if (xte_v (xt_w (xw_or (xt_ne hu (xv_e (xe_callKp D_over (hr.mono (by decide)) takes0 kb_over_2 (fun _ => .nil) (xas_cons (xd_fz (xe_v (xv_e (xe_callKp D_product (hr.mono (by decide)) takes0 kb_product_2 (fun _ => .nil) (xas_cons (xd_fz (xe_nameF 3)) (xas_cons (xd_fz (xe_nameF 4)) xas_nil)) (fun ds es h1 h2 => match ds, h1, es, h2 with | [_, _], _, [], _ => rfl))))) (xas_cons (xd_fz (xe_nameF 4)) xas_nil)) (fun ds es h1 h2 => match ds, h1, es, h2 with | [_, _], _, [], _ => rfl))) (xv_var 3)) (xw_or1 (xt_ne hu (xv_e (xe_callKp D_product (hr.mono (by decide)) takes0 kb_product_2 (fun _ => .nil) (xas_cons (xd_fz (xe_v (xv_e (xe_callKp D_over (hr.mono (by decide)) takes0 kb_over_2 (fun _ => .nil) (xas_cons (xd_fz (xe_nameF 3)) (xas_cons (xd_fz (xe_nameF 4)) xas_nil)) (fun ds es h1 h2 => match ds, h1, es, h2 with | [_, _], _, [], _ => rfl))))) (xas_cons (xd_fz (xe_nameF 4)) xas_nil)) (fun ds es h1 h2 => match ds, h1, es, h2 with | [_, _], _, [], _ => rfl))) (xv_var 3))))))
  (xss_one (xs_ret (xe_v xv_bl)))
  xss_nil)
  (xss_one (xs_if (xte_v (xt_ne hu (xv_e (xe_callKp D_over (hr.mono (by decide)) takes0 kb_over_2 (fun _ => .nil) (xas_cons (xd_fz (xe_nameF 3)) (xas_cons (xd_fz (xe_nameF 4)) xas_nil)) (fun ds es h1 h2 => match ds, h1, es, h2 with | [_, _], _, [], _ => rfl))) (xv_e (xe_callKp D_product (hr.mono (by decide)) takes0 kb_product_2 (fun _ => .nil) (xas_cons (xd_fz (xe_nameF 3)) (xas_cons (xd_fz (xe_v (xv_e (xe_callKp D_over (hr.mono (by decide)) takes0 kb_over_2 (fun _ => .nil) (xas_cons (xd_fz (xe_v (xv_tup (xa_cons xv_int (xa_cons xv_int xa_nil))))) (xas_cons (xd_fz (xe_nameF 4)) xas_nil)) (fun ds es h1 h2 => match ds, h1, es, h2 with | [_, _], _, [], _ => rfl))))) xas_nil)) (fun ds es h1 h2 => match ds, h1, es, h2 with | [_, _], _, [], _ => rfl)))))
  (xss_one (xs_ret (xe_v xv_bl)))
  xss_nil)))
  xss_nil)
  (xss_one (xs_if (xte_v (xt_w (xw_or (xt_not (xt_val (xv_e (xe_callKp D__law_goes hr takes0 kb__law_goes_3 (fun _ => .nil) (xas_cons (xd_fz (xe_nameF 3)) (xas_cons (xd_fz (xe_nameF 4)) (xas_cons (xd_fz (xe_nameF 5)) xas_nil))) (fun ds es h1 h2 => match ds, h1, es, h2 with | [_, _, _], _, [], _ => rfl))))) (xw_or1 (xt_not (xt_val (xv_e (xe_callKp D__law_goes hr takes0 kb__law_goes_3 (fun _ => .nil) (xas_cons (xd_fz (xe_nameF 5)) (xas_cons (xd_fz (xe_nameF 3)) (xas_cons (xd_fz (xe_nameF 4)) xas_nil))) (fun ds es h1 h2 => match ds, h1, es, h2 with | [_, _, _], _, [], _ => rfl)))))))))
  (xss_one (xs_ret (xe_v xv_bl)))
  xss_nil)))))))))))
  (xss_one (xs_ret (xe_v xv_bl))))
end
theorem kb_divisor_2 {K : PySem.W.Frag} {f : Addr} {fd : FuncData} (F : FunD K "divisor" "divisor" (defArgs s_divisor) (defBody s_divisor) (defScope s_divisor) [] [] f fd) : KB K fd ["one", "other"] 2 [] [.p 0, .p 1] [] :=
  KB.ofN F fun kV doc pm an cdv ct us ws h1 h3 => match us, h1, ws, h3 with | [_, _], _, [], _ => rfl
theorem kb_lowest_2 {K : PySem.W.Frag} {f : Addr} {fd : FuncData} (F : FunD K "lowest" "lowest" (defArgs s_lowest) (defBody s_lowest) (defScope s_lowest) [.int 1] [] f fd) : KB K fd ["top", "bottom"] 2 [] [.p 0, .p 1] [.int 1] :=
  KB.ofD F (by simp) fun T kV doc pm an cdv ct us its ws h1 h2 h3 => match us, h1, its, h2, ws, h3 with | [_, _], _, [_], _, [], _ => ⟨_, rfl, rfl⟩
theorem kb_plus_2 {K : PySem.W.Frag} {f : Addr} {fd : FuncData} (F : FunD K "plus" "plus" (defArgs s_plus) (defBody s_plus) (defScope s_plus) [] [] f fd) : KB K fd ["one", "other"] 2 [] [.p 0, .p 1] [] :=
  KB.ofN F fun kV doc pm an cdv ct us ws h1 h3 => match us, h1, ws, h3 with | [_, _], _, [], _ => rfl
theorem kb__law_mixed_2 {K : PySem.W.Frag} {f : Addr} {fd : FuncData} (F : FunD K "_law_mixed" "_law_mixed" (defArgs s__law_mixed) (defBody s__law_mixed) (defScope s__law_mixed) [] [] f fd) : KB K fd ["_law_cell", "_law_k"] 2 [] [.p 0, .p 1] [] :=
  KB.ofN F fun kV doc pm an cdv ct us ws h1 h3 => match us, h1, ws, h3 with | [_, _], _, [], _ => rfl
theorem kb__law_low_2 {K : PySem.W.Frag} {f : Addr} {fd : FuncData} (F : FunD K "_law_low" "_law_low" (defArgs s__law_low) (defBody s__law_low) (defScope s__law_low) [] [] f fd) : KB K fd ["_law_high", "_law_under"] 2 [] [.p 0, .p 1] [] :=
  KB.ofN F fun kV doc pm an cdv ct us ws h1 h3 => match us, h1, ws, h3 with | [_, _], _, [], _ => rfl
theorem kb_below_2 {K : PySem.W.Frag} {f : Addr} {fd : FuncData} (F : FunD K "below" "below" (defArgs s_below) (defBody s_below) (defScope s_below) [] [] f fd) : KB K fd ["one", "other"] 2 [] [.p 0, .p 1] [] :=
  KB.ofN F fun kV doc pm an cdv ct us ws h1 h3 => match us, h1, ws, h3 with | [_, _], _, [], _ => rfl
theorem kb_product_2 {K : PySem.W.Frag} {f : Addr} {fd : FuncData} (F : FunD K "product" "product" (defArgs s_product) (defBody s_product) (defScope s_product) [] [] f fd) : KB K fd ["one", "other"] 2 [] [.p 0, .p 1] [] :=
  KB.ofN F fun kV doc pm an cdv ct us ws h1 h3 => match us, h1, ws, h3 with | [_, _], _, [], _ => rfl
theorem kb_total_1 {K : PySem.W.Frag} {f : Addr} {fd : FuncData} (F : FunD K "total" "total" (defArgs s_total) (defBody s_total) (defScope s_total) [] [] f fd) : KB K fd ["numbers"] 1 [] [.p 0] [] :=
  KB.ofN F fun kV doc pm an cdv ct us ws h1 h3 => match us, h1, ws, h3 with | [_], _, [], _ => rfl
theorem kb__law_goes_3 {K : PySem.W.Frag} {f : Addr} {fd : FuncData} (F : FunD K "_law_goes" "_law_goes" (defArgs s__law_goes) (defBody s__law_goes) (defScope s__law_goes) [] [] f fd) : KB K fd ["_law_one", "_law_two", "_law_three"] 3 [] [.p 0, .p 1, .p 2] [] :=
  KB.ofN F fun kV doc pm an cdv ct us ws h1 h3 => match us, h1, ws, h3 with | [_, _, _], _, [], _ => rfl
theorem kb_over_2 {K : PySem.W.Frag} {f : Addr} {fd : FuncData} (F : FunD K "over" "over" (defArgs s_over) (defBody s_over) (defScope s_over) [] [] f fd) : KB K fd ["one", "other"] 2 [] [.p 0, .p 1] [] :=
  KB.ofN F fun kV doc pm an cdv ct us ws h1 h3 => match us, h1, ws, h3 with | [_, _], _, [], _ => rfl
theorem kb__law_pile_2 {K : PySem.W.Frag} {f : Addr} {fd : FuncData} (F : FunD K "_law_pile" "_law_pile" (defArgs s__law_pile) (defBody s__law_pile) (defScope s__law_pile) [] [] f fd) : KB K fd ["_law_script", "_law_k"] 2 [] [.p 0, .p 1] [] :=
  KB.ofN F fun kV doc pm an cdv ct us ws h1 h3 => match us, h1, ws, h3 with | [_, _], _, [], _ => rfl
theorem bd__law_number {K : PySem.W.Frag} {f : Addr} {fd : FuncData} (F : FunD K "_law_number" "_law_number" (defArgs s__law_number) (defBody s__law_number) (defScope s__law_number) [] [] f fd) : Binds K fd ["_law_pile_here"] [] :=
  FunD.bindsN F fun kV doc pm an cdv ct us hl => match us, hl with | [_], _ => rfl
theorem bd__law_order {K : PySem.W.Frag} {f : Addr} {fd : FuncData} (F : FunD K "_law_order" "_law_order" (defArgs s__law_order) (defBody s__law_order) (defScope s__law_order) [] [] f fd) : Binds K fd ["_law_pile_here", "_law_some"] [] :=
  FunD.bindsN F fun kV doc pm an cdv ct us hl => match us, hl with | [_, _], _ => rfl
theorem bd__law_take {K : PySem.W.Frag} {f : Addr} {fd : FuncData} (F : FunD K "_law_take" "_law_take" (defArgs s__law_take) (defBody s__law_take) (defScope s__law_take) [] [] f fd) : Binds K fd ["_law_pile_here", "_law_many"] [] :=
  FunD.bindsN F fun kV doc pm an cdv ct us hl => match us, hl with | [_, _], _ => rfl
theorem facts {P : Program} {w : World} {K : PySem.W.Frag} {h : Heap} {mg : Str → Option Value} {f : Addr} (X : K.In h) (G : h.Ns mainGlobals mg) (hfa : mg ("law" : Str) = some (.ref f)) (c : SaysL fa fn exs K) :
    ∃ fd : FuncData, (∀ (s : Shared) (v : Value), BindsTo s fd ⟨[v], []⟩ [("_law_script", v)]) ∧ ∀ base : Heap, K.In base → base.Ns mainGlobals mg → FnOk P w K mg base (L2.CX P w) 6 f fd ["_law_script"] (spD K (T K) [false] f_law) := by
  have B := bx X G c
  obtain ⟨e_divisor, F_divisor⟩ := c.d.def_ 0 (d := d_divisor) rfl
  obtain ⟨e_lowest, F_lowest⟩ := c.d.def_ 1 (d := d_lowest) rfl
  obtain ⟨e_plus, F_plus⟩ := c.d.def_ 2 (d := d_plus) rfl
  obtain ⟨e_total, F_total⟩ := c.d.def_ 3 (d := d_total) rfl
  obtain ⟨e_product, F_product⟩ := c.d.def_ 4 (d := d_product) rfl
  obtain ⟨e_over, F_over⟩ := c.d.def_ 5 (d := d_over) rfl
  obtain ⟨e_below, F_below⟩ := c.d.def_ 6 (d := d_below) rfl
  obtain ⟨e__law_mixed, F__law_mixed⟩ := c.d.def_ 7 (d := d__law_mixed) rfl
  obtain ⟨e__law_pile, F__law_pile⟩ := c.d.def_ 8 (d := d__law_pile) rfl
  obtain ⟨e__law_take, F__law_take⟩ := c.d.def_ 9 (d := d__law_take) rfl
  obtain ⟨e__law_order, F__law_order⟩ := c.d.def_ 10 (d := d__law_order) rfl
  obtain ⟨e__law_low, F__law_low⟩ := c.d.def_ 11 (d := d__law_low) rfl
  obtain ⟨e__law_plus, F__law_plus⟩ := c.d.def_ 12 (d := d__law_plus) rfl
  obtain ⟨e__law_minus, F__law_minus⟩ := c.d.def_ 13 (d := d__law_minus) rfl
  obtain ⟨e__law_by, F__law_by⟩ := c.d.def_ 14 (d := d__law_by) rfl
  obtain ⟨e__law_number, F__law_number⟩ := c.d.def_ 15 (d := d__law_number) rfl
  obtain ⟨e__law_goes, F__law_goes⟩ := c.d.def_ 16 (d := d__law_goes) rfl
  obtain ⟨e_law, F_law⟩ := c.d.def_ 17 (d := d_law) rfl
  have e := hfa.symm.trans B.g_law
  cases e
  have b := FunD.bindsA (ps := ["_law_script"]) F_law fun _ _ _ _ _ _ us hl => match us, hl with | [_], _ => rfl
  refine ⟨e_law, fun s v => b s [v] rfl, fun base _ _ => ?_⟩
  have D_divisor : DefOk P w K mg base (T K) "divisor" _ e_divisor 1 ["one", "other"] [false, false] f_divisor := ⟨B.g_divisor, F_divisor.kp, ok_divisor B F_divisor⟩
  have D_lowest : DefOk P w K mg base (T K) "lowest" _ e_lowest 2 ["top", "bottom"] [false, false] f_lowest := ⟨B.g_lowest, F_lowest.kp, ok_lowest B F_lowest D_divisor (kb_divisor_2 F_divisor)⟩
  have D_plus : DefOk P w K mg base (T K) "plus" _ e_plus 3 ["one", "other"] [false, false] f_plus := ⟨B.g_plus, F_plus.kp, ok_plus B F_plus D_lowest (kb_lowest_2 F_lowest)⟩
  have D_total : DefOk P w K mg base (T K) "total" _ e_total 4 ["numbers"] [false] f_total := ⟨B.g_total, F_total.kp, ok_total B F_total D_plus (kb_plus_2 F_plus)⟩
  have D_product : DefOk P w K mg base (T K) "product" _ e_product 3 ["one", "other"] [false, false] f_product := ⟨B.g_product, F_product.kp, ok_product B F_product D_lowest (kb_lowest_2 F_lowest)⟩
  have D_over : DefOk P w K mg base (T K) "over" _ e_over 3 ["one", "other"] [false, false] f_over := ⟨B.g_over, F_over.kp, ok_over B F_over D_lowest (kb_lowest_2 F_lowest)⟩
  have D_below : DefOk P w K mg base (T K) "below" _ e_below 1 ["one", "other"] [false, false] f_below := ⟨B.g_below, F_below.kp, ok_below B F_below⟩
  have D__law_mixed : DefOk P w K mg base (T K) "_law_mixed" _ e__law_mixed 1 ["_law_cell", "_law_k"] [false, false] f__law_mixed := ⟨B.g__law_mixed, F__law_mixed.kp, ok__law_mixed B F__law_mixed⟩
  have D__law_pile : DefOk P w K mg base (T K) "_law_pile" _ e__law_pile 1 ["_law_script", "_law_k"] [false, false] f__law_pile := ⟨B.g__law_pile, F__law_pile.kp, ok__law_pile B F__law_pile⟩
  have D__law_take : DefOk P w K mg base (T K) "_law_take" _ e__law_take 2 ["_law_pile_here", "_law_many"] [true, false] f__law_take := ⟨B.g__law_take, F__law_take.kp, ok__law_take B F__law_take D__law_mixed (kb__law_mixed_2 F__law_mixed)⟩
  have D__law_order : DefOk P w K mg base (T K) "_law_order" _ e__law_order 3 ["_law_pile_here", "_law_some"] [true, false] f__law_order := ⟨B.g__law_order, F__law_order.kp, ok__law_order B F__law_order D__law_take (bd__law_take F__law_take)⟩
  have D__law_low : DefOk P w K mg base (T K) "_law_low" _ e__law_low 1 ["_law_high", "_law_under"] [false, false] f__law_low := ⟨B.g__law_low, F__law_low.kp, ok__law_low B F__law_low⟩
  have D__law_plus : DefOk P w K mg base (T K) "_law_plus" _ e__law_plus 2 ["_law_one", "_law_other"] [false, false] f__law_plus := ⟨B.g__law_plus, F__law_plus.kp, ok__law_plus B F__law_plus D__law_low (kb__law_low_2 F__law_low)⟩
  have D__law_minus : DefOk P w K mg base (T K) "_law_minus" _ e__law_minus 2 ["_law_one", "_law_other"] [false, false] f__law_minus := ⟨B.g__law_minus, F__law_minus.kp, ok__law_minus B F__law_minus D__law_low (kb__law_low_2 F__law_low)⟩
  have D__law_by : DefOk P w K mg base (T K) "_law_by" _ e__law_by 2 ["_law_one", "_law_other"] [false, false] f__law_by := ⟨B.g__law_by, F__law_by.kp, ok__law_by B F__law_by D__law_low (kb__law_low_2 F__law_low)⟩
  have D__law_number : DefOk P w K mg base (T K) "_law_number" _ e__law_number 3 ["_law_pile_here"] [true] f__law_number := ⟨B.g__law_number, F__law_number.kp, ok__law_number B F__law_number D__law_take D__law_low (kb__law_low_2 F__law_low) (bd__law_take F__law_take)⟩
  have D__law_goes : DefOk P w K mg base (T K) "_law_goes" _ e__law_goes 5 ["_law_one", "_law_two", "_law_three"] [false, false, false] f__law_goes := ⟨B.g__law_goes, F__law_goes.kp, ok__law_goes B F__law_goes D_total D_product D_below (kb_below_2 F_below) (kb_product_2 F_product) (kb_total_1 F_total)⟩
  exact ok_law B F_law D_total D_product D_over D__law_pile D__law_take D__law_order D__law_number D__law_goes (kb__law_goes_3 F__law_goes) (kb__law_pile_2 F__law_pile) (kb_over_2 F_over) (kb_product_2 F_product) (kb_total_1 F_total) (bd__law_number F__law_number) (bd__law_order F__law_order) (bd__law_take F__law_take)
/-! ### plain: what the defs come to -/
def mixI (b c : Int) : Int := let n := (b * 48271 + c * 69621 + 11) % 2147483629; let m := n * n % 2147483587; m * m % 2147483549 / 64
theorem mixed_eq {b c : Int} (hb : 0 ≤ b) (hb2 : b < 2147483629) (hc : 0 ≤ c) (hc2 : c < 1000000) : f__law_mixed [.int b, .int c] [] = some (.ret (.dat (.int (mixI b c))), []) := by
  have h1 : dMul (.int b) (.int 48271) = some (.int (b * 48271)) := dMul_of (m := 31) (n := 31) (by omega) (by decide)
  have h2 : dMul (.int c) (.int 69621) = some (.int (c * 69621)) := dMul_of (m := 31) (n := 31) (by omega) (by decide)
  have h3 : ∀ x : Int, dMul (.int (x % 2147483629)) (.int (x % 2147483629)) = some (.int (x % 2147483629 * (x % 2147483629))) := fun x => dMul_of (m := 31) (n := 31) (by omega) (by omega)
  have h4 : ∀ x : Int, dMul (.int (x % 2147483587)) (.int (x % 2147483587)) = some (.int (x % 2147483587 * (x % 2147483587))) := fun x => dMul_of (m := 31) (n := 31) (by omega) (by omega)
  have h5 : ∀ x : Int, dDiv (.int x) (.int 64) = some (.int (x / 64)) := fun x => dDiv_pos (n := 7) (by decide) (by decide)
  have m1 : ∀ x : Int, dMod (.int x) (.int 2147483629) = some (.int (x % 2147483629)) := fun x => dMod_pos (by decide)
  have m2 : ∀ x : Int, dMod (.int x) (.int 2147483587) = some (.int (x % 2147483587)) := fun x => dMod_pos (by decide)
  have m3 : ∀ x : Int, dMod (.int x) (.int 2147483549) = some (.int (x % 2147483549)) := fun x => dMod_pos (by decide)
  unfold f__law_mixed b__law_mixed mixI
  simp [gof, ienv, islots, sSeq, sIf, sT, sBind, Env.views, Env.sv, gTest, gOp2, gOp1, gVar, gC, dIx, atI, ixN, OO.view, viewAll, dEq_int, dNe_int, sNx, sRet, sSet, sV, Env.store, Env.put, DD.td, tdAll, sSetIx, sFz, setAt0, setAt, Env.pl, Env.pset, sRetVar, sReturn, sCallK, sCallIo, callIo, callRd, arr, pick, sNil, sCons, sNameF, sOp2, sOp1, sTe, sOpt, sNot, sOr, sAnd, gNot, gOr, gAnd, gOrV, gAndV, dAdd, dSub, dNeg, dLt, dLe, dGt, dGe, dCmp, gArgs, DL.gNil, DL.gCons, dLen, dAbs, dIntOf, dTup, dLst, sLst, sTup, sPar, uGo, uCons, uName, uNil, dIsi, Ty.is, DD.ty, dNot, dIsX, sTry, hAs, hOn, hNil, unAs, unEx, sDrop, sRaise, gE, gTe, slotOf, sItems, dItems, sArgsL, dListOf, h1, h2, h3, h4, h5, m1, m2, m3]
def Pile (o : OO) (n : Int) : Prop := ∃ a b c : Int, o = .lst [.dat (.int a), .dat (.int b), .dat (.int c)] ∧ 0 ≤ a ∧ 0 ≤ b ∧ b < 2147483629 ∧ 0 ≤ c ∧ c ≤ n
theorem take_ok {o : OO} {n m : Int} (h : Pile o n) (hn : n < 100000) (hm : 0 < m) (hm2 : m.natAbs < 2 ^ 100) : ∃ r o', f__law_take [.int m] [o] = some (.ret (.dat (.int r)), [o']) ∧ 0 ≤ r ∧ r < m ∧ Pile o' (n + 1) := by
  obtain ⟨a, b, c, rfl, h1, h2, h3, h4, h5⟩ := h
  by_cases ha : a = 0
  · subst ha
    refine ⟨mixI b (c + 1) % m, .lst [.dat (.int 0), .dat (.int b), .dat (.int (c + 1))], ?_, Int.emod_nonneg _ (by omega), Int.emod_lt_of_pos _ hm, ⟨0, b, c + 1, rfl, by omega, h2, h3, by omega, by omega⟩⟩
    have e := mixed_eq (b := b) (c := c + 1) h2 h3 (by omega) (by omega)
    unfold f__law_take b__law_take
    simp [gof, ienv, islots, sSeq, sIf, sT, sBind, Env.views, Env.sv, gTest, gOp2, gOp1, gVar, gC, dIx, atI, ixN, OO.view, viewAll, dEq_int, dNe_int, sNx, sRet, sSet, sV, Env.store, Env.put, DD.td, tdAll, sSetIx, sFz, setAt0, setAt, Env.pl, Env.pset, sRetVar, sReturn, sCallK, sCallIo, callIo, callRd, arr, pick, sNil, sCons, sNameF, sOp2, sOp1, sTe, sOpt, sNot, sOr, sAnd, gNot, gOr, gAnd, gOrV, gAndV, dAdd, dSub, dNeg, dLt, dLe, dGt, dGe, dCmp, gArgs, DL.gNil, DL.gCons, dLen, dAbs, dIntOf, dTup, dLst, sLst, sTup, sPar, uGo, uCons, uName, uNil, dIsi, Ty.is, DD.ty, dNot, dIsX, sTry, hAs, hOn, hNil, unAs, unEx, sDrop, sRaise, gE, gTe, slotOf, sItems, dItems, sArgsL, dListOf, e, dMod_pos hm]
  · refine ⟨a % m, .lst [.dat (.int (a / m)), .dat (.int b), .dat (.int c)], ?_, Int.emod_nonneg _ (by omega), Int.emod_lt_of_pos _ hm, ⟨a / m, b, c, rfl, Int.ediv_nonneg h1 (by omega), h2, h3, h4, by omega⟩⟩
    unfold f__law_take b__law_take
    simp [gof, ienv, islots, sSeq, sIf, sT, sBind, Env.views, Env.sv, gTest, gOp2, gOp1, gVar, gC, dIx, atI, ixN, OO.view, viewAll, dEq_int, dNe_int, sNx, sRet, sSet, sV, Env.store, Env.put, DD.td, tdAll, sSetIx, sFz, setAt0, setAt, Env.pl, Env.pset, sRetVar, sReturn, sCallK, sCallIo, callIo, callRd, arr, pick, sNil, sCons, sNameF, sOp2, sOp1, sTe, sOpt, sNot, sOr, sAnd, gNot, gOr, gAnd, gOrV, gAndV, dAdd, dSub, dNeg, dLt, dLe, dGt, dGe, dCmp, gArgs, DL.gNil, DL.gCons, dLen, dAbs, dIntOf, dTup, dLst, sLst, sTup, sPar, uGo, uCons, uName, uNil, dIsi, Ty.is, DD.ty, dNot, dIsX, sTry, hAs, hOn, hNil, unAs, unEx, sDrop, sRaise, gE, gTe, slotOf, sItems, dItems, sArgsL, dListOf, ha, dMod_pos hm, dDiv_pos hm hm2]

set_option exponentiation.threshold 2000
theorem p60 : dPow (.int 10) (.int 60) = some (.int 1000000000000000000000000000000000000000000000000000000000000) := by
  unfold dPow
  dsimp only
  rw [if_pos (by decide)]
  rfl
theorem p18 : dPow (.int 10) (.int 18) = some (.int 1000000000000000000) := by
  unfold dPow
  dsimp only
  rw [if_pos (by decide)]
  rfl
theorem p12 : dPow (.int 10) (.int 12) = some (.int 1000000000000) := by
  unfold dPow
  dsimp only
  rw [if_pos (by decide)]
  rfl
theorem p9 : dPow (.int 10) (.int 9) = some (.int 1000000000) := by
  unfold dPow
  dsimp only
  rw [if_pos (by decide)]
  rfl
theorem p6 : dPow (.int 10) (.int 6) = some (.int 1000000) := by
  unfold dPow
  dsimp only
  rw [if_pos (by decide)]
  rfl
theorem q120 : dMul (.int 1000000000000000000000000000000000000000000000000000000000000) (.int 1000000000000000000000000000000000000000000000000000000000000) = some (.int 1000000000000000000000000000000000000000000000000000000000000000000000000000000000000000000000000000000000000000000000000) := by
  rw [dMul_of (m := 300) (n := 300) (by decide) (by decide)]
  rfl
theorem q180 : dMul (.int 1000000000000000000000000000000000000000000000000000000000000000000000000000000000000000000000000000000000000000000000000) (.int 1000000000000000000000000000000000000000000000000000000000000) = some (.int 1000000000000000000000000000000000000000000000000000000000000000000000000000000000000000000000000000000000000000000000000000000000000000000000000000000000000000000000000000000000000) := by
  rw [dMul_of (m := 500) (n := 300) (by decide) (by decide)]
  rfl
theorem ix_nat {ns : List Int} {k : Nat} (h : k < ns.length) : dIx (.lst (ns.map DD.int)) (.int (k : Int)) = some (.int ns[k]) := by
  unfold dIx atI ixN
  dsimp only
  rw [if_pos (by omega), if_pos (by rw [List.length_map]; omega)]
  simp [h]
theorem pile_ok {ns : List Int} {k : Nat} (hk : k < 30) : ∃ o, f__law_pile [.lst (ns.map DD.int), .int (k : Int)] [] = some (.ret o, []) ∧ Pile o 5000 := by
  have m1 : ∀ x : Int, dMod (.int x) (.int 1000000000000000000000000000000000000000000000000000000000000000000000000000000000000000000000000000000000000000000000000000000000000000000000000000000000000000000000000000000000000) = some (.int (x % 1000000000000000000000000000000000000000000000000000000000000000000000000000000000000000000000000000000000000000000000000000000000000000000000000000000000000000000000000000000000000)) := fun x => dMod_pos (by decide)
  have m2 : ∀ x : Int, dMod (.int x) (.int 2147483629) = some (.int (x % 2147483629)) := fun x => dMod_pos (by decide)
  have m3 : dMul (.int 131) (.int (k : Int)) = some (.int (131 * (k : Int))) := dMul_of (m := 20) (n := 20) (by decide) (by omega)
  have bd : ∀ x : Int, (x % 1000000000000000000000000000000000000000000000000000000000000000000000000000000000000000000000000000000000000000000000000000000000000000000000000000000000000000000000000000000000000).natAbs < 2 ^ 700 := fun x => by
    have h1 := Int.emod_nonneg x (b := 1000000000000000000000000000000000000000000000000000000000000000000000000000000000000000000000000000000000000000000000000000000000000000000000000000000000000000000000000000000000000) (by decide)
    have h2 := Int.emod_lt_of_pos x (b := 1000000000000000000000000000000000000000000000000000000000000000000000000000000000000000000000000000000000000000000000000000000000000000000000000000000000000000000000000000000000000) (by decide)
    have h3 : (1000000000000000000000000000000000000000000000000000000000000000000000000000000000000000000000000000000000000000000000000000000000000000000000000000000000000000000000000000000000000 : Int) ≤ ((2 ^ 700 : Nat) : Int) := by decide
    omega
  have m4 : ∀ x : Int, dMul (.int (x % 1000000000000000000000000000000000000000000000000000000000000000000000000000000000000000000000000000000000000000000000000000000000000000000000000000000000000000000000000000000000000)) (.int 1) = some (.int (x % 1000000000000000000000000000000000000000000000000000000000000000000000000000000000000000000000000000000000000000000000000000000000000000000000000000000000000000000000000000000000000)) := fun x => by
    rw [dMul_of (m := 700) (n := 20) (bd x) (by decide), Int.mul_one]
  have m5 : ∀ x : Int, dMul (.int (x % 1000000000000000000000000000000000000000000000000000000000000000000000000000000000000000000000000000000000000000000000000000000000000000000000000000000000000000000000000000000000000)) (.int 0) = some (.int 0) := fun x => by
    rw [dMul_of (m := 700) (n := 20) (bd x) (by decide), Int.mul_zero]
  have fin : ∀ (x d : Int), (d = 0 ∨ d = x % 1000000000000000000000000000000000000000000000000000000000000000000000000000000000000000000000000000000000000000000000000000000000000000000000000000000000000000000000000000000000000) → Pile (.lst [.dat (.int d), .dat (.int (x % 2147483629)), .dat (.int (131 * (k : Int)))]) 5000 := fun x d hd =>
    ⟨d, _, _, rfl, by rcases hd with rfl | rfl; exact Int.le_refl _; exact Int.emod_nonneg _ (by decide), by omega, by omega, by omega, by omega⟩
  by_cases h : k < ns.length
  · have e := ix_nat h
    have hl : ((k : Int) < (ns.length : Int)) := by omega
    by_cases h2 : (1000000000000000000 : Int) ≤ (if ns[k] < 0 then -ns[k] else ns[k])
    · refine ⟨_, ?_, fin ns[k] _ (.inr rfl)⟩
      unfold f__law_pile b__law_pile
      simp [gof, ienv, islots, sSeq, sIf, sT, sBind, Env.views, Env.sv, gTest, gOp2, gOp1, gVar, gC, OO.view, viewAll, dEq_int, dNe_int, sNx, sRet, sSet, sV, Env.store, Env.put, DD.td, tdAll, sSetIx, sFz, setAt0, setAt, Env.pl, Env.pset, sRetVar, sReturn, sCallK, sCallIo, callIo, callRd, arr, pick, sNil, sCons, sNameF, sOp2, sOp1, sTe, sOpt, sNot, sOr, sAnd, gNot, gOr, gAnd, gOrV, gAndV, dAdd, dSub, dNeg, dLt, dLe, dGt, dGe, dCmp, gArgs, DL.gNil, DL.gCons, dLen, dAbs, dIntOf, dTup, dLst, sLst, sTup, sPar, uGo, uCons, uName, uNil, dIsi, Ty.is, DD.ty, dNot, dIsX, sTry, hAs, hOn, hNil, unAs, unEx, sDrop, sRaise, gE, gTe, slotOf, sItems, dItems, sArgsL, dListOf, h, hl, e, h2, m1, m2, m3, m4, m5, p60, p18, q120, q180]
    · refine ⟨_, ?_, fin ns[k] _ (.inl rfl)⟩
      unfold f__law_pile b__law_pile
      simp [gof, ienv, islots, sSeq, sIf, sT, sBind, Env.views, Env.sv, gTest, gOp2, gOp1, gVar, gC, OO.view, viewAll, dEq_int, dNe_int, sNx, sRet, sSet, sV, Env.store, Env.put, DD.td, tdAll, sSetIx, sFz, setAt0, setAt, Env.pl, Env.pset, sRetVar, sReturn, sCallK, sCallIo, callIo, callRd, arr, pick, sNil, sCons, sNameF, sOp2, sOp1, sTe, sOpt, sNot, sOr, sAnd, gNot, gOr, gAnd, gOrV, gAndV, dAdd, dSub, dNeg, dLt, dLe, dGt, dGe, dCmp, gArgs, DL.gNil, DL.gCons, dLen, dAbs, dIntOf, dTup, dLst, sLst, sTup, sPar, uGo, uCons, uName, uNil, dIsi, Ty.is, DD.ty, dNot, dIsX, sTry, hAs, hOn, hNil, unAs, unEx, sDrop, sRaise, gE, gTe, slotOf, sItems, dItems, sArgsL, dListOf, h, hl, e, h2, m1, m2, m3, m4, m5, p60, p18, q120, q180]
  · have hl : ¬ ((k : Int) < (ns.length : Int)) := by omega
    refine ⟨_, ?_, fin 0 _ (.inl rfl)⟩
    have m1' := m1 0
    have m2' := m2 0
    have m5' : dMul (.int 0) (.int 0) = some (.int 0) := (dMul_of (m := 20) (n := 20) (by decide) (by decide)).trans rfl
    unfold f__law_pile b__law_pile
    simp [gof, ienv, islots, sSeq, sIf, sT, sBind, Env.views, Env.sv, gTest, gOp2, gOp1, gVar, gC, OO.view, viewAll, dEq_int, dNe_int, sNx, sRet, sSet, sV, Env.store, Env.put, DD.td, tdAll, sSetIx, sFz, setAt0, setAt, Env.pl, Env.pset, sRetVar, sReturn, sCallK, sCallIo, callIo, callRd, arr, pick, sNil, sCons, sNameF, sOp2, sOp1, sTe, sOpt, sNot, sOr, sAnd, gNot, gOr, gAnd, gOrV, gAndV, dAdd, dSub, dNeg, dLt, dLe, dGt, dGe, dCmp, gArgs, DL.gNil, DL.gCons, dLen, dAbs, dIntOf, dTup, dLst, sLst, sTup, sPar, uGo, uCons, uName, uNil, dIsi, Ty.is, DD.ty, dNot, dIsX, sTry, hAs, hOn, hNil, unAs, unEx, sDrop, sRaise, gE, gTe, slotOf, sItems, dItems, sArgsL, dListOf, h, hl, m1', m2', m3, m5', p60, p18, q120, q180]
/-! divisor, lowest -/
theorem div_loop : ∀ (b a : Nat), loopW (b + 1) c1_divisor w1_divisor ⟨[.own (.dat (.int (a : Int))), .own (.dat (.int (b : Int)))], []⟩ = .ok .nx ⟨[.own (.dat (.int (Nat.gcd a b : Nat))), .own (.dat (.int 0))], []⟩ := by
  intro b
  induction b using Nat.strongRecOn with
  | _ b ih =>
    intro a
    by_cases hb : b = 0
    · subst hb
      unfold loopW c1_divisor
      simp [gof, ienv, islots, sSeq, sIf, sT, sBind, Env.views, Env.sv, gTest, gOp2, gOp1, gVar, gC, dIx, atI, ixN, OO.view, viewAll, dEq_int, dNe_int, sNx, sRet, sSet, sV, Env.store, Env.put, DD.td, tdAll, sSetIx, sFz, setAt0, setAt, Env.pl, Env.pset, sRetVar, sReturn, sCallK, sCallIo, callIo, callRd, arr, pick, sNil, sCons, sNameF, sOp2, sOp1, sTe, sOpt, sNot, sOr, sAnd, gNot, gOr, gAnd, gOrV, gAndV, dAdd, dSub, dNeg, dLt, dLe, dGt, dGe, dCmp, gArgs, DL.gNil, DL.gCons, dLen, dAbs, dIntOf, dTup, dLst, sLst, sTup, sPar, uGo, uCons, uName, uNil, dIsi, Ty.is, DD.ty, dNot, dIsX, sTry, hAs, hOn, hNil, unAs, unEx, sDrop, sRaise, gE, gTe, slotOf, sItems, dItems, sArgsL, dListOf]
    · have m1 : dMod (.int (a : Int)) (.int (b : Int)) = some (.int ((a % b : Nat) : Int)) := by
        rw [dMod_pos (by omega)]; rfl
      have hlt : a % b < b := Nat.mod_lt _ (by omega)
      have h1 := ih (a % b) hlt b
      have h2 := loopW_more h1 (by intro z; cases z) (b - (a % b + 1))
      rw [show a % b + 1 + (b - (a % b + 1)) = b by omega] at h2
      unfold loopW
      have e1 : c1_divisor ⟨[.own (.dat (.int (a : Int))), .own (.dat (.int (b : Int)))], []⟩ = .ok true ⟨[.own (.dat (.int (a : Int))), .own (.dat (.int (b : Int)))], []⟩ := by
        unfold c1_divisor
        simp [gof, ienv, islots, sSeq, sIf, sT, sBind, Env.views, Env.sv, gTest, gOp2, gOp1, gVar, gC, dIx, atI, ixN, OO.view, viewAll, dEq_int, dNe_int, sNx, sRet, sSet, sV, Env.store, Env.put, DD.td, tdAll, sSetIx, sFz, setAt0, setAt, Env.pl, Env.pset, sRetVar, sReturn, sCallK, sCallIo, callIo, callRd, arr, pick, sNil, sCons, sNameF, sOp2, sOp1, sTe, sOpt, sNot, sOr, sAnd, gNot, gOr, gAnd, gOrV, gAndV, dAdd, dSub, dNeg, dLt, dLe, dGt, dGe, dCmp, gArgs, DL.gNil, DL.gCons, dLen, dAbs, dIntOf, dTup, dLst, sLst, sTup, sPar, uGo, uCons, uName, uNil, dIsi, Ty.is, DD.ty, dNot, dIsX, sTry, hAs, hOn, hNil, unAs, unEx, sDrop, sRaise, gE, gTe, slotOf, sItems, dItems, sArgsL, dListOf, hb]
      have e2 : w1_divisor ⟨[.own (.dat (.int (a : Int))), .own (.dat (.int (b : Int)))], []⟩ = .ok .nx ⟨[.own (.dat (.int (b : Int))), .own (.dat (.int ((a % b : Nat) : Int)))], []⟩ := by
        unfold w1_divisor
        simp [gof, ienv, islots, sSeq, sIf, sT, sBind, Env.views, Env.sv, gTest, gOp2, gOp1, gVar, gC, dIx, atI, ixN, OO.view, viewAll, dEq_int, dNe_int, sNx, sRet, sSet, sV, Env.store, Env.put, DD.td, tdAll, sSetIx, sFz, setAt0, setAt, Env.pl, Env.pset, sRetVar, sReturn, sCallK, sCallIo, callIo, callRd, arr, pick, sNil, sCons, sNameF, sOp2, sOp1, sTe, sOpt, sNot, sOr, sAnd, gNot, gOr, gAnd, gOrV, gAndV, dAdd, dSub, dNeg, dLt, dLe, dGt, dGe, dCmp, gArgs, DL.gNil, DL.gCons, dLen, dAbs, dIntOf, dTup, dLst, sLst, sTup, sPar, uGo, uCons, uName, uNil, dIsi, Ty.is, DD.ty, dNot, dIsX, sTry, hAs, hOn, hNil, unAs, unEx, sDrop, sRaise, gE, gTe, slotOf, sItems, dItems, sArgsL, dListOf, m1]
      rw [e1]
      dsimp only
      rw [e2]
      dsimp only
      rw [h2, Nat.gcd_comm a b, Nat.gcd_rec b a, Nat.gcd_comm]
theorem divisor_eq (a b : Nat) : f_divisor [.int (a : Int), .int (b : Int)] [] = some (.ret (.dat (.int (Nat.gcd a b : Nat))), []) := by
  have e := sWh_eq (div_loop b a) (by intro z; cases z)
  unfold f_divisor b_divisor
  simp [gof, ienv, islots, sSeq, sIf, sT, sBind, Env.views, Env.sv, gTest, gOp2, gOp1, gVar, gC, dIx, atI, ixN, OO.view, viewAll, dEq_int, dNe_int, sNx, sRet, sSet, sV, Env.store, Env.put, DD.td, tdAll, sSetIx, sFz, setAt0, setAt, Env.pl, Env.pset, sRetVar, sReturn, sCallK, sCallIo, callIo, callRd, arr, pick, sNil, sCons, sNameF, sOp2, sOp1, sTe, sOpt, sNot, sOr, sAnd, gNot, gOr, gAnd, gOrV, gAndV, dAdd, dSub, dNeg, dLt, dLe, dGt, dGe, dCmp, gArgs, DL.gNil, DL.gCons, dLen, dAbs, dIntOf, dTup, dLst, sLst, sTup, sPar, uGo, uCons, uName, uNil, dIsi, Ty.is, DD.ty, dNot, dIsX, sTry, hAs, hOn, hNil, unAs, unEx, sDrop, sRaise, gE, gTe, slotOf, sItems, dItems, sArgsL, dListOf, e]
theorem low_loop (x y : DD) : ∀ (b a : Nat), loopW (b + 1) c1__law_low w1__law_low ⟨[.own (.dat x), .own (.dat y), .own (.dat (.int (a : Int))), .own (.dat (.int (b : Int)))], []⟩ = .ok .nx ⟨[.own (.dat x), .own (.dat y), .own (.dat (.int (Nat.gcd a b : Nat))), .own (.dat (.int 0))], []⟩ := by
  intro b
  induction b using Nat.strongRecOn with
  | _ b ih =>
    intro a
    by_cases hb : b = 0
    · subst hb
      unfold loopW c1__law_low
      simp [gof, ienv, islots, sSeq, sIf, sT, sBind, Env.views, Env.sv, gTest, gOp2, gOp1, gVar, gC, dIx, atI, ixN, OO.view, viewAll, dEq_int, dNe_int, sNx, sRet, sSet, sV, Env.store, Env.put, DD.td, tdAll, sSetIx, sFz, setAt0, setAt, Env.pl, Env.pset, sRetVar, sReturn, sCallK, sCallIo, callIo, callRd, arr, pick, sNil, sCons, sNameF, sOp2, sOp1, sTe, sOpt, sNot, sOr, sAnd, gNot, gOr, gAnd, gOrV, gAndV, dAdd, dSub, dNeg, dLt, dLe, dGt, dGe, dCmp, gArgs, DL.gNil, DL.gCons, dLen, dAbs, dIntOf, dTup, dLst, sLst, sTup, sPar, uGo, uCons, uName, uNil, dIsi, Ty.is, DD.ty, dNot, dIsX, sTry, hAs, hOn, hNil, unAs, unEx, sDrop, sRaise, gE, gTe, slotOf, sItems, dItems, sArgsL, dListOf]
    · have m1 : dMod (.int (a : Int)) (.int (b : Int)) = some (.int ((a % b : Nat) : Int)) := by
        rw [dMod_pos (by omega)]; rfl
      have hlt : a % b < b := Nat.mod_lt _ (by omega)
      have h1 := ih (a % b) hlt b
      have h2 := loopW_more h1 (by intro z; cases z) (b - (a % b + 1))
      rw [show a % b + 1 + (b - (a % b + 1)) = b by omega] at h2
      unfold loopW
      have e1 : c1__law_low ⟨[.own (.dat x), .own (.dat y), .own (.dat (.int (a : Int))), .own (.dat (.int (b : Int)))], []⟩ = .ok true ⟨[.own (.dat x), .own (.dat y), .own (.dat (.int (a : Int))), .own (.dat (.int (b : Int)))], []⟩ := by
        unfold c1__law_low
        simp [gof, ienv, islots, sSeq, sIf, sT, sBind, Env.views, Env.sv, gTest, gOp2, gOp1, gVar, gC, dIx, atI, ixN, OO.view, viewAll, dEq_int, dNe_int, sNx, sRet, sSet, sV, Env.store, Env.put, DD.td, tdAll, sSetIx, sFz, setAt0, setAt, Env.pl, Env.pset, sRetVar, sReturn, sCallK, sCallIo, callIo, callRd, arr, pick, sNil, sCons, sNameF, sOp2, sOp1, sTe, sOpt, sNot, sOr, sAnd, gNot, gOr, gAnd, gOrV, gAndV, dAdd, dSub, dNeg, dLt, dLe, dGt, dGe, dCmp, gArgs, DL.gNil, DL.gCons, dLen, dAbs, dIntOf, dTup, dLst, sLst, sTup, sPar, uGo, uCons, uName, uNil, dIsi, Ty.is, DD.ty, dNot, dIsX, sTry, hAs, hOn, hNil, unAs, unEx, sDrop, sRaise, gE, gTe, slotOf, sItems, dItems, sArgsL, dListOf, hb]
      have e2 : w1__law_low ⟨[.own (.dat x), .own (.dat y), .own (.dat (.int (a : Int))), .own (.dat (.int (b : Int)))], []⟩ = .ok .nx ⟨[.own (.dat x), .own (.dat y), .own (.dat (.int (b : Int))), .own (.dat (.int ((a % b : Nat) : Int)))], []⟩ := by
        unfold w1__law_low
        simp [gof, ienv, islots, sSeq, sIf, sT, sBind, Env.views, Env.sv, gTest, gOp2, gOp1, gVar, gC, dIx, atI, ixN, OO.view, viewAll, dEq_int, dNe_int, sNx, sRet, sSet, sV, Env.store, Env.put, DD.td, tdAll, sSetIx, sFz, setAt0, setAt, Env.pl, Env.pset, sRetVar, sReturn, sCallK, sCallIo, callIo, callRd, arr, pick, sNil, sCons, sNameF, sOp2, sOp1, sTe, sOpt, sNot, sOr, sAnd, gNot, gOr, gAnd, gOrV, gAndV, dAdd, dSub, dNeg, dLt, dLe, dGt, dGe, dCmp, gArgs, DL.gNil, DL.gCons, dLen, dAbs, dIntOf, dTup, dLst, sLst, sTup, sPar, uGo, uCons, uName, uNil, dIsi, Ty.is, DD.ty, dNot, dIsX, sTry, hAs, hOn, hNil, unAs, unEx, sDrop, sRaise, gE, gTe, slotOf, sItems, dItems, sArgsL, dListOf, m1]
      rw [e1]
      dsimp only
      rw [e2]
      dsimp only
      rw [h2, Nat.gcd_comm a b, Nat.gcd_rec b a, Nat.gcd_comm]
/-- the lowest terms -/
def lowT (a b : Int) : Int := if b < 0 then -(a / (Int.gcd a b : Int)) else a / (Int.gcd a b : Int)
def lowB (a b : Int) : Int := if b < 0 then -(b / (Int.gcd a b : Int)) else b / (Int.gcd a b : Int)
theorem abs_nat (a : Int) : (if a < 0 then -a else a) = (a.natAbs : Int) := by split <;> omega
theorem gcd_pos {a b : Int} (hb : b ≠ 0) : 0 < (Int.gcd a b : Int) := by
  have : 0 < Int.gcd a b := Int.gcd_pos_of_ne_zero_right a hb
  omega
theorem gcd_le {a b : Int} (hb : b ≠ 0) : (Int.gcd a b : Int).natAbs ≤ b.natAbs := by
  have h := Nat.le_of_dvd (by omega) (Nat.gcd_dvd_right a.natAbs b.natAbs)
  rw [Int.natAbs_natCast]
  exact h
theorem fdiv_neg_exact {a g : Int} (hg : 0 < g) (h : g ∣ a) : a.fdiv (-g) = -(a / g) := by
  obtain ⟨k, rfl⟩ := h
  rw [Int.mul_ediv_cancel_left _ (by omega), show g * k = (-g) * (-k) by rw [Int.neg_mul_neg], Int.mul_fdiv_cancel_left _ (by omega)]
theorem lowest_eq {a b : Int} (hb : b ≠ 0) {n : Nat} (hs : b.natAbs < 2 ^ n) (hn : n ≤ 8000) : f_lowest [.int a, .int b] [] = some (.ret (.dat (.tup [.int (lowT a b), .int (lowB a b)])), []) := by
  have e := divisor_eq a.natAbs b.natAbs
  have hg := gcd_pos (a := a) hb
  have hg2 : (Int.gcd a b : Int).natAbs < 2 ^ n := Nat.lt_of_le_of_lt (gcd_le hb) hs
  have hg3 : (-(Int.gcd a b : Int)).natAbs < 2 ^ n := by rw [Int.natAbs_neg]; exact hg2
  rw [show Nat.gcd a.natAbs b.natAbs = Int.gcd a b from rfl] at e
  by_cases h : b < 0
  · have d1 : ∀ x : Int, dDiv (.int x) (.int (-(Int.gcd a b : Int))) = some (.int (x.fdiv (-(Int.gcd a b : Int)))) := fun x => dDiv_of (by omega) hg3 hn
    have f1 := fdiv_neg_exact hg (Int.gcd_dvd_left a b)
    have f2 := fdiv_neg_exact hg (Int.gcd_dvd_right a b)
    have e' := e
    rw [show ((b.natAbs : Nat) : Int) = -b by omega] at e'
    unfold f_lowest b_lowest lowT lowB
    simp [gof, ienv, islots, sSeq, sIf, sT, sBind, Env.views, Env.sv, gTest, gOp2, gOp1, gVar, gC, dIx, atI, ixN, OO.view, viewAll, dEq_int, dNe_int, sNx, sRet, sSet, sV, Env.store, Env.put, DD.td, tdAll, sSetIx, sFz, setAt0, setAt, Env.pl, Env.pset, sRetVar, sReturn, sCallK, sCallIo, callIo, callRd, arr, pick, sNil, sCons, sNameF, sOp2, sOp1, sTe, sOpt, sNot, sOr, sAnd, gNot, gOr, gAnd, gOrV, gAndV, dAdd, dSub, dNeg, dLt, dLe, dGt, dGe, dCmp, gArgs, DL.gNil, DL.gCons, dLen, dAbs, dIntOf, dTup, dLst, sLst, sTup, sPar, uGo, uCons, uName, uNil, dIsi, Ty.is, DD.ty, dNot, dIsX, sTry, hAs, hOn, hNil, unAs, unEx, sDrop, sRaise, gE, gTe, slotOf, sItems, dItems, sArgsL, dListOf, hb, abs_nat, e', h, d1, f1, f2]
  · have d1 : ∀ x : Int, dDiv (.int x) (.int (Int.gcd a b : Int)) = some (.int (x / (Int.gcd a b : Int))) := fun x => dDiv_pos hg hg2 hn
    have e' := e
    rw [show ((b.natAbs : Nat) : Int) = b by omega] at e'
    unfold f_lowest b_lowest lowT lowB
    simp [gof, ienv, islots, sSeq, sIf, sT, sBind, Env.views, Env.sv, gTest, gOp2, gOp1, gVar, gC, dIx, atI, ixN, OO.view, viewAll, dEq_int, dNe_int, sNx, sRet, sSet, sV, Env.store, Env.put, DD.td, tdAll, sSetIx, sFz, setAt0, setAt, Env.pl, Env.pset, sRetVar, sReturn, sCallK, sCallIo, callIo, callRd, arr, pick, sNil, sCons, sNameF, sOp2, sOp1, sTe, sOpt, sNot, sOr, sAnd, gNot, gOr, gAnd, gOrV, gAndV, dAdd, dSub, dNeg, dLt, dLe, dGt, dGe, dCmp, gArgs, DL.gNil, DL.gCons, dLen, dAbs, dIntOf, dTup, dLst, sLst, sTup, sPar, uGo, uCons, uName, uNil, dIsi, Ty.is, DD.ty, dNot, dIsX, sTry, hAs, hOn, hNil, unAs, unEx, sDrop, sRaise, gE, gTe, slotOf, sItems, dItems, sArgsL, dListOf, hb, abs_nat, e', h, d1]
theorem lowest_zero {a : Int} : f_lowest [.int a, .int 0] [] = some (.exc "NoNumber" [], []) := by
  unfold f_lowest b_lowest
  simp [gof, ienv, islots, sSeq, sIf, sT, sBind, Env.views, Env.sv, gTest, gOp2, gOp1, gVar, gC, dIx, atI, ixN, OO.view, viewAll, dEq_int, dNe_int, sNx, sRet, sSet, sV, Env.store, Env.put, DD.td, tdAll, sSetIx, sFz, setAt0, setAt, Env.pl, Env.pset, sRetVar, sReturn, sCallK, sCallIo, callIo, callRd, arr, pick, sNil, sCons, sNameF, sOp2, sOp1, sTe, sOpt, sNot, sOr, sAnd, gNot, gOr, gAnd, gOrV, gAndV, dAdd, dSub, dNeg, dLt, dLe, dGt, dGe, dCmp, gArgs, DL.gNil, DL.gCons, dLen, dAbs, dIntOf, dTup, dLst, sLst, sTup, sPar, uGo, uCons, uName, uNil, dIsi, Ty.is, DD.ty, dNot, dIsX, sTry, hAs, hOn, hNil, unAs, unEx, sDrop, sRaise, gE, gTe, slotOf, sItems, dItems, sArgsL, dListOf]
theorem low_eq {a b : Int} (hb : b ≠ 0) {n : Nat} (hs : b.natAbs < 2 ^ n) (hn : n ≤ 8000) : f__law_low [.int a, .int b] [] = some (.ret (.dat (.tup [.int (lowT a b), .int (lowB a b)])), []) := by
  have hg := gcd_pos (a := a) hb
  have hg2 : (Int.gcd a b : Int).natAbs < 2 ^ n := Nat.lt_of_le_of_lt (gcd_le hb) hs
  have d1 : ∀ x : Int, dDiv (.int x) (.int (Int.gcd a b : Int)) = some (.int (x / (Int.gcd a b : Int))) := fun x => dDiv_pos hg hg2 hn
  by_cases h : b < 0
  · have l := sWh_eq (low_loop (.int (-a)) (.int (-b)) b.natAbs a.natAbs) (by intro z; cases z)
    rw [show ((b.natAbs : Nat) : Int) = -b by omega, show Nat.gcd a.natAbs b.natAbs = Int.gcd a b from rfl] at l
    have f1 : -a / (Int.gcd a b : Int) = -(a / (Int.gcd a b : Int)) := Int.neg_ediv_of_dvd (Int.gcd_dvd_left a b)
    have f2 : -b / (Int.gcd a b : Int) = -(b / (Int.gcd a b : Int)) := Int.neg_ediv_of_dvd (Int.gcd_dvd_right a b)
    have f3 : (if 0 < a then - -a else -a) = (a.natAbs : Int) := by split <;> omega
    have f4 : (if -a < 0 then - -a else -a) = (a.natAbs : Int) := by split <;> omega
    have f5 : (if 0 < a then a else -a) = (a.natAbs : Int) := by split <;> omega
    unfold f__law_low b__law_low lowT lowB
    simp [gof, ienv, islots, sSeq, sIf, sT, sBind, Env.views, Env.sv, gTest, gOp2, gOp1, gVar, gC, dIx, atI, ixN, OO.view, viewAll, dEq_int, dNe_int, sNx, sRet, sSet, sV, Env.store, Env.put, DD.td, tdAll, sSetIx, sFz, setAt0, setAt, Env.pl, Env.pset, sRetVar, sReturn, sCallK, sCallIo, callIo, callRd, arr, pick, sNil, sCons, sNameF, sOp2, sOp1, sTe, sOpt, sNot, sOr, sAnd, gNot, gOr, gAnd, gOrV, gAndV, dAdd, dSub, dNeg, dLt, dLe, dGt, dGe, dCmp, gArgs, DL.gNil, DL.gCons, dLen, dAbs, dIntOf, dTup, dLst, sLst, sTup, sPar, uGo, uCons, uName, uNil, dIsi, Ty.is, DD.ty, dNot, dIsX, sTry, hAs, hOn, hNil, unAs, unEx, sDrop, sRaise, gE, gTe, slotOf, sItems, dItems, sArgsL, dListOf, h, f3, f4, f5, l, d1, f1, f2]
  · have l := sWh_eq (low_loop (.int a) (.int b) b.natAbs a.natAbs) (by intro z; cases z)
    rw [show ((b.natAbs : Nat) : Int) = b by omega, show Nat.gcd a.natAbs b.natAbs = Int.gcd a b from rfl] at l
    unfold f__law_low b__law_low lowT lowB
    simp [gof, ienv, islots, sSeq, sIf, sT, sBind, Env.views, Env.sv, gTest, gOp2, gOp1, gVar, gC, dIx, atI, ixN, OO.view, viewAll, dEq_int, dNe_int, sNx, sRet, sSet, sV, Env.store, Env.put, DD.td, tdAll, sSetIx, sFz, setAt0, setAt, Env.pl, Env.pset, sRetVar, sReturn, sCallK, sCallIo, callIo, callRd, arr, pick, sNil, sCons, sNameF, sOp2, sOp1, sTe, sOpt, sNot, sOr, sAnd, gNot, gOr, gAnd, gOrV, gAndV, dAdd, dSub, dNeg, dLt, dLe, dGt, dGe, dCmp, gArgs, DL.gNil, DL.gCons, dLen, dAbs, dIntOf, dTup, dLst, sLst, sTup, sPar, uGo, uCons, uName, uNil, dIsi, Ty.is, DD.ty, dNot, dIsX, sTry, hAs, hOn, hNil, unAs, unEx, sDrop, sRaise, gE, gTe, slotOf, sItems, dItems, sArgsL, dListOf, h, abs_nat, l, d1]

theorem lowB_pos {a b : Int} (hb : b ≠ 0) : 0 < lowB a b := by
  have hg := gcd_pos (a := a) hb
  obtain ⟨k, hk⟩ := Int.gcd_dvd_right a b
  unfold lowB
  have e : b / (Int.gcd a b : Int) = k := by
    conv => lhs; lhs; rw [hk]
    exact Int.mul_ediv_cancel_left _ (by omega)
  rw [e]
  split
  · rename_i h
    by_cases hk0 : k < 0
    · omega
    · have := Int.mul_nonneg (a := (Int.gcd a b : Int)) (b := k) (by omega) (by omega)
      omega
  · rename_i h
    by_cases hk0 : 0 < k
    · exact hk0
    · have := Int.mul_nonpos_of_nonneg_of_nonpos (a := (Int.gcd a b : Int)) (b := k) (by omega) (by omega)
      omega
theorem lowB_le {a b : Int} (hb : b ≠ 0) : (lowB a b).natAbs ≤ b.natAbs := by
  have h : (b / (Int.gcd a b : Int)).natAbs ≤ b.natAbs := Int.natAbs_ediv_le_natAbs _ _
  unfold lowB
  split
  · rw [Int.natAbs_neg]; exact h
  · exact h
theorem low_cop {a b : Int} (hb : b ≠ 0) : Int.gcd (lowT a b) (lowB a b) = 1 := by
  have hg : 0 < Int.gcd a b := Int.gcd_pos_of_ne_zero_right a hb
  have h := Int.gcd_ediv_gcd_ediv_gcd (i := a) (j := b) hg
  unfold lowT lowB
  split
  · rw [Int.gcd_neg, Int.neg_gcd]; exact h
  · exact h
theorem low_cop_eq {a b : Int} (hb : 0 < b) (h : Int.gcd a b = 1) : lowT a b = a ∧ lowB a b = b := by
  unfold lowT lowB
  rw [if_neg (by omega), if_neg (by omega), h]
  exact ⟨Int.ediv_one a, Int.ediv_one b⟩
theorem low_nn (a b : Int) (hb : b ≠ 0) : lowT (-a) (-b) = lowT a b ∧ lowB (-a) (-b) = lowB a b := by
  unfold lowT lowB
  have e : Int.gcd (-a) (-b) = Int.gcd a b := by rw [Int.gcd_neg, Int.neg_gcd]
  have f1 : -a / (Int.gcd a b : Int) = -(a / (Int.gcd a b : Int)) := Int.neg_ediv_of_dvd (Int.gcd_dvd_left a b)
  have f2 : -b / (Int.gcd a b : Int) = -(b / (Int.gcd a b : Int)) := Int.neg_ediv_of_dvd (Int.gcd_dvd_right a b)
  rw [e, f1, f2]
  by_cases h : b < 0
  · have h' : ¬ (-b < 0) := by omega
    simp only [if_neg h', if_pos h, and_self]
  · have h' : -b < 0 := by omega
    simp only [if_pos h', if_neg h, Int.neg_neg, and_self]
theorem low_n (a b : Int) : lowT (-a) b = -lowT a b ∧ lowB (-a) b = lowB a b := by
  unfold lowT lowB
  have e : Int.gcd (-a) b = Int.gcd a b := by rw [Int.neg_gcd]
  have f1 : -a / (Int.gcd a b : Int) = -(a / (Int.gcd a b : Int)) := Int.neg_ediv_of_dvd (Int.gcd_dvd_left a b)
  rw [e, f1]
  by_cases h : b < 0
  · simp only [if_pos h, and_self]
  · simp only [if_neg h, and_self]
/-! ### fractions -/
abbrev fr (p : Int × Int) : DD := .tup [.int p.1, .int p.2]
structure Fr (n : Nat) (p : Int × Int) : Prop where
  pos : 0 < p.2
  cop : Int.gcd p.1 p.2 = 1
  top : p.1.natAbs < 2 ^ n
  bot : p.2.natAbs < 2 ^ n
def red (a b : Int) : Int × Int := (lowT a b, lowB a b)
def plusP (p q : Int × Int) : Int × Int := red (p.1 * q.2 + q.1 * p.2) (p.2 * q.2)
def mulP (p q : Int × Int) : Int × Int := red (p.1 * q.1) (p.2 * q.2)
def divP (p q : Int × Int) : Int × Int := red (p.1 * q.2) (p.2 * q.1)
theorem pow_mono {m n : Nat} {x : Nat} (h : x < 2 ^ m) (hm : m ≤ n) : x < 2 ^ n := Nat.lt_of_lt_of_le h (Nat.pow_le_pow_right (by decide) hm)
theorem mul_lt {x y : Int} {m n : Nat} (hx : x.natAbs < 2 ^ m) (hy : y.natAbs < 2 ^ n) : (x * y).natAbs < 2 ^ (m + n) := by
  rw [Int.natAbs_mul, Nat.pow_add]
  exact Nat.mul_lt_mul'' hx hy
theorem add_lt {x y : Int} {m : Nat} (hx : x.natAbs < 2 ^ m) (hy : y.natAbs < 2 ^ m) : (x + y).natAbs < 2 ^ (m + 1) := by
  rw [Nat.pow_succ]
  omega
theorem lowT_le (a b : Int) : (lowT a b).natAbs ≤ a.natAbs := by
  have h : (a / (Int.gcd a b : Int)).natAbs ≤ a.natAbs := Int.natAbs_ediv_le_natAbs _ _
  unfold lowT
  split
  · rw [Int.natAbs_neg]; exact h
  · exact h
theorem red_fr {a b : Int} {n : Nat} (hb : b ≠ 0) (h1 : a.natAbs < 2 ^ n) (h2 : b.natAbs < 2 ^ n) : Fr n (red a b) :=
  ⟨lowB_pos hb, low_cop hb, Nat.lt_of_le_of_lt (lowT_le a b) h1, Nat.lt_of_le_of_lt (lowB_le hb) h2⟩
theorem Fr.mono {m n : Nat} {p : Int × Int} (h : Fr m p) (hm : m ≤ n) : Fr n p := ⟨h.pos, h.cop, pow_mono h.top hm, pow_mono h.bot hm⟩
theorem Fr.ne {n : Nat} {p : Int × Int} (h : Fr n p) : p.2 ≠ 0 := by have := h.pos; omega
theorem plus_fr {m n : Nat} {p q : Int × Int} (hp : Fr m p) (hq : Fr n q) : Fr (m + n + 1) (plusP p q) :=
  red_fr (Int.mul_ne_zero hp.ne hq.ne) (add_lt (mul_lt hp.top hq.bot) (by rw [Nat.add_comm m n]; exact mul_lt hq.top hp.bot)) (pow_mono (mul_lt hp.bot hq.bot) (by omega))
theorem mul_fr {m n : Nat} {p q : Int × Int} (hp : Fr m p) (hq : Fr n q) : Fr (m + n) (mulP p q) :=
  red_fr (Int.mul_ne_zero hp.ne hq.ne) (mul_lt hp.top hq.top) (mul_lt hp.bot hq.bot)
theorem div_fr {m n : Nat} {p q : Int × Int} (hp : Fr m p) (hq : Fr n q) (h0 : q.1 ≠ 0) : Fr (m + n) (divP p q) :=
  red_fr (Int.mul_ne_zero hp.ne h0) (mul_lt hp.top hq.bot) (mul_lt hp.bot hq.top)
theorem dMul_fr {x y : Int} {m n : Nat} (hx : x.natAbs < 2 ^ m) (hy : y.natAbs < 2 ^ n) (h : m + n ≤ 8000) : dMul (.int x) (.int y) = some (.int (x * y)) := dMul_of hx hy (by omega)
section
variable {m n : Nat} {p q : Int × Int}
theorem plus_eq (hp : Fr m p) (hq : Fr n q) (h : m + n ≤ 7000) : f_plus [fr p, fr q] [] = some (.ret (.dat (fr (plusP p q))), []) := by
  have m1 := dMul_fr hp.top hq.bot (by omega)
  have m2 := dMul_fr hq.top hp.bot (by omega)
  have m3 := dMul_fr hp.bot hq.bot (by omega)
  have e := lowest_eq (a := p.1 * q.2 + q.1 * p.2) (Int.mul_ne_zero hp.ne hq.ne) (mul_lt hp.bot hq.bot) (by omega)
  unfold f_plus b_plus
  simp [gof, ienv, islots, sSeq, sIf, sT, sBind, Env.views, Env.sv, gTest, gOp2, gOp1, gVar, gC, dIx, atI, ixN, OO.view, viewAll, dEq_int, dNe_int, sNx, sRet, sSet, sV, Env.store, Env.put, DD.td, tdAll, sSetIx, sFz, setAt0, setAt, Env.pl, Env.pset, sRetVar, sReturn, sCallK, sCallIo, callIo, callRd, arr, pick, sNil, sCons, sNameF, sOp2, sOp1, sTe, sOpt, sNot, sOr, sAnd, gNot, gOr, gAnd, gOrV, gAndV, dAdd, dSub, dNeg, dLt, dLe, dGt, dGe, dCmp, gArgs, DL.gNil, DL.gCons, dLen, dAbs, dIntOf, dTup, dLst, sLst, sTup, sPar, uGo, uCons, uName, uNil, dIsi, Ty.is, DD.ty, dNot, dIsX, sTry, hAs, hOn, hNil, unAs, unEx, sDrop, sRaise, gE, gTe, slotOf, sItems, dItems, sArgsL, dListOf, m1, m2, m3, e, plusP, red]
theorem product_eq (hp : Fr m p) (hq : Fr n q) (h : m + n ≤ 7000) : f_product [fr p, fr q] [] = some (.ret (.dat (fr (mulP p q))), []) := by
  have m1 := dMul_fr hp.top hq.top (by omega)
  have m3 := dMul_fr hp.bot hq.bot (by omega)
  have e := lowest_eq (a := p.1 * q.1) (Int.mul_ne_zero hp.ne hq.ne) (mul_lt hp.bot hq.bot) (by omega)
  unfold f_product b_product
  simp [gof, ienv, islots, sSeq, sIf, sT, sBind, Env.views, Env.sv, gTest, gOp2, gOp1, gVar, gC, dIx, atI, ixN, OO.view, viewAll, dEq_int, dNe_int, sNx, sRet, sSet, sV, Env.store, Env.put, DD.td, tdAll, sSetIx, sFz, setAt0, setAt, Env.pl, Env.pset, sRetVar, sReturn, sCallK, sCallIo, callIo, callRd, arr, pick, sNil, sCons, sNameF, sOp2, sOp1, sTe, sOpt, sNot, sOr, sAnd, gNot, gOr, gAnd, gOrV, gAndV, dAdd, dSub, dNeg, dLt, dLe, dGt, dGe, dCmp, gArgs, DL.gNil, DL.gCons, dLen, dAbs, dIntOf, dTup, dLst, sLst, sTup, sPar, uGo, uCons, uName, uNil, dIsi, Ty.is, DD.ty, dNot, dIsX, sTry, hAs, hOn, hNil, unAs, unEx, sDrop, sRaise, gE, gTe, slotOf, sItems, dItems, sArgsL, dListOf, m1, m3, e, mulP, red]
theorem over_eq (hp : Fr m p) (hq : Fr n q) (h0 : q.1 ≠ 0) (h : m + n ≤ 7000) : f_over [fr p, fr q] [] = some (.ret (.dat (fr (divP p q))), []) := by
  have m1 := dMul_fr hp.top hq.bot (by omega)
  have m3 := dMul_fr hp.bot hq.top (by omega)
  have e := lowest_eq (a := p.1 * q.2) (Int.mul_ne_zero hp.ne h0) (mul_lt hp.bot hq.top) (by omega)
  unfold f_over b_over
  simp [gof, ienv, islots, sSeq, sIf, sT, sBind, Env.views, Env.sv, gTest, gOp2, gOp1, gVar, gC, dIx, atI, ixN, OO.view, viewAll, dEq_int, dNe_int, sNx, sRet, sSet, sV, Env.store, Env.put, DD.td, tdAll, sSetIx, sFz, setAt0, setAt, Env.pl, Env.pset, sRetVar, sReturn, sCallK, sCallIo, callIo, callRd, arr, pick, sNil, sCons, sNameF, sOp2, sOp1, sTe, sOpt, sNot, sOr, sAnd, gNot, gOr, gAnd, gOrV, gAndV, dAdd, dSub, dNeg, dLt, dLe, dGt, dGe, dCmp, gArgs, DL.gNil, DL.gCons, dLen, dAbs, dIntOf, dTup, dLst, sLst, sTup, sPar, uGo, uCons, uName, uNil, dIsi, Ty.is, DD.ty, dNot, dIsX, sTry, hAs, hOn, hNil, unAs, unEx, sDrop, sRaise, gE, gTe, slotOf, sItems, dItems, sArgsL, dListOf, m1, m3, e, h0, divP, red]
theorem below_eq (hp : Fr m p) (hq : Fr n q) (h : m + n ≤ 7000) : f_below [fr p, fr q] [] = some (.ret (.dat (.bl (decide (p.1 * q.2 < q.1 * p.2)))), []) := by
  have m1 := dMul_fr hp.top hq.bot (by omega)
  have m2 := dMul_fr hq.top hp.bot (by omega)
  unfold f_below b_below
  simp [gof, ienv, islots, sSeq, sIf, sT, sBind, Env.views, Env.sv, gTest, gOp2, gOp1, gVar, gC, dIx, atI, ixN, OO.view, viewAll, dEq_int, dNe_int, sNx, sRet, sSet, sV, Env.store, Env.put, DD.td, tdAll, sSetIx, sFz, setAt0, setAt, Env.pl, Env.pset, sRetVar, sReturn, sCallK, sCallIo, callIo, callRd, arr, pick, sNil, sCons, sNameF, sOp2, sOp1, sTe, sOpt, sNot, sOr, sAnd, gNot, gOr, gAnd, gOrV, gAndV, dAdd, dSub, dNeg, dLt, dLe, dGt, dGe, dCmp, gArgs, DL.gNil, DL.gCons, dLen, dAbs, dIntOf, dTup, dLst, sLst, sTup, sPar, uGo, uCons, uName, uNil, dIsi, Ty.is, DD.ty, dNot, dIsX, sTry, hAs, hOn, hNil, unAs, unEx, sDrop, sRaise, gE, gTe, slotOf, sItems, dItems, sArgsL, dListOf, m1, m2]
theorem lplus_eq (hp : Fr m p) (hq : Fr n q) (h : m + n ≤ 7000) : f__law_plus [fr p, fr q] [] = some (.ret (.dat (fr (plusP p q))), []) := by
  have m1 := dMul_fr hp.top hq.bot (by omega)
  have m2 := dMul_fr hq.top hp.bot (by omega)
  have m3 := dMul_fr hp.bot hq.bot (by omega)
  have e := low_eq (a := p.1 * q.2 + q.1 * p.2) (Int.mul_ne_zero hp.ne hq.ne) (mul_lt hp.bot hq.bot) (by omega)
  unfold f__law_plus b__law_plus
  simp [gof, ienv, islots, sSeq, sIf, sT, sBind, Env.views, Env.sv, gTest, gOp2, gOp1, gVar, gC, dIx, atI, ixN, OO.view, viewAll, dEq_int, dNe_int, sNx, sRet, sSet, sV, Env.store, Env.put, DD.td, tdAll, sSetIx, sFz, setAt0, setAt, Env.pl, Env.pset, sRetVar, sReturn, sCallK, sCallIo, callIo, callRd, arr, pick, sNil, sCons, sNameF, sOp2, sOp1, sTe, sOpt, sNot, sOr, sAnd, gNot, gOr, gAnd, gOrV, gAndV, dAdd, dSub, dNeg, dLt, dLe, dGt, dGe, dCmp, gArgs, DL.gNil, DL.gCons, dLen, dAbs, dIntOf, dTup, dLst, sLst, sTup, sPar, uGo, uCons, uName, uNil, dIsi, Ty.is, DD.ty, dNot, dIsX, sTry, hAs, hOn, hNil, unAs, unEx, sDrop, sRaise, gE, gTe, slotOf, sItems, dItems, sArgsL, dListOf, m1, m2, m3, e, plusP, red]
theorem lby_eq (hp : Fr m p) (hq : Fr n q) (h : m + n ≤ 7000) : f__law_by [fr p, fr q] [] = some (.ret (.dat (fr (mulP p q))), []) := by
  have m1 := dMul_fr hp.top hq.top (by omega)
  have m3 := dMul_fr hp.bot hq.bot (by omega)
  have e := low_eq (a := p.1 * q.1) (Int.mul_ne_zero hp.ne hq.ne) (mul_lt hp.bot hq.bot) (by omega)
  unfold f__law_by b__law_by
  simp [gof, ienv, islots, sSeq, sIf, sT, sBind, Env.views, Env.sv, gTest, gOp2, gOp1, gVar, gC, dIx, atI, ixN, OO.view, viewAll, dEq_int, dNe_int, sNx, sRet, sSet, sV, Env.store, Env.put, DD.td, tdAll, sSetIx, sFz, setAt0, setAt, Env.pl, Env.pset, sRetVar, sReturn, sCallK, sCallIo, callIo, callRd, arr, pick, sNil, sCons, sNameF, sOp2, sOp1, sTe, sOpt, sNot, sOr, sAnd, gNot, gOr, gAnd, gOrV, gAndV, dAdd, dSub, dNeg, dLt, dLe, dGt, dGe, dCmp, gArgs, DL.gNil, DL.gCons, dLen, dAbs, dIntOf, dTup, dLst, sLst, sTup, sPar, uGo, uCons, uName, uNil, dIsi, Ty.is, DD.ty, dNot, dIsX, sTry, hAs, hOn, hNil, unAs, unEx, sDrop, sRaise, gE, gTe, slotOf, sItems, dItems, sArgsL, dListOf, m1, m3, e, mulP, red]
end
/-! sums -/
def sumP (ps : List (Int × Int)) : Int × Int := ps.foldl plusP (0, 1)
theorem fr01 : Fr 1 (0, 1) := ⟨by decide, by decide, by decide, by decide⟩
theorem foldl_fr {n : Nat} : ∀ (ps : List (Int × Int)) {m : Nat} {p : Int × Int}, Fr m p → (∀ q ∈ ps, Fr n q) → Fr (m + ps.length * (n + 1)) (ps.foldl plusP p)
  | [], m, p, hp, _ => by simpa using hp
  | q :: ps, m, p, hp, h => by
    have r := foldl_fr ps (plus_fr hp (h q List.mem_cons_self)) fun q' hq => h q' (List.mem_cons_of_mem _ hq)
    have e : m + n + 1 + ps.length * (n + 1) = m + (q :: ps).length * (n + 1) := by
      rw [List.length_cons, Nat.succ_mul]
      omega
    rw [e] at r
    exact r
theorem sum_fr {n : Nat} {ps : List (Int × Int)} (h : ∀ q ∈ ps, Fr n q) : Fr (1 + ps.length * (n + 1)) (sumP ps) := foldl_fr ps fr01 h
theorem total_loop {n : Nat} (L : DL.Slot) : ∀ (ps : List (Int × Int)) {m : Nat} {p : Int × Int} (s2 : DL.Slot), Fr m p → (∀ q ∈ ps, Fr n q) → m + ps.length * (n + 1) + n ≤ 7000 →
    ∃ t2, loopF (uName 2) w1_total (ps.map fr) ⟨[L, .own (.dat (fr p)), s2], []⟩ = .ok .nx ⟨[L, .own (.dat (fr (ps.foldl plusP p))), t2], []⟩
  | [], m, p, s2, _, _, _ => ⟨s2, rfl⟩
  | q :: ps, m, p, s2, hp, h, hb => by
    have hq := h q List.mem_cons_self
    rw [List.length_cons, Nat.succ_mul] at hb
    have e := plus_eq hp hq (by omega)
    obtain ⟨t2, r⟩ := total_loop L ps (p := plusP p q) (.own (.dat (fr q))) (plus_fr hp hq) (fun q' hq => h q' (List.mem_cons_of_mem _ hq)) (by omega)
    refine ⟨t2, ?_⟩
    have e1 : w1_total ⟨[L, .own (.dat (fr p)), .own (.dat (fr q))], []⟩ = .ok .nx ⟨[L, .own (.dat (fr (plusP p q))), .own (.dat (fr q))], []⟩ := by
      unfold w1_total
      cases L <;> simp [gof, ienv, islots, sSeq, sIf, sT, sBind, Env.views, Env.sv, gTest, gOp2, gOp1, gVar, gC, dIx, atI, ixN, OO.view, viewAll, dEq_int, dNe_int, sNx, sRet, sSet, sV, Env.store, Env.put, DD.td, tdAll, sSetIx, sFz, setAt0, setAt, Env.pl, Env.pset, sRetVar, sReturn, sCallK, sCallIo, callIo, callRd, arr, pick, sNil, sCons, sNameF, sOp2, sOp1, sTe, sOpt, sNot, sOr, sAnd, gNot, gOr, gAnd, gOrV, gAndV, dAdd, dSub, dNeg, dLt, dLe, dGt, dGe, dCmp, gArgs, DL.gNil, DL.gCons, dLen, dAbs, dIntOf, dTup, dLst, sLst, sTup, sPar, uGo, uCons, uName, uNil, dIsi, Ty.is, DD.ty, dNot, dIsX, sTry, hAs, hOn, hNil, unAs, unEx, sDrop, sRaise, gE, gTe, slotOf, sItems, dItems, sArgsL, dListOf, e]
    rw [List.map_cons]
    unfold loopF
    have e2 : uName 2 (fr q) ⟨[L, .own (.dat (fr p)), s2], []⟩ = some ⟨[L, .own (.dat (fr p)), .own (.dat (fr q))], []⟩ := rfl
    rw [e2]
    dsimp only
    rw [e1]
    exact r
theorem total_eq {n : Nat} {ps : List (Int × Int)} (h : ∀ q ∈ ps, Fr n q) (hb : 1 + ps.length * (n + 1) + n ≤ 7000) : f_total [.lst (ps.map fr)] [] = some (.ret (.dat (fr (sumP ps))), []) := by
  obtain ⟨t2, r⟩ := total_loop (.own (.dat (.lst (ps.map fr)))) ps .no fr01 h hb
  unfold f_total b_total
  simp [gof, ienv, islots, sSeq, sIf, sT, sBind, Env.views, Env.sv, gTest, gOp2, gOp1, gVar, gC, dIx, atI, ixN, OO.view, viewAll, dEq_int, dNe_int, sNx, sRet, sSet, sV, Env.store, Env.put, DD.td, tdAll, sSetIx, sFz, setAt0, setAt, Env.pl, Env.pset, sRetVar, sReturn, sCallK, sCallIo, callIo, callRd, arr, pick, sNil, sCons, sNameF, sOp2, sOp1, sTe, sOpt, sNot, sOr, sAnd, gNot, gOr, gAnd, gOrV, gAndV, dAdd, dSub, dNeg, dLt, dLe, dGt, dGe, dCmp, gArgs, DL.gNil, DL.gCons, dLen, dAbs, dIntOf, dTup, dLst, sLst, sTup, sPar, uGo, uCons, uName, uNil, dIsi, Ty.is, DD.ty, dNot, dIsX, sTry, hAs, hOn, hNil, unAs, unEx, sDrop, sRaise, gE, gTe, slotOf, sItems, dItems, sArgsL, dListOf, sFor, r, sumP]
theorem p5 : dPow (.int 10) (.int 5) = some (.int 100000) := by
  unfold dPow
  dsimp only
  rw [if_pos (by decide)]
  rfl
theorem Pile.mono {o : OO} {m n : Int} (h : Pile o m) (hm : m ≤ n) : Pile o n := by
  obtain ⟨a, b, c, h1, h2, h3, h4, h5, h6⟩ := h
  exact ⟨a, b, c, h1, h2, h3, h4, h5, by omega⟩
theorem number_ok {o : OO} {n : Int} (h : Pile o n) (hn : n < 90000) : ∃ p o', f__law_number [] [o] = some (.ret (.dat (fr p)), [o']) ∧ Fr 45 p ∧ Pile o' (n + 7) := by
  obtain ⟨r1, o1, e1, l1, u1, P1⟩ := take_ok (m := 10) h (by omega) (by decide) (by decide)
  by_cases h0 : r1 = 0
  · subst h0
    obtain ⟨r2, o2, e2, l2, u2, P2⟩ := take_ok (m := 1000000) P1 (by omega) (by decide) (by decide)
    obtain ⟨r3, o3, e3, l3, u3, P3⟩ := take_ok (m := 1000000) P2 (by omega) (by decide) (by decide)
    obtain ⟨r4, o4, e4, l4, u4, P4⟩ := take_ok (m := 2) P3 (by omega) (by decide) (by decide)
    obtain ⟨r5, o5, e5, l5, u5, P5⟩ := take_ok (m := 1000000) P4 (by omega) (by decide) (by decide)
    obtain ⟨r6, o6, e6, l6, u6, P6⟩ := take_ok (m := 100000) P5 (by omega) (by decide) (by decide)
    have m1 : dMul (.int r2) (.int 1000000) = some (.int (r2 * 1000000)) := dMul_of (m := 31) (n := 31) (by omega) (by decide)
    have m2 : dMul (.int r5) (.int 100000) = some (.int (r5 * 100000)) := dMul_of (m := 31) (n := 31) (by omega) (by decide)
    have hb : 1 + r5 * 100000 + r6 ≠ 0 := by omega
    have hs : (1 + r5 * 100000 + r6).natAbs < 2 ^ 45 := by omega
    by_cases h4 : r4 = 0
    · subst h4
      have hz : (-(r2 * 1000000 + r3)).natAbs < 2 ^ 45 := by omega
      have e := low_eq (a := -(r2 * 1000000 + r3)) hb hs (by decide)
      refine ⟨red (-(r2 * 1000000 + r3)) (1 + r5 * 100000 + r6), o6, ?_, red_fr hb hz hs, P6.mono (by omega)⟩
      unfold f__law_number b__law_number
      simp [gof, ienv, islots, sSeq, sIf, sT, sBind, Env.views, Env.sv, gTest, gOp2, gOp1, gVar, gC, dIx, atI, ixN, OO.view, viewAll, dEq_int, dNe_int, sNx, sRet, sSet, sV, Env.store, Env.put, DD.td, tdAll, sSetIx, sFz, setAt0, setAt, Env.pl, Env.pset, sRetVar, sReturn, sCallK, sCallIo, callIo, callRd, arr, pick, sNil, sCons, sNameF, sOp2, sOp1, sTe, sOpt, sNot, sOr, sAnd, gNot, gOr, gAnd, gOrV, gAndV, dAdd, dSub, dNeg, dLt, dLe, dGt, dGe, dCmp, gArgs, DL.gNil, DL.gCons, dLen, dAbs, dIntOf, dTup, dLst, sLst, sTup, sPar, uGo, uCons, uName, uNil, dIsi, Ty.is, DD.ty, dNot, dIsX, sTry, hAs, hOn, hNil, unAs, unEx, sDrop, sRaise, gE, gTe, slotOf, sItems, dItems, sArgsL, dListOf, e1, e2, e3, e4, e5, e6, m1, m2, p6, p5, e, red]
    · have hz : (r2 * 1000000 + r3).natAbs < 2 ^ 45 := by omega
      have e := low_eq (a := r2 * 1000000 + r3) hb hs (by decide)
      refine ⟨red (r2 * 1000000 + r3) (1 + r5 * 100000 + r6), o6, ?_, red_fr hb hz hs, P6.mono (by omega)⟩
      unfold f__law_number b__law_number
      simp [gof, ienv, islots, sSeq, sIf, sT, sBind, Env.views, Env.sv, gTest, gOp2, gOp1, gVar, gC, dIx, atI, ixN, OO.view, viewAll, dEq_int, dNe_int, sNx, sRet, sSet, sV, Env.store, Env.put, DD.td, tdAll, sSetIx, sFz, setAt0, setAt, Env.pl, Env.pset, sRetVar, sReturn, sCallK, sCallIo, callIo, callRd, arr, pick, sNil, sCons, sNameF, sOp2, sOp1, sTe, sOpt, sNot, sOr, sAnd, gNot, gOr, gAnd, gOrV, gAndV, dAdd, dSub, dNeg, dLt, dLe, dGt, dGe, dCmp, gArgs, DL.gNil, DL.gCons, dLen, dAbs, dIntOf, dTup, dLst, sLst, sTup, sPar, uGo, uCons, uName, uNil, dIsi, Ty.is, DD.ty, dNot, dIsX, sTry, hAs, hOn, hNil, unAs, unEx, sDrop, sRaise, gE, gTe, slotOf, sItems, dItems, sArgsL, dListOf, e1, e2, e3, e4, e5, e6, m1, m2, p6, p5, e, red, h4]
  · by_cases h1 : r1 < 4
    · obtain ⟨r2, o2, e2, l2, u2, P2⟩ := take_ok (m := 19) P1 (by omega) (by decide) (by decide)
      obtain ⟨r3, o3, e3, l3, u3, P3⟩ := take_ok (m := 6) P2 (by omega) (by decide) (by decide)
      have hb : 1 + r3 ≠ 0 := by omega
      have hs : (1 + r3).natAbs < 2 ^ 45 := by omega
      have hz : (r2 - 9).natAbs < 2 ^ 45 := by omega
      have e := low_eq (a := r2 - 9) hb hs (by decide)
      refine ⟨red (r2 - 9) (1 + r3), o3, ?_, red_fr hb hz hs, P3.mono (by omega)⟩
      unfold f__law_number b__law_number
      simp [gof, ienv, islots, sSeq, sIf, sT, sBind, Env.views, Env.sv, gTest, gOp2, gOp1, gVar, gC, dIx, atI, ixN, OO.view, viewAll, dEq_int, dNe_int, sNx, sRet, sSet, sV, Env.store, Env.put, DD.td, tdAll, sSetIx, sFz, setAt0, setAt, Env.pl, Env.pset, sRetVar, sReturn, sCallK, sCallIo, callIo, callRd, arr, pick, sNil, sCons, sNameF, sOp2, sOp1, sTe, sOpt, sNot, sOr, sAnd, gNot, gOr, gAnd, gOrV, gAndV, dAdd, dSub, dNeg, dLt, dLe, dGt, dGe, dCmp, gArgs, DL.gNil, DL.gCons, dLen, dAbs, dIntOf, dTup, dLst, sLst, sTup, sPar, uGo, uCons, uName, uNil, dIsi, Ty.is, DD.ty, dNot, dIsX, sTry, hAs, hOn, hNil, unAs, unEx, sDrop, sRaise, gE, gTe, slotOf, sItems, dItems, sArgsL, dListOf, e1, e2, e3, h0, h1, e, red]
    · obtain ⟨r2, o2, e2, l2, u2, P2⟩ := take_ok (m := 9) P1 (by omega) (by decide) (by decide)
      refine ⟨(r2 - 4, 1), o2, ?_, ⟨Int.one_pos, by simp, by show (r2 - 4).natAbs < 2 ^ 45; omega, by show (1 : Int).natAbs < 2 ^ 45; decide⟩, P2.mono (by omega)⟩
      unfold f__law_number b__law_number
      simp [gof, ienv, islots, sSeq, sIf, sT, sBind, Env.views, Env.sv, gTest, gOp2, gOp1, gVar, gC, dIx, atI, ixN, OO.view, viewAll, dEq_int, dNe_int, sNx, sRet, sSet, sV, Env.store, Env.put, DD.td, tdAll, sSetIx, sFz, setAt0, setAt, Env.pl, Env.pset, sRetVar, sReturn, sCallK, sCallIo, callIo, callRd, arr, pick, sNil, sCons, sNameF, sOp2, sOp1, sTe, sOpt, sNot, sOr, sAnd, gNot, gOr, gAnd, gOrV, gAndV, dAdd, dSub, dNeg, dLt, dLe, dGt, dGe, dCmp, gArgs, DL.gNil, DL.gCons, dLen, dAbs, dIntOf, dTup, dLst, sLst, sTup, sPar, uGo, uCons, uName, uNil, dIsi, Ty.is, DD.ty, dNot, dIsX, sTry, hAs, hOn, hNil, unAs, unEx, sDrop, sRaise, gE, gTe, slotOf, sItems, dItems, sArgsL, dListOf, e1, e2, h0, h1]
theorem dEq_fr {p q : Int × Int} : dEq (fr p) (fr q) = some (.bl (p.1 == q.1 && p.2 == q.2)) := dEq_tup2
theorem dNe_fr {p q : Int × Int} : dNe (fr p) (fr q) = some (.bl (!(p.1 == q.1 && p.2 == q.2))) := dNe_tup2
/-! ### the value of a fraction -/
def val (p : Int × Int) : Rat := (p.1 : Rat) / (p.2 : Rat)
theorem red_cross {a b : Int} (hb : b ≠ 0) : lowT a b * b = a * lowB a b := by
  have hg := gcd_pos (a := a) hb
  obtain ⟨k, hk⟩ := Int.gcd_dvd_left a b
  obtain ⟨l, hl⟩ := Int.gcd_dvd_right a b
  have e1 : a / (Int.gcd a b : Int) = k := by
    conv => lhs; lhs; rw [hk]
    exact Int.mul_ediv_cancel_left _ (by omega)
  have e2 : b / (Int.gcd a b : Int) = l := by
    conv => lhs; lhs; rw [hl]
    exact Int.mul_ediv_cancel_left _ (by omega)
  have key : k * b = a * l := by
    conv => lhs; rw [hl]
    conv => rhs; rw [hk]
    rw [← Int.mul_assoc, Int.mul_comm k, Int.mul_assoc]
  unfold lowT lowB
  rw [e1, e2]
  split
  · rw [Int.neg_mul, Int.mul_neg, key]
  · exact key
theorem fr_ext {m n : Nat} {p q : Int × Int} (hp : Fr m p) (hq : Fr n q) (h : p.1 * q.2 = q.1 * p.2) : p = q := by
  have hn : p.1.natAbs * q.2.natAbs = q.1.natAbs * p.2.natAbs := by rw [← Int.natAbs_mul, ← Int.natAbs_mul, h]
  have c1 : Nat.Coprime p.2.natAbs p.1.natAbs := by
    have := hp.cop
    rw [Int.gcd_comm] at this
    exact this
  have c2 : Nat.Coprime q.2.natAbs q.1.natAbs := by
    have := hq.cop
    rw [Int.gcd_comm] at this
    exact this
  have d1 : p.2.natAbs ∣ q.2.natAbs := c1.dvd_of_dvd_mul_left (by rw [hn]; exact Nat.dvd_mul_left _ _)
  have d2 : q.2.natAbs ∣ p.2.natAbs := c2.dvd_of_dvd_mul_left (by rw [← hn]; exact Nat.dvd_mul_left _ _)
  have e : p.2.natAbs = q.2.natAbs := Nat.dvd_antisymm d1 d2
  have h1 := hp.pos
  have h2 := hq.pos
  have e2 : p.2 = q.2 := by omega
  rw [e2] at h
  have e1 : p.1 = q.1 := Int.eq_of_mul_eq_mul_right (by omega) h
  exact Prod.ext e1 e2
theorem int_ne {a : Int} (h : a ≠ 0) : (a : Rat) ≠ 0 := fun z => h (Rat.intCast_inj.mp (by rw [z]; rfl))
theorem val_inj {m n : Nat} {p q : Int × Int} (hp : Fr m p) (hq : Fr n q) (h : val p = val q) : p = q := by
  refine fr_ext hp hq ?_
  unfold val at h
  rw [← Rat.divInt_eq_div, ← Rat.divInt_eq_div] at h
  exact (Rat.divInt_eq_divInt_iff hp.ne hq.ne).mp h
theorem val_red {a b : Int} (hb : b ≠ 0) : val (red a b) = (a : Rat) / (b : Rat) := by
  unfold val red
  rw [← Rat.divInt_eq_div, ← Rat.divInt_eq_div]
  have := lowB_pos (a := a) hb
  exact (Rat.divInt_eq_divInt_iff (by show lowB a b ≠ 0; omega) hb).mpr (red_cross hb)
section
variable {m n l : Nat} {p q r : Int × Int}
theorem val_plus (hp : Fr m p) (hq : Fr n q) : val (plusP p q) = val p + val q := by
  have h1 := int_ne hp.ne
  have h2 := int_ne hq.ne
  unfold plusP
  rw [val_red (Int.mul_ne_zero hp.ne hq.ne), Rat.intCast_add, Rat.intCast_mul, Rat.intCast_mul, Rat.intCast_mul]
  unfold val
  grind
theorem val_mul (hp : Fr m p) (hq : Fr n q) : val (mulP p q) = val p * val q := by
  have h1 := int_ne hp.ne
  have h2 := int_ne hq.ne
  unfold mulP
  rw [val_red (Int.mul_ne_zero hp.ne hq.ne), Rat.intCast_mul, Rat.intCast_mul]
  unfold val
  grind
theorem val_div (hp : Fr m p) (hq : Fr n q) (h0 : q.1 ≠ 0) : val (divP p q) = val p * (val q)⁻¹ := by
  have h1 := int_ne hp.ne
  have h2 := int_ne hq.ne
  have h3 := int_ne h0
  unfold divP
  rw [val_red (Int.mul_ne_zero hp.ne h0), Rat.intCast_mul, Rat.intCast_mul]
  unfold val
  grind
theorem val_ne (hq : Fr n q) (h0 : q.1 ≠ 0) : val q ≠ 0 := by
  have h2 := int_ne hq.ne
  have h3 := int_ne h0
  unfold val
  grind
theorem int_pos {a : Int} (h : 0 < a) : (0 : Rat) < (a : Rat) := Rat.intCast_lt_intCast.mpr h
theorem rat_mul_lt {a b c : Rat} (h : 0 < c) : a < b ↔ a * c < b * c := by
  constructor
  · intro h1; exact Rat.mul_lt_mul_of_pos_right h1 h
  · intro h1
    by_cases h2 : a < b
    · exact h2
    · exfalso
      have h3 : b = a ∨ b < a := by grind
      rcases h3 with h3 | h3
      · subst h3; grind
      · have := Rat.mul_lt_mul_of_pos_right h3 h
        grind
theorem lt_val (hp : Fr m p) (hq : Fr n q) : p.1 * q.2 < q.1 * p.2 ↔ val p < val q := by
  have h1 := int_pos hp.pos
  have h2 := int_pos hq.pos
  have h3 : (0 : Rat) < (p.2 : Rat) * (q.2 : Rat) := Rat.mul_pos h1 h2
  rw [rat_mul_lt h3, ← Rat.intCast_lt_intCast, Rat.intCast_mul, Rat.intCast_mul]
  have n1 := int_ne hp.ne
  have n2 := int_ne hq.ne
  have e1 : val p * ((p.2 : Rat) * (q.2 : Rat)) = (p.1 : Rat) * (q.2 : Rat) := by unfold val; grind
  have e2 : val q * ((p.2 : Rat) * (q.2 : Rat)) = (q.1 : Rat) * (p.2 : Rat) := by unfold val; grind
  rw [e1, e2]
end
/-! ### sums do not hang on order -/
def rsum : List (Int × Int) → Rat
  | [] => 0
  | p :: ps => val p + rsum ps
theorem val01 : val (0, 1) = 0 := by unfold val; grind
theorem val_foldl {n : Nat} : ∀ (ps : List (Int × Int)) {m : Nat} {p : Int × Int}, Fr m p → (∀ q ∈ ps, Fr n q) → val (ps.foldl plusP p) = val p + rsum ps
  | [], m, p, hp, _ => by show val p = val p + 0; grind
  | q :: ps, m, p, hp, h => by
    have hq := h q List.mem_cons_self
    have r := val_foldl ps (plus_fr hp hq) fun q' hq' => h q' (List.mem_cons_of_mem _ hq')
    show val (ps.foldl plusP (plusP p q)) = val p + (val q + rsum ps)
    rw [r, val_plus hp hq]
    grind
theorem val_sum {n : Nat} {ps : List (Int × Int)} (h : ∀ q ∈ ps, Fr n q) : val (sumP ps) = rsum ps := by
  unfold sumP
  rw [val_foldl ps fr01 h, val01]
  grind
theorem rsum_perm {ps qs : List (Int × Int)} (h : ps.Perm qs) : rsum ps = rsum qs := by
  induction h with
  | nil => rfl
  | cons x _ ih => unfold rsum; rw [ih]
  | swap x y l => unfold rsum; unfold rsum; grind
  | trans _ _ h1 h2 => exact h1.trans h2
theorem rsum_append : ∀ (ps qs : List (Int × Int)), rsum (ps ++ qs) = rsum ps + rsum qs
  | [], qs => by show rsum qs = 0 + rsum qs; grind
  | p :: ps, qs => by
    show val p + rsum (ps ++ qs) = val p + rsum ps + rsum qs
    rw [rsum_append ps qs]
    grind
theorem rsum_mul {n m : Nat} {r : Int × Int} (hr : Fr m r) : ∀ (ps : List (Int × Int)), (∀ q ∈ ps, Fr n q) → rsum (ps.map fun q => mulP q r) = val r * rsum ps
  | [], _ => by show (0 : Rat) = val r * 0; grind
  | p :: ps, h => by
    show val (mulP p r) + rsum (ps.map fun q => mulP q r) = val r * (val p + rsum ps)
    rw [rsum_mul hr ps fun q hq => h q (List.mem_cons_of_mem _ hq), val_mul (h p List.mem_cons_self) hr]
    grind
/-! ### goes -/
theorem below_val {m n : Nat} {p q : Int × Int} (hp : Fr m p) (hq : Fr n q) (h : m + n ≤ 7000) : f_below [fr p, fr q] [] = some (.ret (.dat (.bl (decide (val p < val q)))), []) := by
  rw [below_eq hp hq h]
  have : decide (p.1 * q.2 < q.1 * p.2) = decide (val p < val q) := decide_eq_decide.mpr (lt_val hp hq)
  rw [this]
theorem eq_val {m n : Nat} {p q : Int × Int} (hp : Fr m p) (hq : Fr n q) : (p.1 == q.1 && p.2 == q.2) = !(decide (val p < val q) || decide (val q < val p)) := by
  by_cases e : p = q
  · subst e
    have : ¬ val p < val p := by grind
    simp [this]
  · have h1 : val p ≠ val q := fun z => e (val_inj hp hq z)
    have h2 : val p < val q ∨ val q < val p := by grind
    have h3 : (p.1 == q.1 && p.2 == q.2) = false := by
      cases z : (p.1 == q.1 && p.2 == q.2) with
      | false => rfl
      | true =>
        rw [Bool.and_eq_true, beq_iff_eq, beq_iff_eq] at z
        exact absurd (Prod.ext z.1 z.2) e
    rw [h3]
    rcases h2 with h2 | h2 <;> simp [h2]
theorem goes_eq {m : Nat} {p q r : Int × Int} (hp : Fr m p) (hq : Fr m q) (hr : Fr m r) (hm : m ≤ 500) : f__law_goes [fr p, fr q, fr r] [] = some (.ret (.dat (.bl true)), []) := by
  have b1 := below_val hp hq (by omega)
  have b2 := below_val hq hr (by omega)
  have b3 := below_val hp hr (by omega)
  have b4 := below_val hq hp (by omega)
  have b5 := below_val hp hp (by omega)
  have b6 := below_val fr01 hr (by omega)
  have two : ∀ x : Int × Int, Fr m x → (∀ y ∈ [x, r], Fr m y) := fun x hx y hy => by
    rcases List.mem_cons.mp hy with rfl | hy
    · exact hx
    · rw [List.mem_singleton] at hy; subst hy; exact hr
  have t1 := total_eq (two p hp) (by simp only [List.length_cons, List.length_nil]; omega)
  have t2 := total_eq (two q hq) (by simp only [List.length_cons, List.length_nil]; omega)
  have F1 := (sum_fr (two p hp)).mono (n := 2000) (by simp only [List.length_cons, List.length_nil]; omega)
  have F2 := (sum_fr (two q hq)).mono (n := 2000) (by simp only [List.length_cons, List.length_nil]; omega)
  have b7 := below_val F1 F2 (by decide)
  have v1 : val (sumP [p, r]) = val p + (val r + 0) := val_sum (two p hp)
  have v2 : val (sumP [q, r]) = val q + (val r + 0) := val_sum (two q hq)
  have e7 : decide (val (sumP [p, r]) < val (sumP [q, r])) = decide (val p < val q) := decide_eq_decide.mpr (by rw [v1, v2]; grind)
  rw [e7] at b7
  have m1 := product_eq hp hr (by omega)
  have m2 := product_eq hq hr (by omega)
  have b8 := below_val (mul_fr hp hr) (mul_fr hq hr) (by omega)
  rw [val_mul hp hr, val_mul hq hr] at b8
  rw [val01] at b6
  have ee := eq_val hp hq
  have c1 : val p < val q → val q < val r → val p < val r := by grind
  have c2 : val p < val q → ¬ val q < val p := by grind
  have c3 : ¬ val p < val p := by grind
  have c4 : (0 : Rat) < val r → (val p * val r < val q * val r ↔ val p < val q) := fun h => (rat_mul_lt h).symm
  have qe : ∀ b : Bool, dEq (.bl b) (.bl b) = some (.bl true) := fun b => by cases b <;> rfl
  have qn : ∀ b : Bool, dNe (.bl b) (.bl b) = some (.bl false) := fun b => by cases b <;> rfl
  have qe1 : dEq (.bl true) (.bl false) = some (.bl false) := rfl
  have qe2 : dEq (.bl false) (.bl true) = some (.bl false) := rfl
  simp only [List.map_cons, List.map_nil] at t1 t2
  unfold f__law_goes b__law_goes
  by_cases h0 : (0 : Rat) < val r
  · have c4' := c4 h0
    by_cases h1 : val p < val q
    · have h2 := c2 h1
      by_cases h3 : val q < val r
      · have h4 := c1 h1 h3
        simp [gof, ienv, islots, sSeq, sIf, sT, sBind, Env.views, Env.sv, gTest, gOp2, gOp1, gVar, gC, dIx, atI, ixN, OO.view, viewAll, dEq_int, dNe_int, sNx, sRet, sSet, sV, Env.store, Env.put, DD.td, tdAll, sSetIx, sFz, setAt0, setAt, Env.pl, Env.pset, sRetVar, sReturn, sCallK, sCallIo, callIo, callRd, arr, pick, sNil, sCons, sNameF, sOp2, sOp1, sTe, sOpt, sNot, sOr, sAnd, gNot, gOr, gAnd, gOrV, gAndV, dAdd, dSub, dNeg, dLt, dLe, dGt, dGe, dCmp, gArgs, DL.gNil, DL.gCons, dLen, dAbs, dIntOf, dTup, dLst, sLst, sTup, sPar, uGo, uCons, uName, uNil, dIsi, Ty.is, DD.ty, dNot, dIsX, sTry, hAs, hOn, hNil, unAs, unEx, sDrop, sRaise, gE, gTe, slotOf, sItems, dItems, sArgsL, dListOf, b1, b2, b3, b4, b5, b6, b7, b8, t1, t2, m1, m2, h0, h1, h2, h3, h4, c3, c4', dEq_tup2, ee, qe, qn, qe1, qe2]
      · simp [gof, ienv, islots, sSeq, sIf, sT, sBind, Env.views, Env.sv, gTest, gOp2, gOp1, gVar, gC, dIx, atI, ixN, OO.view, viewAll, dEq_int, dNe_int, sNx, sRet, sSet, sV, Env.store, Env.put, DD.td, tdAll, sSetIx, sFz, setAt0, setAt, Env.pl, Env.pset, sRetVar, sReturn, sCallK, sCallIo, callIo, callRd, arr, pick, sNil, sCons, sNameF, sOp2, sOp1, sTe, sOpt, sNot, sOr, sAnd, gNot, gOr, gAnd, gOrV, gAndV, dAdd, dSub, dNeg, dLt, dLe, dGt, dGe, dCmp, gArgs, DL.gNil, DL.gCons, dLen, dAbs, dIntOf, dTup, dLst, sLst, sTup, sPar, uGo, uCons, uName, uNil, dIsi, Ty.is, DD.ty, dNot, dIsX, sTry, hAs, hOn, hNil, unAs, unEx, sDrop, sRaise, gE, gTe, slotOf, sItems, dItems, sArgsL, dListOf, b1, b2, b3, b4, b5, b6, b7, b8, t1, t2, m1, m2, h0, h1, h2, h3, c3, c4', dEq_tup2, ee, qe, qn, qe1, qe2]
    · by_cases h2 : val q < val p
      · simp [gof, ienv, islots, sSeq, sIf, sT, sBind, Env.views, Env.sv, gTest, gOp2, gOp1, gVar, gC, dIx, atI, ixN, OO.view, viewAll, dEq_int, dNe_int, sNx, sRet, sSet, sV, Env.store, Env.put, DD.td, tdAll, sSetIx, sFz, setAt0, setAt, Env.pl, Env.pset, sRetVar, sReturn, sCallK, sCallIo, callIo, callRd, arr, pick, sNil, sCons, sNameF, sOp2, sOp1, sTe, sOpt, sNot, sOr, sAnd, gNot, gOr, gAnd, gOrV, gAndV, dAdd, dSub, dNeg, dLt, dLe, dGt, dGe, dCmp, gArgs, DL.gNil, DL.gCons, dLen, dAbs, dIntOf, dTup, dLst, sLst, sTup, sPar, uGo, uCons, uName, uNil, dIsi, Ty.is, DD.ty, dNot, dIsX, sTry, hAs, hOn, hNil, unAs, unEx, sDrop, sRaise, gE, gTe, slotOf, sItems, dItems, sArgsL, dListOf, b1, b2, b3, b4, b5, b6, b7, b8, t1, t2, m1, m2, h0, h1, h2, c3, c4', dEq_tup2, ee, qe, qn, qe1, qe2]
      · simp [gof, ienv, islots, sSeq, sIf, sT, sBind, Env.views, Env.sv, gTest, gOp2, gOp1, gVar, gC, dIx, atI, ixN, OO.view, viewAll, dEq_int, dNe_int, sNx, sRet, sSet, sV, Env.store, Env.put, DD.td, tdAll, sSetIx, sFz, setAt0, setAt, Env.pl, Env.pset, sRetVar, sReturn, sCallK, sCallIo, callIo, callRd, arr, pick, sNil, sCons, sNameF, sOp2, sOp1, sTe, sOpt, sNot, sOr, sAnd, gNot, gOr, gAnd, gOrV, gAndV, dAdd, dSub, dNeg, dLt, dLe, dGt, dGe, dCmp, gArgs, DL.gNil, DL.gCons, dLen, dAbs, dIntOf, dTup, dLst, sLst, sTup, sPar, uGo, uCons, uName, uNil, dIsi, Ty.is, DD.ty, dNot, dIsX, sTry, hAs, hOn, hNil, unAs, unEx, sDrop, sRaise, gE, gTe, slotOf, sItems, dItems, sArgsL, dListOf, b1, b2, b3, b4, b5, b6, b7, b8, t1, t2, m1, m2, h0, h1, h2, c3, c4', dEq_tup2, ee, qe, qn, qe1, qe2]
  · by_cases h1 : val p < val q
    · have h2 := c2 h1
      by_cases h3 : val q < val r
      · have h4 := c1 h1 h3
        simp [gof, ienv, islots, sSeq, sIf, sT, sBind, Env.views, Env.sv, gTest, gOp2, gOp1, gVar, gC, dIx, atI, ixN, OO.view, viewAll, dEq_int, dNe_int, sNx, sRet, sSet, sV, Env.store, Env.put, DD.td, tdAll, sSetIx, sFz, setAt0, setAt, Env.pl, Env.pset, sRetVar, sReturn, sCallK, sCallIo, callIo, callRd, arr, pick, sNil, sCons, sNameF, sOp2, sOp1, sTe, sOpt, sNot, sOr, sAnd, gNot, gOr, gAnd, gOrV, gAndV, dAdd, dSub, dNeg, dLt, dLe, dGt, dGe, dCmp, gArgs, DL.gNil, DL.gCons, dLen, dAbs, dIntOf, dTup, dLst, sLst, sTup, sPar, uGo, uCons, uName, uNil, dIsi, Ty.is, DD.ty, dNot, dIsX, sTry, hAs, hOn, hNil, unAs, unEx, sDrop, sRaise, gE, gTe, slotOf, sItems, dItems, sArgsL, dListOf, b1, b2, b3, b4, b5, b6, b7, t1, t2, h0, h1, h2, h3, h4, c3, dEq_tup2, ee, qe, qn, qe1, qe2]
      · simp [gof, ienv, islots, sSeq, sIf, sT, sBind, Env.views, Env.sv, gTest, gOp2, gOp1, gVar, gC, dIx, atI, ixN, OO.view, viewAll, dEq_int, dNe_int, sNx, sRet, sSet, sV, Env.store, Env.put, DD.td, tdAll, sSetIx, sFz, setAt0, setAt, Env.pl, Env.pset, sRetVar, sReturn, sCallK, sCallIo, callIo, callRd, arr, pick, sNil, sCons, sNameF, sOp2, sOp1, sTe, sOpt, sNot, sOr, sAnd, gNot, gOr, gAnd, gOrV, gAndV, dAdd, dSub, dNeg, dLt, dLe, dGt, dGe, dCmp, gArgs, DL.gNil, DL.gCons, dLen, dAbs, dIntOf, dTup, dLst, sLst, sTup, sPar, uGo, uCons, uName, uNil, dIsi, Ty.is, DD.ty, dNot, dIsX, sTry, hAs, hOn, hNil, unAs, unEx, sDrop, sRaise, gE, gTe, slotOf, sItems, dItems, sArgsL, dListOf, b1, b2, b3, b4, b5, b6, b7, t1, t2, h0, h1, h2, h3, c3, dEq_tup2, ee, qe, qn, qe1, qe2]
    · by_cases h2 : val q < val p
      · simp [gof, ienv, islots, sSeq, sIf, sT, sBind, Env.views, Env.sv, gTest, gOp2, gOp1, gVar, gC, dIx, atI, ixN, OO.view, viewAll, dEq_int, dNe_int, sNx, sRet, sSet, sV, Env.store, Env.put, DD.td, tdAll, sSetIx, sFz, setAt0, setAt, Env.pl, Env.pset, sRetVar, sReturn, sCallK, sCallIo, callIo, callRd, arr, pick, sNil, sCons, sNameF, sOp2, sOp1, sTe, sOpt, sNot, sOr, sAnd, gNot, gOr, gAnd, gOrV, gAndV, dAdd, dSub, dNeg, dLt, dLe, dGt, dGe, dCmp, gArgs, DL.gNil, DL.gCons, dLen, dAbs, dIntOf, dTup, dLst, sLst, sTup, sPar, uGo, uCons, uName, uNil, dIsi, Ty.is, DD.ty, dNot, dIsX, sTry, hAs, hOn, hNil, unAs, unEx, sDrop, sRaise, gE, gTe, slotOf, sItems, dItems, sArgsL, dListOf, b1, b2, b3, b4, b5, b6, b7, t1, t2, h0, h1, h2, c3, dEq_tup2, ee, qe, qn, qe1, qe2]
      · simp [gof, ienv, islots, sSeq, sIf, sT, sBind, Env.views, Env.sv, gTest, gOp2, gOp1, gVar, gC, dIx, atI, ixN, OO.view, viewAll, dEq_int, dNe_int, sNx, sRet, sSet, sV, Env.store, Env.put, DD.td, tdAll, sSetIx, sFz, setAt0, setAt, Env.pl, Env.pset, sRetVar, sReturn, sCallK, sCallIo, callIo, callRd, arr, pick, sNil, sCons, sNameF, sOp2, sOp1, sTe, sOpt, sNot, sOr, sAnd, gNot, gOr, gAnd, gOrV, gAndV, dAdd, dSub, dNeg, dLt, dLe, dGt, dGe, dCmp, gArgs, DL.gNil, DL.gCons, dLen, dAbs, dIntOf, dTup, dLst, sLst, sTup, sPar, uGo, uCons, uName, uNil, dIsi, Ty.is, DD.ty, dNot, dIsX, sTry, hAs, hOn, hNil, unAs, unEx, sDrop, sRaise, gE, gTe, slotOf, sItems, dItems, sArgsL, dListOf, b1, b2, b3, b4, b5, b6, b7, t1, t2, h0, h1, h2, c3, dEq_tup2, ee, qe, qn, qe1, qe2]
theorem shp_frs : ∀ (ps : List (Int × Int)) (n : Nat), 0 < n → shpAll (ps.map fr) n = true
  | [], _, _ => by simp [shpAll]
  | p :: ps, n, h => by
    rw [List.map_cons, shpAll, shp_frs ps n h]
    simp [shp, shpAll, h]
/-! ### an order -/
theorem seqIx {n : Nat} {r : Int} (h0 : 0 ≤ r) (h1 : r < n) : seqIndex? r n = some r.toNat := by
  refine (ixN_seq (n := n) (i := r) (j := r.toNat) ?_).1
  unfold ixN
  rw [if_pos h0, if_pos h1]
theorem map_erase {α β : Type} (f : α → β) : ∀ (l : List α) (i : Nat), (l.eraseIdx i).map f = (l.map f).eraseIdx i
  | [], _ => rfl
  | _ :: _, 0 => rfl
  | x :: l, i + 1 => by
    show f x :: (l.eraseIdx i).map f = f x :: (l.map f).eraseIdx i
    rw [map_erase f l i]
theorem perm_erase {α : Type} : ∀ (l : List α) (j : Nat) (hj : j < l.length), (l[j] :: l.eraseIdx j).Perm l
  | x :: l, 0, _ => List.Perm.refl _
  | x :: l, j + 1, hj => by
    have hj' : j < l.length := by simpa using hj
    have ih := perm_erase l j hj'
    exact (List.Perm.swap x (l[j]'hj') (l.eraseIdx j)).trans (List.Perm.cons x ih)
abbrev EO (S : OO) (L G : List (Int × Int)) (o : OO) : DL.Env := ⟨[.ptr 0, .own S, .own (.lst ((L.map fr).map OO.dat)), .own (.lst ((G.map fr).map OO.dat))], [o]⟩
theorem order_turn {L G : List (Int × Int)} (hL : L ≠ []) (hl : L.length ≤ 20) (hG : G.length ≤ 20) {o : OO} {n : Int} (h : Pile o n) (hn : n < 90000) (S : OO) :
    ∃ (j : Nat) (hj : j < L.length) (o' : OO), Pile o' (n + 1) ∧ w1__law_order (EO S L G o) = .ok .nx (EO S (L.eraseIdx j) (G ++ [L[j]]) o') := by
  have hpos : 0 < L.length := List.length_pos_iff.mpr hL
  obtain ⟨r, o', e, l, u, P⟩ := take_ok (m := (L.length : Int)) h (by omega) (by omega) (by
    have : ((L.length : Int)).natAbs ≤ 20 := by omega
    exact Nat.lt_of_le_of_lt this (by decide))
  refine ⟨r.toNat, by omega, o', P, ?_⟩
  have hj : r.toNat < L.length := by omega
  obtain ⟨A, hA⟩ : ∃ A, (L.map fr).map OO.dat = A := ⟨_, rfl⟩
  obtain ⟨C, hC⟩ : ∃ C, (G.map fr).map OO.dat = C := ⟨_, rfl⟩
  have hlen : A.length = L.length := by rw [← hA, List.length_map, List.length_map]
  have hC1 : C.length < sizeLine := by
    rw [← hC, List.length_map, List.length_map]
    exact Nat.lt_of_le_of_lt hG (by decide)
  have hv : (viewAll A).length = L.length := by rw [← hA, viewAll_dat, List.length_map]
  have hix : A[r.toNat]? = some (.dat (fr L[r.toNat])) := by rw [← hA]; simp [hj]
  have hsq : seqIndex? r A.length = some r.toNat := seqIx l (by rw [hlen]; exact u)
  have hb : -(2 ^ 63 : Int) ≤ r ∧ r < 2 ^ 63 := ⟨by omega, by omega⟩
  have e1 : ((L.eraseIdx r.toNat).map fr).map OO.dat = A.eraseIdx r.toNat := by rw [← hA, map_erase, map_erase]
  have e2 : ((G ++ [L[r.toNat]]).map fr).map OO.dat = C ++ [.dat (fr L[r.toNat])] := by rw [← hC, List.map_append, List.map_append]; rfl
  unfold EO
  rw [e1, e2, hA, hC]
  have step : sPopAt 2 (sFz (sCallIo f__law_take 0 (sCons (sFz (sV (gArgs dLen (DL.gCons (gVar 2) DL.gNil)))) sNil))) ⟨[.ptr 0, .own S, .own (.lst A), .own (.lst C)], [o]⟩ = .ok (.dat (fr L[r.toNat])) ⟨[.ptr 0, .own S, .own (.lst (A.eraseIdx r.toNat)), .own (.lst C)], [o']⟩ := by
    have s1 : sFz (sCallIo f__law_take 0 (sCons (sFz (sV (gArgs dLen (DL.gCons (gVar 2) DL.gNil)))) sNil)) ⟨[.ptr 0, .own S, .own (.lst A), .own (.lst C)], [o]⟩ = .ok (.int r) ⟨[.ptr 0, .own S, .own (.lst A), .own (.lst C)], [o']⟩ := by
      simp [gof, ienv, islots, sSeq, sIf, sT, sBind, Env.views, Env.sv, gTest, gOp2, gOp1, gVar, gC, dIx, atI, ixN, OO.view, viewAll, dEq_int, dNe_int, sNx, sRet, sSet, sV, Env.store, Env.put, DD.td, tdAll, sSetIx, sFz, setAt0, setAt, Env.pl, Env.pset, sRetVar, sReturn, sCallK, sCallIo, callIo, callRd, arr, pick, sNil, sCons, sNameF, sOp2, sOp1, sTe, sOpt, sNot, sOr, sAnd, gNot, gOr, gAnd, gOrV, gAndV, dAdd, dSub, dNeg, dLt, dLe, dGt, dGe, dCmp, gArgs, DL.gNil, DL.gCons, dLen, dAbs, dIntOf, dTup, dLst, sLst, sTup, sPar, uGo, uCons, uName, uNil, dIsi, Ty.is, DD.ty, dNot, dIsX, sTry, hAs, hOn, hNil, unAs, unEx, sDrop, sRaise, gE, gTe, slotOf, sItems, dItems, sArgsL, dListOf, hv, e]
    unfold sPopAt
    simp only [Env.pl, List.getElem?_cons_succ, List.getElem?_cons_zero]
    unfold sBind
    rw [s1]
    simp only [popAt, Env.pl, List.getElem?_cons_succ, List.getElem?_cons_zero, if_pos hb, hsq, hix, Env.pset]
    rfl
  unfold w1__law_order sApp
  simp only [Env.pl, List.getElem?_cons_succ, List.getElem?_cons_zero]
  unfold sBind
  rw [step]
  simp [appAt, Env.pl, Env.pset, hC1]
theorem order_loop (S : OO) : ∀ (k : Nat) (L G : List (Int × Int)) (o : OO) (n : Int), L.length = k → L.length + G.length ≤ 20 → Pile o n → n + k < 90000 →
    ∃ (Q : List (Int × Int)) (o' : OO), Q.Perm (G ++ L) ∧ Pile o' (n + k) ∧ loopW (k + 1) c1__law_order w1__law_order (EO S L G o) = .ok .nx (EO S [] Q o')
  | 0, L, G, o, n, hk, _, h, _ => by
    have e : L = [] := List.length_eq_zero_iff.mp hk
    subst e
    refine ⟨G, o, by rw [List.append_nil], h.mono (by omega), ?_⟩
    unfold loopW c1__law_order
    simp [gof, ienv, islots, sSeq, sIf, sT, sBind, Env.views, Env.sv, gTest, gOp2, gOp1, gVar, gC, dIx, atI, ixN, OO.view, viewAll, dEq_int, dNe_int, sNx, sRet, sSet, sV, Env.store, Env.put, DD.td, tdAll, sSetIx, sFz, setAt0, setAt, Env.pl, Env.pset, sRetVar, sReturn, sCallK, sCallIo, callIo, callRd, arr, pick, sNil, sCons, sNameF, sOp2, sOp1, sTe, sOpt, sNot, sOr, sAnd, gNot, gOr, gAnd, gOrV, gAndV, dAdd, dSub, dNeg, dLt, dLe, dGt, dGe, dCmp, gArgs, DL.gNil, DL.gCons, dLen, dAbs, dIntOf, dTup, dLst, sLst, sTup, sPar, uGo, uCons, uName, uNil, dIsi, Ty.is, DD.ty, dNot, dIsX, sTry, hAs, hOn, hNil, unAs, unEx, sDrop, sRaise, gE, gTe, slotOf, sItems, dItems, sArgsL, dListOf, dNe, shp, shpAll, eqB, DD.pd, pdAll, PyData.eqv, PyData.eqvAll]
  | k + 1, L, G, o, n, hk, hl, h, hn => by
    have hL : L ≠ [] := fun z => by subst z; cases hk
    obtain ⟨j, hj, o1, P1, e1⟩ := order_turn hL (by omega) (by omega) h (by omega) S (G := G)
    have hlen : (L.eraseIdx j).length = k := by rw [List.length_eraseIdx_of_lt hj]; omega
    obtain ⟨Q, o', hp, P, e⟩ := order_loop S k (L.eraseIdx j) (G ++ [L[j]]) o1 (n + 1) hlen (by rw [hlen, List.length_append, List.length_singleton]; omega) P1 (by omega)
    refine ⟨Q, o', hp.trans ?_, P.mono (by omega), ?_⟩
    · rw [List.append_assoc]
      exact List.Perm.append_left G (perm_erase L j hj)
    · obtain ⟨x, L', rfl⟩ := List.exists_cons_of_ne_nil hL
      have c : c1__law_order (EO S (x :: L') G o) = .ok true (EO S (x :: L') G o) := by
        have hne : dNe (.lst (fr x :: L'.map fr)) (.lst []) = some (.bl true) := by
          unfold dNe
          have : shp (.lst (fr x :: L'.map fr)) 8 = true := by
            have := shp_frs (x :: L') 7 (by decide)
            simpa [shp] using this
          rw [this]
          simp [shp, shpAll, eqB, DD.pd, pdAll, PyData.eqv, PyData.eqvAll]
        have hz : viewAll (((x :: L').map fr).map OO.dat) = fr x :: L'.map fr := viewAll_dat _
        unfold c1__law_order EO
        obtain ⟨A, hA⟩ : ∃ A, ((x :: L').map fr).map OO.dat = A := ⟨_, rfl⟩
        rw [hA] at hz ⊢
        obtain ⟨C, hC⟩ : ∃ C, (G.map fr).map OO.dat = C := ⟨_, rfl⟩
        rw [hC]
        cases S <;> simp [gof, ienv, islots, sSeq, sIf, sT, sBind, Env.views, Env.sv, gTest, gOp2, gOp1, gVar, gC, dIx, atI, ixN, OO.view, viewAll, dEq_int, dNe_int, sNx, sRet, sSet, sV, Env.store, Env.put, DD.td, tdAll, sSetIx, sFz, setAt0, setAt, Env.pl, Env.pset, sRetVar, sReturn, sCallK, sCallIo, callIo, callRd, arr, pick, sNil, sCons, sNameF, sOp2, sOp1, sTe, sOpt, sNot, sOr, sAnd, gNot, gOr, gAnd, gOrV, gAndV, dAdd, dSub, dNeg, dLt, dLe, dGt, dGe, dCmp, gArgs, DL.gNil, DL.gCons, dLen, dAbs, dIntOf, dTup, dLst, sLst, sTup, sPar, uGo, uCons, uName, uNil, dIsi, Ty.is, DD.ty, dNot, dIsX, sTry, hAs, hOn, hNil, unAs, unEx, sDrop, sRaise, gE, gTe, slotOf, sItems, dItems, sArgsL, dListOf, hz, hne]
      unfold loopW
      rw [c]
      dsimp only
      rw [e1]
      exact e
theorem order_eq {L : List (Int × Int)} (hl : L.length ≤ 20) {o : OO} {n : Int} (h : Pile o n) (hn : n < 80000) : ∃ (Q : List (Int × Int)) (o' : OO), Q.Perm L ∧ Pile o' (n + 20) ∧ f__law_order [.lst (L.map fr)] [o] = some (.ret (.lst ((Q.map fr).map OO.dat)), [o']) := by
  obtain ⟨Q, o', hp, P, e⟩ := order_loop (.dat (.lst (L.map fr))) L.length L [] o n rfl (by simpa using hl) h (by omega)
  have e' := sWh_eq e (by intro z; cases z)
  refine ⟨Q, o', hp, P.mono (by omega), ?_⟩
  unfold EO at e'
  obtain ⟨A, hA⟩ : ∃ A, (L.map fr).map OO.dat = A := ⟨_, rfl⟩
  obtain ⟨C, hC⟩ : ∃ C, (Q.map fr).map OO.dat = C := ⟨_, rfl⟩
  rw [hA, hC] at e'
  rw [hC]
  simp only [List.map_nil] at e'
  unfold f__law_order b__law_order
  simp [gof, ienv, islots, sSeq, sIf, sT, sBind, Env.views, Env.sv, gTest, gOp2, gOp1, gVar, gC, dIx, atI, ixN, OO.view, viewAll, dEq_int, dNe_int, sNx, sRet, sSet, sV, Env.store, Env.put, DD.td, tdAll, sSetIx, sFz, setAt0, setAt, Env.pl, Env.pset, sRetVar, sReturn, sCallK, sCallIo, callIo, callRd, arr, pick, sNil, sCons, sNameF, sOp2, sOp1, sTe, sOpt, sNot, sOr, sAnd, gNot, gOr, gAnd, gOrV, gAndV, dAdd, dSub, dNeg, dLt, dLe, dGt, dGe, dCmp, gArgs, DL.gNil, DL.gCons, dLen, dAbs, dIntOf, dTup, dLst, sLst, sTup, sPar, uGo, uCons, uName, uNil, dIsi, Ty.is, DD.ty, dNot, dIsX, sTry, hAs, hOn, hNil, unAs, unEx, sDrop, sRaise, gE, gTe, slotOf, sItems, dItems, sArgsL, dListOf, hA, e']
/-! ### a turn -/
theorem row_ok (a0 a1 a3 a4 a5 a6 a8 a9 : DL.Slot) : ∀ (ds : List DD) (o : OO) (n : Int) (acc : List OO) (s7 : DL.Slot), Pile o n → n + 7 * (ds.length : Int) < 90000 → acc.length + ds.length < 1000 →
    ∃ (o' : OO) (ps : List (Int × Int)), (∀ p ∈ ps, Fr 45 p) ∧ ps.length = ds.length ∧ lcLoop [7] (uName 7) t9_law e9_law ds acc ⟨[a0, a1, .own o, a3, a4, a5, a6, s7, a8, a9], []⟩ = .ok (.lst (acc ++ (ps.map fr).map OO.dat)) ⟨[a0, a1, .own o', a3, a4, a5, a6, .no, a8, a9], []⟩ ∧ Pile o' (n + 7 * (ds.length : Int))
  | [], o, n, acc, s7, h, _, _ => ⟨o, [], (fun p hp => by cases hp), rfl, (by simp [lcLoop, unwipe, Env.put]), (by simpa using h)⟩
  | d :: ds, o, n, acc, s7, h, hn, hl => by
    rw [List.length_cons] at hn hl
    obtain ⟨p, o1, e1, F1, P1⟩ := number_ok h (by omega)
    obtain ⟨o', ps, F, l, e, P⟩ := row_ok a0 a1 a3 a4 a5 a6 a8 a9 ds o1 (n + 7) (acc ++ [.dat (fr p)]) .no P1 (by omega) (by rw [List.length_append, List.length_singleton]; omega)
    refine ⟨o', p :: ps, fun q hq => ?_, by rw [List.length_cons, l, List.length_cons], ?_, P.mono (by rw [List.length_cons]; omega)⟩
    · rcases List.mem_cons.mp hq with rfl | hq
      · exact F1
      · exact F q hq
    · have hz : acc.length < 1000 := by omega
      have ee : e9_law ⟨[a0, a1, .own o, a3, a4, a5, a6, .own (.dat d), a8, a9], []⟩ = .ok (.dat (fr p)) ⟨[a0, a1, .own o1, a3, a4, a5, a6, .own (.dat d), a8, a9], []⟩ := by
        unfold e9_law
        simp [gof, ienv, islots, sSeq, sIf, sT, sBind, Env.views, Env.sv, gTest, gOp2, gOp1, gVar, gC, dIx, atI, ixN, OO.view, viewAll, dEq_int, dNe_int, sNx, sRet, sSet, sV, Env.store, Env.put, DD.td, tdAll, sSetIx, sFz, setAt0, setAt, Env.pl, Env.pset, sRetVar, sReturn, sCallK, sCallIo, callIo, callRd, arr, pick, sNil, sCons, sNameF, sOp2, sOp1, sTe, sOpt, sNot, sOr, sAnd, gNot, gOr, gAnd, gOrV, gAndV, dAdd, dSub, dNeg, dLt, dLe, dGt, dGe, dCmp, gArgs, DL.gNil, DL.gCons, dLen, dAbs, dIntOf, dTup, dLst, sLst, sTup, sPar, uGo, uCons, uName, uNil, dIsi, Ty.is, DD.ty, dNot, dIsX, sTry, hAs, hOn, hNil, unAs, unEx, sDrop, sRaise, gE, gTe, slotOf, sItems, dItems, sArgsL, dListOf, e1]
      have h1 : uName 7 d ⟨[a0, a1, .own o, a3, a4, a5, a6, s7, a8, a9], []⟩ = some ⟨[a0, a1, .own o, a3, a4, a5, a6, .own (.dat d), a8, a9], []⟩ := rfl
      have h2 : ∀ ρ, t9_law ρ = .ok true ρ := fun _ => rfl
      unfold lcLoop
      rw [h1]
      dsimp only
      rw [h2]
      dsimp only
      rw [ee]
      dsimp only
      rw [if_pos hz]
      show lcLoop [7] (uName 7) t9_law e9_law ds (acc ++ [.dat (fr p)]) ⟨[a0, a1, .own o1, a3, a4, a5, a6, .no, a8, a9], []⟩ = _
      rw [e, List.append_assoc]
      rfl
/-- the row times a number -/
theorem mul_row {r : Int × Int} (hr : Fr 45 r) (a0 a1 a2 a3 a4 a6 a7 a8 : DL.Slot) : ∀ (ps : List (Int × Int)) (acc : List OO) (s9 : DL.Slot), (∀ p ∈ ps, Fr 45 p) → acc.length + ps.length < 1000 →
    lcLoop [9] (uName 9) t7_law e7_law (ps.map fr) acc ⟨[a0, a1, a2, a3, a4, .own (.dat (fr r)), a6, a7, a8, s9], []⟩ = .ok (.lst (acc ++ ((ps.map fun q => mulP q r).map fr).map OO.dat)) ⟨[a0, a1, a2, a3, a4, .own (.dat (fr r)), a6, a7, a8, .no], []⟩
  | [], acc, s9, _, _ => by simp [lcLoop, unwipe, Env.put]
  | p :: ps, acc, s9, h, hl => by
    rw [List.length_cons] at hl
    have hp := h p List.mem_cons_self
    have e := mul_row hr a0 a1 a2 a3 a4 a6 a7 a8 ps (acc ++ [.dat (fr (mulP p r))]) .no (fun q hq => h q (List.mem_cons_of_mem _ hq)) (by rw [List.length_append, List.length_singleton]; omega)
    have m := product_eq hp hr (by decide)
    have hz : acc.length < 1000 := by omega
    have ee : e7_law ⟨[a0, a1, a2, a3, a4, .own (.dat (fr r)), a6, a7, a8, .own (.dat (fr p))], []⟩ = .ok (.dat (fr (mulP p r))) ⟨[a0, a1, a2, a3, a4, .own (.dat (fr r)), a6, a7, a8, .own (.dat (fr p))], []⟩ := by
      unfold e7_law
      simp [gof, ienv, islots, sSeq, sIf, sT, sBind, Env.views, Env.sv, gTest, gOp2, gOp1, gVar, gC, dIx, atI, ixN, OO.view, viewAll, dEq_int, dNe_int, sNx, sRet, sSet, sV, Env.store, Env.put, DD.td, tdAll, sSetIx, sFz, setAt0, setAt, Env.pl, Env.pset, sRetVar, sReturn, sCallK, sCallIo, callIo, callRd, arr, pick, sNil, sCons, sNameF, sOp2, sOp1, sTe, sOpt, sNot, sOr, sAnd, gNot, gOr, gAnd, gOrV, gAndV, dAdd, dSub, dNeg, dLt, dLe, dGt, dGe, dCmp, gArgs, DL.gNil, DL.gCons, dLen, dAbs, dIntOf, dTup, dLst, sLst, sTup, sPar, uGo, uCons, uName, uNil, dIsi, Ty.is, DD.ty, dNot, dIsX, sTry, hAs, hOn, hNil, unAs, unEx, sDrop, sRaise, gE, gTe, slotOf, sItems, dItems, sArgsL, dListOf, m]
    rw [List.map_cons]
    have h1 : uName 9 (fr p) ⟨[a0, a1, a2, a3, a4, .own (.dat (fr r)), a6, a7, a8, s9], []⟩ = some ⟨[a0, a1, a2, a3, a4, .own (.dat (fr r)), a6, a7, a8, .own (.dat (fr p))], []⟩ := rfl
    have h2 : ∀ ρ, t7_law ρ = .ok true ρ := fun _ => rfl
    unfold lcLoop
    rw [h1]
    dsimp only
    rw [h2]
    dsimp only
    rw [ee]
    dsimp only
    rw [if_pos hz]
    show lcLoop [9] (uName 9) t7_law e7_law (ps.map fr) (acc ++ [.dat (fr (mulP p r))]) ⟨[a0, a1, a2, a3, a4, .own (.dat (fr r)), a6, a7, a8, .no], []⟩ = _
    rw [e, List.append_assoc]
    rfl
theorem cut_lo (B : List DD) {k : Nat} (h : k ≤ B.length) : DL.cutD B none (some (k : Int)) = B.take k := by
  unfold DL.cutD
  rw [HT.sIx_none, HT.sIx_nat, Nat.min_eq_left h]
  simp
theorem cut_hi (B : List DD) {k : Nat} (h : k ≤ B.length) : DL.cutD B (some (k : Int)) none = B.drop k := by
  unfold DL.cutD
  rw [HT.sIx_none, HT.sIx_nat, Nat.min_eq_left h]
  rw [List.take_of_length_le (by rw [List.length_drop]; omega)]
abbrev E10 (S : DD) (s1 s2 s3 s4 s5 s6 s7 s8 s9 : DL.Slot) : DL.Env := ⟨[.own (.dat S), s1, s2, s3, s4, s5, s6, s7, s8, s9], []⟩
def Fin10 (S : DD) (r : Res Fl) : Prop := ∃ t1 t2 t3 t4 t5 t6 t7 t8 t9, r = .ok .nx (E10 S t1 t2 t3 t4 t5 t6 t7 t8 t9)
theorem turn_ok {ns : List Int} {k : Nat} (hk : k < 30) (s2 s3 s4 s5 s6 s7 s8 s9 : DL.Slot) :
    Fin10 (.lst (ns.map DD.int)) (w11_law (E10 (.lst (ns.map DD.int)) (.own (.dat (.int (k : Int)))) s2 s3 s4 s5 s6 s7 s8 s9)) := by
  obtain ⟨o, e0, P0⟩ := pile_ok (ns := ns) hk
  obtain ⟨p, o1, e1, Fp, P1⟩ := number_ok P0 (by decide)
  obtain ⟨q, o2, e2, Fq, P2⟩ := number_ok P1 (by decide)
  obtain ⟨r, o3, e3, Fr_, P3⟩ := number_ok P2 (by decide)
  obtain ⟨c, o4, e4, l4, u4, P4⟩ := take_ok (m := 8) P3 (by decide) (by decide) (by decide)
  have hlen : (rangeD 0 c.toNat).length = c.toNat := by simp [rangeD]
  obtain ⟨o5, ps, Fps, lp, e5, P5⟩ := row_ok (.own (.dat (.lst (ns.map DD.int)))) (.own (.dat (.int (k : Int)))) (.own (.dat (fr p))) (.own (.dat (fr q))) (.own (.dat (fr r))) s6 s8 s9 (rangeD 0 c.toNat) o4 _ [] .no P4 (by rw [hlen]; omega) (by rw [hlen, List.length_nil]; omega)
  rw [hlen] at lp P5
  have P5' := P5.mono (n := 6000) (by omega)
  have hps : ps.length ≤ 7 := by omega
  obtain ⟨a, o6, e6, l6, u6, P6⟩ := take_ok (m := (ps.length : Int) + 1) P5' (by decide) (by omega) (by
    have : ((ps.length : Int) + 1).natAbs ≤ 8 := by omega
    exact Nat.lt_of_le_of_lt this (by decide))
  obtain ⟨Q, o7, hQ, P7, e7⟩ := order_eq (L := ps) (by omega) P6 (by decide)
  have FQ : ∀ x ∈ Q, Fr 45 x := fun x hx => Fps x (hQ.mem_iff.mp hx)
  have lQ : Q.length = ps.length := hQ.length_eq
  have Fs := (sum_fr Fps).mono (n := 400) (by omega)
  have FsQ := (sum_fr FQ).mono (n := 400) (by omega)
  have vS : val (sumP ps) = rsum ps := val_sum Fps
  have eQ : sumP Q = sumP ps := val_inj FsQ Fs (by rw [val_sum FQ, vS, rsum_perm hQ])
  have t1 := total_eq FQ (by omega)
  rw [eQ] at t1
  have t2 := total_eq Fps (by omega)
  obtain ⟨j, hj⟩ : ∃ j : Nat, a = (j : Int) := ⟨a.toNat, by omega⟩
  subst hj
  have hjl : j ≤ ps.length := by omega
  have Fl : ∀ x ∈ ps.take j, Fr 45 x := fun x hx => Fps x (List.mem_of_mem_take hx)
  have Fh : ∀ x ∈ ps.drop j, Fr 45 x := fun x hx => Fps x (List.mem_of_mem_drop hx)
  have ll : (ps.take j).length ≤ 7 := by rw [List.length_take]; omega
  have lh : (ps.drop j).length ≤ 7 := by rw [List.length_drop]; omega
  have t3 := total_eq Fl (by omega)
  have t4 := total_eq Fh (by omega)
  have FL := (sum_fr Fl).mono (n := 400) (by omega)
  have FH := (sum_fr Fh).mono (n := 400) (by omega)
  have two : ∀ y ∈ [sumP (ps.take j), sumP (ps.drop j)], Fr 400 y := fun y hy => by
    rcases List.mem_cons.mp hy with rfl | hy
    · exact FL
    · rw [List.mem_singleton] at hy; subst hy; exact FH
  have t5 := total_eq two (by simp only [List.length_cons, List.length_nil]; omega)
  have e25 : sumP [sumP (ps.take j), sumP (ps.drop j)] = sumP ps := val_inj (sum_fr two) Fs (by
    rw [val_sum two, vS]
    show val (sumP (ps.take j)) + (val (sumP (ps.drop j)) + 0) = rsum ps
    rw [val_sum Fl, val_sum Fh]
    have := rsum_append (ps.take j) (ps.drop j)
    rw [List.take_append_drop] at this
    rw [this]
    grind)
  rw [e25] at t5
  simp only [List.map_cons, List.map_nil] at t5
  rw [List.map_take] at t3
  rw [List.map_drop] at t4
  have m1 := product_eq Fp Fq (by decide)
  have m2 := product_eq (mul_fr Fp Fq) Fr_ (by decide)
  have m3 := product_eq Fr_ Fq (by decide)
  have m4 := product_eq Fp (mul_fr Fr_ Fq) (by decide)
  have e34 : mulP p (mulP r q) = mulP (mulP p q) r := val_inj (mul_fr Fp (mul_fr Fr_ Fq)) (mul_fr (mul_fr Fp Fq) Fr_) (by
    rw [val_mul Fp (mul_fr Fr_ Fq), val_mul Fr_ Fq, val_mul (mul_fr Fp Fq) Fr_, val_mul Fp Fq]
    grind)
  rw [e34] at m4
  have m5 := product_eq Fr_ Fs (by decide)
  have Fm : ∀ x ∈ ps.map (fun q => mulP q r), Fr 90 x := fun x hx => by
    obtain ⟨y, hy, rfl⟩ := List.mem_map.mp hx
    exact mul_fr (Fps y hy) Fr_
  have lm : (ps.map fun q => mulP q r).length ≤ 7 := by rw [List.length_map]; exact hps
  have t6 := total_eq Fm (by omega)
  have e6m : sumP (ps.map fun q => mulP q r) = mulP r (sumP ps) := val_inj (sum_fr Fm) (mul_fr Fr_ Fs) (by
    rw [val_sum Fm, rsum_mul Fr_ ps Fps, val_mul Fr_ Fs, vS])
  rw [e6m] at t6
  have mr := fun a0 a1 a2 a3 a4 a6 a7 a8 => mul_row Fr_ a0 a1 a2 a3 a4 a6 a7 a8 ps [] .no Fps (by rw [List.length_nil]; omega)
  have g1 := goes_eq Fp Fq Fr_ (by decide)
  have g2 := goes_eq Fr_ Fp Fq (by decide)
  have vA : viewAll ((ps.map fr).map OO.dat) = ps.map fr := viewAll_dat _
  have vQ : viewAll ((Q.map fr).map OO.dat) = Q.map fr := viewAll_dat _
  have vM : viewAll (((ps.map fun q => mulP q r).map fr).map OO.dat) = (ps.map fun q => mulP q r).map fr := viewAll_dat _
  have hd : dRange1 [.int c] = some (rangeD 0 c.toNat) := by
    unfold dRange1
    dsimp only
    rw [if_pos ⟨by omega, by omega⟩]
  have c1 := cut_lo (ps.map fr) (k := j) (by rw [List.length_map]; exact hjl)
  have c2 := cut_hi (ps.map fr) (k := j) (by rw [List.length_map]; exact hjl)
  have hBl : ((ps.map fr).length : Int) = (ps.length : Int) := by rw [List.length_map]
  simp only [List.nil_append] at e5 mr
  obtain ⟨M, hM⟩ : ∃ M, ((ps.map fun q => mulP q r).map fr).map OO.dat = M := ⟨_, rfl⟩
  obtain ⟨N, hN⟩ : ∃ N, (ps.map fun q => mulP q r).map fr = N := ⟨_, rfl⟩
  obtain ⟨A, hA⟩ : ∃ A, (ps.map fr).map OO.dat = A := ⟨_, rfl⟩
  obtain ⟨C, hC⟩ : ∃ C, (Q.map fr).map OO.dat = C := ⟨_, rfl⟩
  obtain ⟨B, hB⟩ : ∃ B, ps.map fr = B := ⟨_, rfl⟩
  obtain ⟨D, hD⟩ : ∃ D, Q.map fr = D := ⟨_, rfl⟩
  rw [hM, hN] at vM
  simp only [hM] at mr
  rw [hA, hB] at vA
  rw [hC, hD] at vQ
  rw [hA] at e5
  rw [hB, hC] at e7
  rw [hD] at t1
  rw [hB] at t2 t3 t4 c1 c2 hBl
  rw [hN] at t6
  simp only [hB] at mr
  have dv : ∀ x : List DD, viewAll (x.map OO.dat) = x := viewAll_dat
  have dv2 : viewAll (List.take j (List.map OO.dat B)) = List.take j B := by rw [← List.map_take]; exact viewAll_dat _
  have dv3 : viewAll (List.drop j (List.map OO.dat B)) = List.drop j B := by rw [← List.map_drop]; exact viewAll_dat _
  by_cases h0 : q.1 = 0
  · unfold w11_law
    simp [gof, ienv, islots, sSeq, sIf, sT, sBind, Env.views, Env.sv, gTest, gOp2, gOp1, gVar, gC, dIx, atI, ixN, OO.view, viewAll, dEq_int, dNe_int, sNx, sRet, sSet, sV, Env.store, Env.put, DD.td, tdAll, sSetIx, sFz, setAt0, setAt, Env.pl, Env.pset, sRetVar, sReturn, sCallK, sCallIo, callIo, callRd, arr, pick, sNil, sCons, sNameF, sOp2, sOp1, sTe, sOpt, sNot, sOr, sAnd, gNot, gOr, gAnd, gOrV, gAndV, dAdd, dSub, dNeg, dLt, dLe, dGt, dGe, dCmp, gArgs, DL.gNil, DL.gCons, dLen, dAbs, dIntOf, dTup, dLst, sLst, sTup, sPar, uGo, uCons, uName, uNil, dIsi, Ty.is, DD.ty, dNot, dIsX, sTry, hAs, hOn, hNil, unAs, unEx, sDrop, sRaise, gE, gTe, slotOf, sItems, dItems, sArgsL, dListOf, e0, e1, e2, e3, uTup, sUn, uGo, sLc, sRange, hd, DL.Env.wipe, e4, e5, vA, hBl, e6, e7, vQ, t1, t2, sSlL, gNoPart, gPart, c1, c2, dv, dv2, dv3, t3, t4, t5, m1, m2, m3, m4, m5, mr, vM, t6, g1, g2, h0, dNe_tup2]
    exact ⟨_, _, _, _, _, _, _, _, _, rfl⟩
  · have F11 : Fr 1 ((1 : Int), (1 : Int)) := ⟨by decide, by decide, by decide, by decide⟩
    have v11 : val (1, 1) = 1 := by unfold val; grind
    have nq := val_ne Fq h0
    have x1 := over_eq (mul_fr Fp Fq) Fq h0 (by decide)
    have x2 := over_eq Fp Fq h0 (by decide)
    have x3 := product_eq (div_fr Fp Fq h0) Fq (by decide)
    have x4 := over_eq F11 Fq h0 (by decide)
    have x5 := product_eq Fp (div_fr F11 Fq h0) (by decide)
    have y1 : divP (mulP p q) q = p := val_inj (div_fr (mul_fr Fp Fq) Fq h0) Fp (by
      rw [val_div (mul_fr Fp Fq) Fq h0, val_mul Fp Fq]; grind)
    have y3 : mulP (divP p q) q = p := val_inj (mul_fr (div_fr Fp Fq h0) Fq) Fp (by
      rw [val_mul (div_fr Fp Fq h0) Fq, val_div Fp Fq h0]; grind)
    have y5 : mulP p (divP (1, 1) q) = divP p q := val_inj (mul_fr Fp (div_fr F11 Fq h0)) (div_fr Fp Fq h0) (by
      rw [val_mul Fp (div_fr F11 Fq h0), val_div F11 Fq h0, val_div Fp Fq h0, v11]; grind)
    rw [y1] at x1
    rw [y3] at x3
    rw [y5] at x5
    unfold w11_law
    simp [gof, ienv, islots, sSeq, sIf, sT, sBind, Env.views, Env.sv, gTest, gOp2, gOp1, gVar, gC, dIx, atI, ixN, OO.view, viewAll, dEq_int, dNe_int, sNx, sRet, sSet, sV, Env.store, Env.put, DD.td, tdAll, sSetIx, sFz, setAt0, setAt, Env.pl, Env.pset, sRetVar, sReturn, sCallK, sCallIo, callIo, callRd, arr, pick, sNil, sCons, sNameF, sOp2, sOp1, sTe, sOpt, sNot, sOr, sAnd, gNot, gOr, gAnd, gOrV, gAndV, dAdd, dSub, dNeg, dLt, dLe, dGt, dGe, dCmp, gArgs, DL.gNil, DL.gCons, dLen, dAbs, dIntOf, dTup, dLst, sLst, sTup, sPar, uGo, uCons, uName, uNil, dIsi, Ty.is, DD.ty, dNot, dIsX, sTry, hAs, hOn, hNil, unAs, unEx, sDrop, sRaise, gE, gTe, slotOf, sItems, dItems, sArgsL, dListOf, e0, e1, e2, e3, uTup, sUn, uGo, sLc, sRange, hd, DL.Env.wipe, e4, e5, vA, hBl, e6, e7, vQ, t1, t2, sSlL, gNoPart, gPart, c1, c2, dv, dv2, dv3, t3, t4, t5, m1, m2, m3, m4, m5, mr, vM, t6, g1, g2, h0, dNe_tup2, x1, x2, x3, x4, x5]
    exact ⟨_, _, _, _, _, _, _, _, _, rfl⟩
theorem law_true (ns : List Int) (hl : ns.length ≤ 63) : f_law [.lst (ns.map DD.int)] [] = some (.ret (.dat (.bl true)), []) := by
  obtain ⟨ρ', e, t1, t2, t3, t4, t5, t6, t7, t8, t9, rfl⟩ := loopF_inv (g := uName 1) (b := w11_law) (I := fun ρ : DL.Env => ∃ t1 t2 t3 t4 t5 t6 t7 t8 t9, ρ = E10 (.lst (ns.map DD.int)) t1 t2 t3 t4 t5 t6 t7 t8 t9) (rangeD 0 30) (E10 (.lst (ns.map DD.int)) .no .no .no .no .no .no .no .no .no) ⟨_, _, _, _, _, _, _, _, _, rfl⟩ (by
    rintro d hd ρ ⟨t1, t2, t3, t4, t5, t6, t7, t8, t9, rfl⟩
    obtain ⟨i, hi, rfl⟩ := rangeD_mem hd
    rw [Int.zero_add]
    refine ⟨E10 (.lst (ns.map DD.int)) (.own (.dat (.int (i : Int)))) t2 t3 t4 t5 t6 t7 t8 t9, rfl, ?_⟩
    obtain ⟨u1, u2, u3, u4, u5, u6, u7, u8, u9, h⟩ := turn_ok (ns := ns) hi t2 t3 t4 t5 t6 t7 t8 t9
    exact ⟨_, h, _, _, _, _, _, _, _, _, _, rfl⟩)
  unfold f_law b_law
  simp [gof, ienv, islots, sSeq, sIf, sT, sBind, Env.views, Env.sv, gTest, gOp2, gOp1, gVar, gC, dIx, atI, ixN, OO.view, viewAll, dEq_int, dNe_int, sNx, sRet, sSet, sV, Env.store, Env.put, DD.td, tdAll, sSetIx, sFz, setAt0, setAt, Env.pl, Env.pset, sRetVar, sReturn, sCallK, sCallIo, callIo, callRd, arr, pick, sNil, sCons, sNameF, sOp2, sOp1, sTe, sOpt, sNot, sOr, sAnd, gNot, gOr, gAnd, gOrV, gAndV, dAdd, dSub, dNeg, dLt, dLe, dGt, dGe, dCmp, gArgs, DL.gNil, DL.gCons, dLen, dAbs, dIntOf, dTup, dLst, sLst, sTup, sPar, uGo, uCons, uName, uNil, dIsi, Ty.is, DD.ty, dNot, dIsX, sTry, hAs, hOn, hNil, unAs, unEx, sDrop, sRaise, gE, gTe, slotOf, sItems, dItems, sArgsL, dListOf, sFor, sRange, dRange1, e]

/-! ### the head -/
abbrev R : PySem.W.OpenRow := PySem.W.OpenLaw.row PySem.Challenge.rw_wireland_k03_whole_fractions_by_fraction
abbrev hk : PySem.W.Hook := hookL 4 fa fn exs
def ob (s : PySem.W.SharedT) : AlL := obsLG 4 fa fn exs (HandSHeadRun.getT s)
theorem ob_eq (s : PySem.W.SharedT) : ob s = hk.obs s.abs := obsLG_eq (HandSHeadRun.getT_eq s)
theorem run (w : World) : HandSHeadRun.RunEq R (PySem.W.view R.prog [23]) hk ob 4000 ["WireError", "NoNumber", "NONE", "divisor", "lowest", "plus", "total", "product", "over", "below", "_law_mixed", "_law_pile", "_law_take", "_law_order", "_law_low", "_law_plus", "_law_minus", "_law_by", "_law_number", "_law_goes"] w := by
  intro os
  kernel_rfl
end Lk03
open PySem PySem.W PySem.Calls PyProof.Rows
set_option maxRecDepth 100000 in
set_option maxHeartbeats 0 in
theorem PySem.Challenge.cw_wireland_k03_whole_fractions_by_fraction_holds : PySem.Challenge.rw_wireland_k03_whole_fractions_by_fraction.Holds := by
  w_on; o_law
  refine HandSHeadRun.head_any (r := OpenLaw.row PySem.Challenge.rw_wireland_k03_whole_fractions_by_fraction) (q := view (OpenLaw.row PySem.Challenge.rw_wireland_k03_whole_fractions_by_fraction).prog [23]) (H := Lk03.hk) (ob := Lk03.ob) (M := 4000) (loose := ["WireError", "NoNumber", "NONE", "divisor", "lowest", "plus", "total", "product", "over", "below", "_law_mixed", "_law_pile", "_law_take", "_law_order", "_law_low", "_law_plus", "_law_minus", "_law_by", "_law_number", "_law_goes"]) (d := HandSHeadRun.topDef (OpenLaw.row PySem.Challenge.rw_wireland_k03_whole_fractions_by_fraction).prog 23) (kwd := []) Lk03.ob_eq
    (by kernel_rfl) (fun s => by kernel_rfl) Lk03.run (by kernel_rfl) (by kernel_rfl) (by kernel_rfl) (by rfl) (by first | assumption | decide +kernel) (by decide +kernel) ⟨rfl, rfl, rfl, rfl, rfl, by decide +kernel⟩ ?hw ?hc
  case hw => w_witness2
  case hc =>
    refine DL.walk_dl (l := PySem.Challenge.rw_wireland_k03_whole_fractions_by_fraction) (n := 63) (k := 6) (x := "_law_script") (CX := fun w => L2.CX (PySem.Challenge.rw_wireland_k03_whole_fractions_by_fraction).prog w) rfl (by decide) (by kernel_rfl) ⟨rfl, by decide, by decide⟩ ?F (fun _ _ _ _ _ z => DL.cx0 _ _ _ _ z)
    intro w mg fa h Y G hmg0
    obtain ⟨K, KX, c⟩ := Y
    have hmg : mg ("law" : PySem.Str) = some (.ref fa) := by
      have e : (HandSHeadRun.topDef (OpenLaw.row PySem.Challenge.rw_wireland_k03_whole_fractions_by_fraction).prog 23).name = ("law" : PySem.Str) := by kernel_rfl
      rw [← e]
      exact hmg0
    obtain ⟨fd, hb, hF⟩ := Lk03.facts (P := (PySem.Challenge.rw_wireland_k03_whole_fractions_by_fraction).prog) (w := w) KX G hmg c
    exact ⟨K, fd, DL.spD K (Lk03.T K) [false] Lk03.f_law, KX, hb, fun H a ns hl _ hS => DL.law_sp (Lk03.law_true ns hl) hS, hF⟩
#print axioms PySem.Challenge.cw_wireland_k03_whole_fractions_by_fraction_holds
